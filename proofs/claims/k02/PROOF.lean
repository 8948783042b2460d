import PyProof.Rows.All
import Wide.All
import OpenK.AllK
import Wide.FinOn
import HandS.ForMost
import HandS.ForExc
import HandS.Lambda
import KE.GoesRaise
import KE.KExcSuper
import HandS.RaiseMore
import HandS.ExcIs
import HandS.ExcValue
import HandS.Wide
import HandS.WideBits
import HandS.TupAny
import HandS.TupMul
import HandS.TupLe
import HandS.Deep
import HandS.Style
import HandS.IsInst
import KE.SortData
import PyProof.ReprRoads
import KE.KExcIs
import HandS.TupLen
import HandS.ExcField
import HandS.WordsDict
import HandS.Conv
import HandS.More
import HandS.Small
import KE.KDictSum
import HandS.Words
import HandS.Codes
import KE.OsSortAny
import HandS.EndBits
import HandS.HeadHook1
import PySem.Challenge.RW_turnedletters_k02_whole_forms_of_sums
set_option Elab.async false
set_option linter.all false
set_option maxRecDepth 100000
set_option maxHeartbeats 4000000
set_option autoImplicit false
namespace TL
open PySem PySem.Spec PyProof.Rows L2
/-! ## deep values -/
inductive D where
  | non | bl (b : Bool) | int (i : Int) | str (x : Str)
  | tup (xs : List D) | lst (xs : List D)
  | dk (ks : List Key) (vs : List D) | dt (ks : List (List Key)) (vs : List D)
  | obj (i : Nat) | err (c : Nat) (fs : List D) | cls (c : Nat) | raw (v : V) | scr (ns : List Int)
  deriving Inhabited
/-- what is fixed: the written part, the addresses of own classes, the fields of own errors -/
structure Wc where
  K : PySem.W.Frag
  T : List (Addr × Str)
  cls : Nat → Addr
  fld : Nat → List Str
/-- and lists that are being made: nobody reads them -/
structure Wd extends Wc where
  hid : Addr → Prop
def whd (w : Wd) (hd : Addr → Prop) : Wd := { w with hid := hd }
/-- the object of an own error: its class, its own dict -/
def ErrO (C : Addr) (d : Option Addr) (a : Addr) : HO := .ext fun h => ∃ oe vs, h.get? a = some oe ∧ oe.cls = .ref C ∧ oe.dict = d ∧ oe.data = .fields vs
abbrev Std := List (Option D)
abbrev Sto := List D
/-- a live mutable object's address -/
def Lv (w : Wd) (ρ : List Addr) (M : Sto) (a : Addr) : Prop := w.hid a ∨ ∃ (i : Nat) (d : D), ρ[i]? = some a ∧ M[i]? = some d ∧ d ≠ D.non
/-- a tuple, a list of the written part -/
def KTup (K : PySem.W.Frag) (a : Addr) (xs : List V) : Prop :=
  ∃ (o : Obj) (its : Array Value) (n : Nat), K.lookup a = some o ∧ o.cls = .type "tuple" ∧ o.data = .seq its n ∧ its.size ≤ sizeLine ∧ Vals xs its.toList
def KLst (K : PySem.W.Frag) (a : Addr) (xs : List V) : Prop :=
  ∃ (o : Obj) (its : Array Value) (n : Nat), K.lookup a = some o ∧ o.cls = .type "list" ∧ o.dict = none ∧ o.data = .seq its n ∧ its.size ≤ sizeLine ∧ Vals xs its.toList
def TupAt (w : Wc) (H : Hp) (L : Addr → Prop) (a : Addr) (vs : List V) : Prop := (H a = some (.tup vs) ∧ ¬ L a) ∨ False
def LstAt (w : Wc) (H : Hp) (L : Addr → Prop) (a : Addr) (vs : List V) : Prop := (H a = some (.lst vs) ∧ ¬ L a) ∨ False
/-- the script's list: frozen, or the module's own -/
def ScrAt (w : Wc) (H : Hp) (L : Addr → Prop) (a : Addr) (vs : List V) : Prop := ((∃ ob, H a = some (.frz ob (.lst vs))) ∧ ¬ L a) ∨ KLst w.K a vs
theorem ScrAt.sq {w : Wc} {H : Hp} {L : Addr → Prop} {a : Addr} {vs : List V} (h : ScrAt w H L a vs) : SqL w.K H a vs := h.imp (fun h => .inr h.1) id
theorem TupAt.sq {w : Wc} {H : Hp} {L : Addr → Prop} {a : Addr} {vs : List V} (h : TupAt w H L a vs) : SqT w.K H a vs := h.imp (fun h => .inl h.1) False.elim
theorem LstAt.sq {w : Wc} {H : Hp} {L : Addr → Prop} {a : Addr} {vs : List V} (h : LstAt w H L a vs) : SqL w.K H a vs := h.imp (fun h => .inl h.1) False.elim
mutual
inductive Rep (w : Wc) (H : Hp) (ρ : List Addr) (L : Addr → Prop) : D → V → Prop
  | non : Rep w H ρ L .non .non
  | bl (b : Bool) : Rep w H ρ L (.bl b) (.bl b)
  | int (i : Int) : Rep w H ρ L (.int i) (.int i)
  | str (x : Str) : Rep w H ρ L (.str x) (.str x)
  | raw (v : V) : Rep w H ρ L (.raw v) v
  | scr {a : Addr} {ns : List Int} : ScrAt w H L a (ns.map V.int) → Rep w H ρ L (.scr ns) (.ref a)
  | cls (c : Nat) : Rep w H ρ L (.cls c) (.ref (w.cls c))
  | obj {i : Nat} {a : Addr} : ρ[i]? = some a → Rep w H ρ L (.obj i) (.ref a)
  | tup {a : Addr} {vs : List V} {ds : List D} : TupAt w H L a vs → RepL w H ρ L ds vs → Rep w H ρ L (.tup ds) (.ref a)
  | lst {a : Addr} {vs : List V} {ds : List D} : LstAt w H L a vs → RepL w H ρ L ds vs → Rep w H ρ L (.lst ds) (.ref a)
  | dk {a : Addr} {ks : List Key} {vs : List V} {ds : List D} : H a = some (.dK (ks.zip vs)) → ks.length = vs.length → ¬ L a → RepL w H ρ L ds vs → Rep w H ρ L (.dk ks ds) (.ref a)
  | dt {a : Addr} {ks : List (List Key)} {vs : List V} {ds : List D} : H a = some (.dT (ks.zip vs)) → ks.length = vs.length → ¬ L a → RepL w H ρ L ds vs → Rep w H ρ L (.dt ks ds) (.ref a)
  | err {c : Nat} {a : Addr} {d : Option Addr} {vs : List V} {ds : List D} : H a = some (ErrO (w.cls c) d a) → ¬ L a → (w.fld c).length = vs.length →
      ((vs = [] ∧ d = none) ∨ ∃ dd, d = some dd ∧ ¬ L dd ∧ H dd = some (.xd ((w.fld c).zip vs))) → RepL w H ρ L ds vs → Rep w H ρ L (.err c ds) (.ref a)
inductive RepL (w : Wc) (H : Hp) (ρ : List Addr) (L : Addr → Prop) : List D → List V → Prop
  | nil : RepL w H ρ L [] []
  | cons {d : D} {v : V} {ds : List D} {vs : List V} : Rep w H ρ L d v → RepL w H ρ L ds vs → RepL w H ρ L (d :: ds) (v :: vs)
end
/-- a mutable object's content -/
def RepC (w : Wc) (H : Hp) (ρ : List Addr) (L : Addr → Prop) (a : Addr) : D → Prop
  | .lst ds => ∃ vs, H a = some (.lst vs) ∧ RepL w H ρ L ds vs
  | .dk ks ds => ∃ vs, H a = some (.dK (ks.zip vs)) ∧ ks.length = vs.length ∧ RepL w H ρ L ds vs
  | .dt ks ds => ∃ vs, H a = some (.dT (ks.zip vs)) ∧ ks.length = vs.length ∧ RepL w H ρ L ds vs
  | _ => False
/-- a list, a dict -/
def isMu : Option HO → Prop
  | some (.lst _) => True
  | some (.dK _) => True
  | some (.dT _) => True
  | _ => False
structure RepM (w : Wd) (H : Hp) (ρ : List Addr) (M : Sto) : Prop where
  len : ρ.length = M.length
  nd : ρ.Nodup
  has : ∀ a ∈ ρ, H a ≠ none
  hid : ∀ a, w.hid a → a ∉ ρ ∧ H a ≠ none
  hk : ∀ a, w.hid a → isMu (H a)
  tabs : LamX.Tabs w.T H
  obj : ∀ (i : Nat) (a : Addr) (d : D), ρ[i]? = some a → M[i]? = some d → d ≠ D.non → RepC w.toWc H ρ (Lv w ρ M) a d
structure RepS (w : Wc) (H : Hp) (ρ : List Addr) (L : Addr → Prop) (σ : Std) (σv : L2.St) : Prop where
  len : σ.length = σv.length
  at_ : ∀ (i : Nat) (d : D), σ[i]? = some (some d) → ∃ v, σv[i]? = some (some v) ∧ Rep w H ρ L d v
/-- from one state to a later one -/
structure Ext (w : Wd) (H : Hp) (ρ : List Addr) (L : Addr → Prop) (H' : Hp) (ρ' : List Addr) (L' : Addr → Prop) : Prop where
  fr : ∀ a o, H a = some o → ¬ L a → (∀ ps, o ≠ .tbl ps) → H' a = some o
  has : ∀ a, H a ≠ none → H' a ≠ none
  ix : ∀ (i : Nat) (a : Addr), ρ[i]? = some a → ρ'[i]? = some a
  lv : ∀ a, L' a → L a ∨ H a = none
  hid : ∀ a, w.hid a → H' a = H a
theorem Ext.refl {w : Wd} {H : Hp} {ρ : List Addr} {L : Addr → Prop} : Ext w H ρ L H ρ L := ⟨fun _ _ h _ _ => h, fun _ h => h, fun _ _ h => h, fun _ h => .inl h, fun _ _ => rfl⟩
theorem Ext.trans {w : Wd} {H H1 H2 : Hp} {ρ ρ1 ρ2 : List Addr} {L L1 L2 : Addr → Prop} (a : Ext w H ρ L H1 ρ1 L1) (b : Ext w H1 ρ1 L1 H2 ρ2 L2) : Ext w H ρ L H2 ρ2 L2 where
  fr := fun x o h n t => b.fr x o (a.fr x o h n t) (fun q => (a.lv x q).elim n fun z => by rw [h] at z; cases z) t
  has := fun x h => b.has x (a.has x h)
  ix := fun i x h => b.ix i x (a.ix i x h)
  lv := fun x h => (b.lv x h).elim (a.lv x) fun z => .inr (by
    cases q : H x with
    | none => rfl
    | some o => exact absurd z (a.has x (by rw [q]; simp)))
  hid := fun x h => (b.hid x h).trans (a.hid x h)
section
variable {w : Wd} {H H' : Hp} {ρ ρ' : List Addr} {L L' : Addr → Prop}
theorem nl_ext {a : Addr} (e : Ext w H ρ L H' ρ' L') (n : ¬ L a) (h : H a ≠ none) : ¬ L' a := fun q => (e.lv a q).elim n h
end
section
variable {w : Wd} {c : Wc} {H H' : Hp} {ρ ρ' : List Addr} {L L' : Addr → Prop} {a : Addr} {vs : List V}
theorem TupAt.ext (e : Ext w H ρ L H' ρ' L') (h : TupAt c H L a vs) : TupAt c H' L' a vs := h.imp (fun ⟨s, n⟩ => ⟨e.fr _ _ s n (fun _ z => nomatch z), nl_ext e n (by rw [s]; simp)⟩) id
theorem ScrAt.ext (e : Ext w H ρ L H' ρ' L') (h : ScrAt c H L a vs) : ScrAt c H' L' a vs := h.imp (fun ⟨⟨ob, s⟩, n⟩ => ⟨⟨ob, e.fr _ _ s n (fun _ z => nomatch z)⟩, nl_ext e n (by rw [s]; simp)⟩) id
theorem LstAt.ext (e : Ext w H ρ L H' ρ' L') (h : LstAt c H L a vs) : LstAt c H' L' a vs := h.imp (fun ⟨s, n⟩ => ⟨e.fr _ _ s n (fun _ z => nomatch z), nl_ext e n (by rw [s]; simp)⟩) id
end
mutual
theorem Rep.ext {w : Wd} {c : Wc} {H H' : Hp} {ρ ρ' : List Addr} {L L' : Addr → Prop} (e : Ext w H ρ L H' ρ' L') : ∀ {d : D} {v : V}, Rep c H ρ L d v → Rep c H' ρ' L' d v
  | _, _, .non => .non
  | _, _, .bl b => .bl b
  | _, _, .int i => .int i
  | _, _, .str x => .str x
  | _, _, .raw v => .raw v
  | _, _, .cls c => .cls c
  | _, _, .scr s => .scr (s.ext e)
  | _, _, .obj h => .obj (e.ix _ _ h)
  | _, _, .tup s r => .tup (s.ext e) (RepL.ext e r)
  | _, _, .lst s r => .lst (s.ext e) (RepL.ext e r)
  | _, _, .dk s l n r => .dk (e.fr _ _ s n (fun _ z => nomatch z)) l (nl_ext e n (by rw [s]; simp)) (RepL.ext e r)
  | _, _, .dt s l n r => .dt (e.fr _ _ s n (fun _ z => nomatch z)) l (nl_ext e n (by rw [s]; simp)) (RepL.ext e r)
  | _, _, .err s n l f r => .err (e.fr _ _ s n (fun _ z => nomatch z)) (nl_ext e n (by rw [s]; simp)) l
      (f.imp id fun ⟨dd, e1, n1, h1⟩ => ⟨dd, e1, nl_ext e n1 (by rw [h1]; simp), e.fr _ _ h1 n1 (fun _ z => nomatch z)⟩) (RepL.ext e r)
theorem RepL.ext {w : Wd} {c : Wc} {H H' : Hp} {ρ ρ' : List Addr} {L L' : Addr → Prop} (e : Ext w H ρ L H' ρ' L') : ∀ {ds : List D} {vs : List V}, RepL c H ρ L ds vs → RepL c H' ρ' L' ds vs
  | _, _, .nil => .nil
  | _, _, .cons a b => .cons (Rep.ext e a) (RepL.ext e b)
end
theorem RepS.ext {w : Wd} {c : Wc} {H H' : Hp} {ρ ρ' : List Addr} {L L' : Addr → Prop} {σ : Std} {σv : L2.St} (e : Ext w H ρ L H' ρ' L') (h : RepS c H ρ L σ σv) : RepS c H' ρ' L' σ σv :=
  ⟨h.len, fun i d q => let ⟨v, h1, h2⟩ := h.at_ i d q; ⟨v, h1, h2.ext e⟩⟩
section
variable {w : Wc} {H H' : Hp} {ρ ρ' : List Addr} {L L' : Addr → Prop}
theorem RepL.length : ∀ {ds : List D} {vs : List V}, RepL w H ρ L ds vs → ds.length = vs.length
  | _, _, .nil => rfl
  | _, _, .cons _ b => by simp [RepL.length b]
theorem RepL.get : ∀ {ds : List D} {vs : List V} {i : Nat} {d : D}, RepL w H ρ L ds vs → ds[i]? = some d → ∃ v, vs[i]? = some v ∧ Rep w H ρ L d v
  | _, _, 0, _, .cons a _, e => by simp at e; subst e; exact ⟨_, rfl, a⟩
  | _, _, i + 1, _, .cons _ b, e => by simpa using RepL.get b (by simpa using e)
theorem RepL.getV : ∀ {ds : List D} {vs : List V} {i : Nat} {v : V}, RepL w H ρ L ds vs → vs[i]? = some v → ∃ d, ds[i]? = some d ∧ Rep w H ρ L d v
  | _, _, 0, _, .cons a _, e => by simp at e; subst e; exact ⟨_, rfl, a⟩
  | _, _, i + 1, _, .cons _ b, e => by simpa using RepL.getV b (by simpa using e)
theorem RepL.append : ∀ {ds es : List D} {vs us : List V}, RepL w H ρ L ds vs → RepL w H ρ L es us → RepL w H ρ L (ds ++ es) (vs ++ us)
  | _, _, _, _, .nil, q => q
  | _, _, _, _, .cons a b, q => .cons a (RepL.append b q)
theorem RepL.snoc {ds : List D} {vs : List V} {d : D} {v : V} (h : RepL w H ρ L ds vs) (r : Rep w H ρ L d v) : RepL w H ρ L (ds ++ [d]) (vs ++ [v]) := h.append (.cons r .nil)
theorem RepL.take : ∀ {ds : List D} {vs : List V} (n : Nat), RepL w H ρ L ds vs → RepL w H ρ L (ds.take n) (vs.take n)
  | _, _, 0, _ => .nil
  | _, _, _ + 1, .nil => .nil
  | _, _, n + 1, .cons a b => .cons a (RepL.take n b)
theorem RepL.drop : ∀ {ds : List D} {vs : List V} (n : Nat), RepL w H ρ L ds vs → RepL w H ρ L (ds.drop n) (vs.drop n)
  | _, _, 0, h => h
  | _, _, _ + 1, .nil => .nil
  | _, _, n + 1, .cons _ b => RepL.drop n b
theorem RepL.set {d : D} {v : V} (r : Rep w H ρ L d v) : ∀ {ds : List D} {vs : List V} (n : Nat), RepL w H ρ L ds vs → RepL w H ρ L (ds.set n d) (vs.set n v)
  | _, _, _, .nil => .nil
  | _, _, 0, .cons _ b => .cons r b
  | _, _, n + 1, .cons a b => .cons a (RepL.set r n b)
theorem RepL.eraseIdx : ∀ {ds : List D} {vs : List V} (n : Nat), RepL w H ρ L ds vs → RepL w H ρ L (ds.eraseIdx n) (vs.eraseIdx n)
  | _, _, _, .nil => .nil
  | _, _, 0, .cons _ b => b
  | _, _, n + 1, .cons a b => .cons a (RepL.eraseIdx n b)
theorem RepL.reverse {ds : List D} {vs : List V} (h : RepL w H ρ L ds vs) : RepL w H ρ L ds.reverse vs.reverse := by
  induction ds generalizing vs with
  | nil => cases h; exact .nil
  | cons d ds ih =>
    cases h with
    | cons a b => rw [List.reverse_cons, List.reverse_cons]; exact (ih b).snoc a
end
end TL
namespace TL
open PySem PySem.Spec PyProof.Rows L2
/-! ## the store -/
section
variable {w : Wd} {H H' : Hp} {ρ ρ' : List Addr} {M M' : Sto} {L L' : Addr → Prop} {p a : Addr} {o : HO}
theorem isMu_nn {H : Hp} {a : Addr} (h : isMu (H a)) : H a ≠ none := fun e => by rw [e] at h; exact h
theorem isMu_tup {H : Hp} {a : Addr} {xs : List V} (h : isMu (H a)) : H a ≠ some (.tup xs) := fun e => by rw [e] at h; exact h
theorem Tabs.upd {T : List (Addr × Str)} {H : Hp} {a : Addr} {o : HO} (t : LamX.Tabs T H) (h : H a = none ∨ isMu (H a)) : LamX.Tabs T (upd H a o) := fun p hp => by
  obtain ⟨ps, h1, h2, h3⟩ := t p hp
  have ne : ∀ b u, H b = some u → ¬ isMu (some u) → b ≠ a := fun b u e n z => by
    rw [z] at e
    rcases h with h | h
    · rw [h] at e; cases e
    · rw [e] at h; exact n h
  refine ⟨ps, by rw [upd_ne (ne _ _ h1 id)]; exact h1, h2, fun pos cv hc => ?_⟩
  obtain ⟨c, e1, e2⟩ := h3 pos cv hc
  exact ⟨c, e1, by rw [upd_ne (ne _ _ e2 id)]; exact e2⟩
/-- live, not hidden -/
def Lo (ρ : List Addr) (M : Sto) (a : Addr) : Prop := ∃ (i : Nat) (d : D), ρ[i]? = some a ∧ M[i]? = some d ∧ d ≠ D.non
theorem Lo.mem (h : Lo ρ M a) : a ∈ ρ := let ⟨_, _, e, _⟩ := h; List.mem_of_getElem? e
theorem RepM.live (m : RepM w H ρ M) (h : Lv w ρ M a) : H a ≠ none := h.elim (fun h => (m.hid a h).2) fun h => m.has a (Lo.mem h)
theorem Ext.fresh (hh : ∀ a, w.hid a → H a ≠ none) (hp : H p = none) (hL : L' = L) : Ext w H ρ L (upd H p o) ρ L' := by
  subst hL
  exact ⟨fun a u h _ _ => by rw [upd_ne (ne_of_none h hp)]; exact h, fun a h => by
    by_cases e : a = p
    · subst e; rw [upd_same]; simp
    · rw [upd_ne e]; exact h, fun _ _ h => h, fun _ h => .inl h, fun a h => upd_ne fun e => hh a h (by rw [e]; exact hp)⟩
theorem RepM.hh (m : RepM w H ρ M) : ∀ a, w.hid a → H a ≠ none := fun a h => (m.hid a h).2
theorem Ext.same (hL : ∀ a, L' a → L a) : Ext w H ρ L H ρ L' := ⟨fun _ _ h _ _ => h, fun _ h => h, fun _ _ h => h, fun a h => .inl (hL a h), fun _ _ => rfl⟩
theorem RepC.ext {c : Wc} {d : D} (hne : H a = H' a) (e : Ext w H ρ L H' ρ' L') (h : RepC c H ρ L a d) : RepC c H' ρ' L' a d := by
  cases d with
  | lst ds => obtain ⟨vs, h1, h2⟩ := h; exact ⟨vs, hne ▸ h1, h2.ext e⟩
  | dk ks ds => obtain ⟨vs, h1, l, h2⟩ := h; exact ⟨vs, hne ▸ h1, l, h2.ext e⟩
  | dt ks ds => obtain ⟨vs, h1, l, h2⟩ := h; exact ⟨vs, hne ▸ h1, l, h2.ext e⟩
  | _ => exact h.elim
theorem RepM.fresh (m : RepM w H ρ M) (hp : H p = none) : RepM w (upd H p o) ρ M where
  len := m.len
  nd := m.nd
  has := fun a h => (Ext.fresh (ρ := ρ) (L := Lv w ρ M) (o := o) m.hh hp rfl).has a (m.has a h)
  hid := fun a h => ⟨(m.hid a h).1, (Ext.fresh (ρ := ρ) (L := Lv w ρ M) (o := o) m.hh hp rfl).has a (m.hid a h).2⟩
  hk := fun a h => by rw [upd_ne fun e => (m.hid a h).2 (by rw [e]; exact hp)]; exact m.hk a h
  tabs := Tabs.upd m.tabs (.inl hp)
  obj := fun i a d h1 h2 h3 => (m.obj i a d h1 h2 h3).ext (by
    have := m.has a (List.mem_of_getElem? h1)
    exact (upd_ne (a := p) (b := a) (fun e => this (by rw [e]; exact hp))).symm) (Ext.fresh m.hh hp rfl)
/-- a tuple is no live object -/
theorem RepM.tupNot {a : Addr} {xs : List V} (m : RepM w H ρ M) (h : H a = some (.tup xs)) : ¬ Lv w ρ M a := fun z => by
  rcases z with z | ⟨i, d, e1, e2, e3⟩
  · exact isMu_tup (m.hk a z) h
  · have hc := m.obj i a d e1 e2 e3
    cases d with
    | lst ds => obtain ⟨vs, q, _⟩ := hc; rw [h] at q; cases q
    | dk ks ds => obtain ⟨vs, q, _⟩ := hc; rw [h] at q; cases q
    | dt ks ds => obtain ⟨vs, q, _⟩ := hc; rw [h] at q; cases q
    | _ => exact hc.elim
theorem RepM.notIn (m : RepM w H ρ M) (hp : H p = none) : p ∉ ρ := fun h => m.has p h hp
theorem RepM.notLv (m : RepM w H ρ M) (hp : H p = none) : ¬ Lv w ρ M p := fun h => m.live h hp
/-- a mutable object is made -/
theorem Ext.made {d : D} (m : RepM w H ρ M) (hp : H p = none) : Ext w H ρ (Lv w ρ M) (upd H p o) (ρ ++ [p]) (Lv w (ρ ++ [p]) (M ++ [d])) where
  fr := (Ext.fresh (ρ := ρ) (L := Lv w ρ M) m.hh hp rfl).fr
  has := (Ext.fresh (ρ := ρ) (L := Lv w ρ M) m.hh hp rfl).has
  hid := (Ext.fresh (ρ := ρ) (L := Lv w ρ M) m.hh hp rfl).hid
  ix := fun i a h => by rw [List.getElem?_append_left (List.getElem?_eq_some_iff.mp h).1]; exact h
  lv := fun a hh => by
    rcases hh with hh | ⟨i, x, h1, h2, h3⟩
    · exact .inl (.inl hh)
    by_cases hi : i < ρ.length
    · rw [List.getElem?_append_left hi] at h1
      rw [List.getElem?_append_left (m.len ▸ hi)] at h2
      exact .inl (.inr ⟨i, x, h1, h2, h3⟩)
    · rw [List.getElem?_append_right (Nat.le_of_not_lt hi)] at h1
      have : a = p := by
        cases q : i - ρ.length with
        | zero => rw [q] at h1; simpa using h1.symm
        | succ n => rw [q] at h1; simp at h1
      exact .inr (this ▸ hp)
theorem RepM.made {d : D} (m : RepM w H ρ M) (hp : H p = none) (hc : RepC w.toWc (upd H p o) (ρ ++ [p]) (Lv w (ρ ++ [p]) (M ++ [d])) p d) : RepM w (upd H p o) (ρ ++ [p]) (M ++ [d]) where
  len := by simp [m.len]
  nd := by
    rw [List.nodup_append]
    exact ⟨m.nd, by simp, fun x hx y hy e => by simp at hy; subst hy; subst e; exact m.notIn hp hx⟩
  has := fun a h => by
    rcases List.mem_append.mp h with h | h
    · exact (Ext.fresh (ρ := ρ) (L := Lv w ρ M) (o := o) m.hh hp rfl).has a (m.has a h)
    · simp at h; subst h; rw [upd_same]; simp
  hid := fun a h => ⟨fun z => by
    rcases List.mem_append.mp z with z | z
    · exact (m.hid a h).1 z
    · simp at z; subst z; exact (m.hid a h).2 hp, (Ext.fresh (ρ := ρ) (L := Lv w ρ M) (o := o) m.hh hp rfl).has a (m.hid a h).2⟩
  hk := fun a h => by rw [upd_ne fun e => (m.hid a h).2 (by rw [e]; exact hp)]; exact m.hk a h
  tabs := Tabs.upd m.tabs (.inl hp)
  obj := fun i a x h1 h2 h3 => by
    by_cases hi : i < ρ.length
    · rw [List.getElem?_append_left hi] at h1
      rw [List.getElem?_append_left (m.len ▸ hi)] at h2
      exact (m.obj i a x h1 h2 h3).ext (upd_ne (a := p) (b := a) (fun e => m.has a (List.mem_of_getElem? h1) (by rw [e]; exact hp))).symm (Ext.made m hp)
    · rw [List.getElem?_append_right (Nat.le_of_not_lt hi)] at h1
      rw [List.getElem?_append_right (m.len ▸ Nat.le_of_not_lt hi)] at h2
      cases q : i - ρ.length with
      | zero =>
        rw [q] at h1
        rw [← m.len, q] at h2
        obtain rfl : p = a := by simpa using h1
        obtain rfl : d = x := by simpa using h2
        exact hc
      | succ n => rw [q] at h1; simp at h1
theorem RepM.muAt {i : Nat} {d : D} (m : RepM w H ρ M) (h1 : ρ[i]? = some a) (h2 : M[i]? = some d) (h3 : d ≠ .non) : isMu (H a) := by
  have hc := m.obj i a d h1 h2 h3
  cases d with
  | lst ds => obtain ⟨vs, q, _⟩ := hc; rw [q]; trivial
  | dk ks ds => obtain ⟨vs, q, _⟩ := hc; rw [q]; trivial
  | dt ks ds => obtain ⟨vs, q, _⟩ := hc; rw [q]; trivial
  | _ => exact hc.elim
/-- a mutable object is written -/
theorem lv_set {i : Nat} {d : D} (h1 : ρ[i]? = some a) (h2 : M[i]? = some d) (h3 : d ≠ .non) (d' : D) (x : Addr) (h : Lv w ρ (M.set i d') x) : Lv w ρ M x := by
  rcases h with h | ⟨j, y, e1, e2, e3⟩
  · exact .inl h
  by_cases hj : j = i
  · subst hj; exact .inr ⟨j, d, e1, h2, h3⟩
  · rw [List.getElem?_set_ne (Ne.symm hj)] at e2
    exact .inr ⟨j, y, e1, e2, e3⟩
theorem Ext.wrote {i : Nat} {d d' : D} (m : RepM w H ρ M) (h1 : ρ[i]? = some a) (h2 : M[i]? = some d) (h3 : d ≠ .non) : Ext w H ρ (Lv w ρ M) (upd H a o) ρ (Lv w ρ (M.set i d')) where
  fr := fun b u h n _ => by rw [upd_ne (a := a) (b := b) (fun e => n (by rw [e]; exact .inr ⟨i, d, h1, h2, h3⟩))]; exact h
  has := fun b h => by
    by_cases e : b = a
    · subst e; rw [upd_same]; simp
    · rw [upd_ne e]; exact h
  ix := fun _ _ h => h
  lv := fun x h => .inl (lv_set h1 h2 h3 d' x h)
  hid := fun b h => upd_ne fun e => (m.hid b h).1 (by rw [e]; exact List.mem_of_getElem? h1)
theorem RepM.wrote {i : Nat} {d d' : D} (m : RepM w H ρ M) (h1 : ρ[i]? = some a) (h2 : M[i]? = some d) (h3 : d ≠ .non) (hc : RepC w.toWc (upd H a o) ρ (Lv w ρ (M.set i d')) a d') : RepM w (upd H a o) ρ (M.set i d') where
  len := by rw [List.length_set]; exact m.len
  nd := m.nd
  has := fun b h => (Ext.wrote (d' := d') (o := o) m h1 h2 h3).has b (m.has b h)
  hid := fun b h => ⟨(m.hid b h).1, (Ext.wrote (d' := d') (o := o) m h1 h2 h3).has b (m.hid b h).2⟩
  hk := fun b h => by rw [upd_ne fun e => (m.hid b h).1 (by rw [e]; exact List.mem_of_getElem? h1)]; exact m.hk b h
  tabs := Tabs.upd m.tabs (.inr (m.muAt h1 h2 h3))
  obj := fun j b x e1 e2 e3 => by
    by_cases hj : j = i
    · subst hj
      rw [h1] at e1
      obtain rfl : a = b := by simpa using e1
      rw [List.getElem?_set_self (List.getElem?_eq_some_iff.mp h2).1] at e2
      obtain rfl : d' = x := by simpa using e2
      exact hc
    · rw [List.getElem?_set_ne (Ne.symm hj)] at e2
      have hne : b ≠ a := by
        rintro rfl
        obtain ⟨l1, q1⟩ := List.getElem?_eq_some_iff.mp e1
        obtain ⟨l2, q2⟩ := List.getElem?_eq_some_iff.mp h1
        exact hj ((List.getElem_inj m.nd).mp (q1.trans q2.symm))
      exact (m.obj j b x e1 e2 e3).ext (by rw [upd_ne hne]) (Ext.wrote m h1 h2 h3)
/-- a mutable object is a value from now on -/
theorem Ext.froze {i : Nat} {d : D} (h1 : ρ[i]? = some a) (h2 : M[i]? = some d) (h3 : d ≠ .non) : Ext w H ρ (Lv w ρ M) H ρ (Lv w ρ (M.set i .non)) := Ext.same (lv_set h1 h2 h3 .non)
theorem RepM.froze {i : Nat} {d : D} (m : RepM w H ρ M) (h1 : ρ[i]? = some a) (h2 : M[i]? = some d) (h3 : d ≠ .non) : RepM w H ρ (M.set i .non) where
  len := by rw [List.length_set]; exact m.len
  nd := m.nd
  has := m.has
  hid := m.hid
  hk := m.hk
  tabs := m.tabs
  obj := fun j b x e1 e2 e3 => by
    by_cases hj : j = i
    · subst hj
      rw [List.getElem?_set_self (List.getElem?_eq_some_iff.mp h2).1] at e2
      exact absurd (by simpa using e2.symm) e3
    · rw [List.getElem?_set_ne (Ne.symm hj)] at e2
      exact (m.obj j b x e1 e2 e3).ext rfl (Ext.froze h1 h2 h3)
theorem not_lv_froze {i : Nat} (m : RepM w H ρ M) (h1 : ρ[i]? = some a) (hi : i < M.length) : ¬ Lv w ρ (M.set i .non) a := fun hh => by
  rcases hh with hh | ⟨j, x, e1, e2, e3⟩
  · exact (m.hid a hh).1 (List.mem_of_getElem? h1)
  obtain ⟨l1, q1⟩ := List.getElem?_eq_some_iff.mp e1
  obtain ⟨l2, q2⟩ := List.getElem?_eq_some_iff.mp h1
  have hj : j = i := (List.getElem_inj m.nd).mp (q1.trans q2.symm)
  subst hj
  rw [List.getElem?_set_self hi] at e2
  exact e3 (by simpa using e2.symm)
theorem RepC.froze {d : D} (h : RepC w.toWc H ρ L a d) (n : ¬ L a) : Rep w.toWc H ρ L d (.ref a) := by
  cases d with
  | lst ds => obtain ⟨vs, h1, h2⟩ := h; exact .lst (.inl ⟨h1, n⟩) h2
  | dk ks ds => obtain ⟨vs, h1, l, h2⟩ := h; exact .dk h1 l n h2
  | dt ks ds => obtain ⟨vs, h1, l, h2⟩ := h; exact .dt h1 l n h2
  | _ => exact h.elim
end
/-! ## closed values: no object at n or above -/
mutual
def D.bd (n : Nat) : D → Bool
  | .obj i => decide (i < n)
  | .tup xs | .lst xs | .dk _ xs | .dt _ xs | .err _ xs => D.bdL n xs
  | _ => true
def D.bdL (n : Nat) : List D → Bool
  | [] => true
  | d :: ds => D.bd n d && D.bdL n ds
end
mutual
theorem Rep.cut {w : Wc} {H : Hp} {ρ : List Addr} {L L' : Addr → Prop} {n : Nat} (hL : ∀ a, L' a → L a) : ∀ {d : D} {v : V}, D.bd n d = true → Rep w H ρ L d v → Rep w H (ρ.take n) L' d v
  | _, _, _, .non => .non
  | _, _, _, .bl b => .bl b
  | _, _, _, .int i => .int i
  | _, _, _, .str x => .str x
  | _, _, _, .raw v => .raw v
  | _, _, _, .cls c => .cls c
  | .scr _, _, _, .scr s => .scr (s.imp (fun ⟨h, n⟩ => ⟨h, fun z => n (hL _ z)⟩) id)
  | .obj i, _, b, .obj h => .obj (by rw [List.getElem?_take_of_lt (by simpa [D.bd] using b)]; exact h)
  | .tup ds, _, b, .tup s r => .tup (s.imp (fun ⟨x, y⟩ => ⟨x, fun q => y (hL _ q)⟩) id) (RepL.cut hL (by simpa [D.bd] using b) r)
  | .lst ds, _, b, .lst s r => .lst (s.imp (fun ⟨x, y⟩ => ⟨x, fun q => y (hL _ q)⟩) id) (RepL.cut hL (by simpa [D.bd] using b) r)
  | .dk ks ds, _, b, .dk s l y r => .dk s l (fun q => y (hL _ q)) (RepL.cut hL (by simpa [D.bd] using b) r)
  | .dt ks ds, _, b, .dt s l y r => .dt s l (fun q => y (hL _ q)) (RepL.cut hL (by simpa [D.bd] using b) r)
  | .err c ds, _, b, .err s y l f r => .err s (fun q => y (hL _ q)) l (f.imp id fun ⟨dd, e1, n1, h1⟩ => ⟨dd, e1, fun q => n1 (hL _ q), h1⟩) (RepL.cut hL (by simpa [D.bd] using b) r)
theorem RepL.cut {w : Wc} {H : Hp} {ρ : List Addr} {L L' : Addr → Prop} {n : Nat} (hL : ∀ a, L' a → L a) : ∀ {ds : List D} {vs : List V}, D.bdL n ds = true → RepL w H ρ L ds vs → RepL w H (ρ.take n) L' ds vs
  | _, _, _, .nil => .nil
  | _, _, b, .cons x y => by
    rw [D.bdL, Bool.and_eq_true] at b
    exact .cons (Rep.cut hL b.1 x) (RepL.cut hL b.2 y)
end
section
variable {w : Wd} {H H0 : Hp} {ρ ρ0 : List Addr} {M G M0 : Sto} {L0 : Addr → Prop}
theorem lv_cut {M G : Sto} {a : Addr} (h : Lv w (ρ.take M.length) M a) : Lv w ρ (M ++ G) a := by
  rcases h with h | ⟨i, d, h1, h2, h3⟩
  · exact .inl h
  have hi : i < M.length := (List.getElem?_eq_some_iff.mp h2).1
  rw [List.getElem?_take_of_lt hi] at h1
  exact .inr ⟨i, d, h1, by rw [List.getElem?_append_left hi]; exact h2, h3⟩
theorem RepM.cut (m : RepM w H ρ (M ++ G)) (b : D.bdL M.length M = true) : RepM w H (ρ.take M.length) M where
  len := by rw [List.length_take, m.len, List.length_append]; omega
  nd := m.nd.sublist (List.take_sublist _ _)
  has := fun a h => m.has a (List.mem_of_mem_take h)
  hid := fun a h => ⟨fun z => (m.hid a h).1 (List.mem_of_mem_take z), (m.hid a h).2⟩
  hk := m.hk
  tabs := m.tabs
  obj := fun i a d h1 h2 h3 => by
    have hi : i < M.length := (List.getElem?_eq_some_iff.mp h2).1
    rw [List.getElem?_take_of_lt hi] at h1
    have hc := m.obj i a d h1 (by rw [List.getElem?_append_left hi]; exact h2) h3
    have bd : D.bd M.length d = true := by
      have : ∀ (l : List D) (i : Nat) (d : D), D.bdL M.length l = true → l[i]? = some d → D.bd M.length d = true := by
        intro l
        induction l with
        | nil => intro i d _ e; simp at e
        | cons x l ih =>
          intro i d hb e
          rw [D.bdL, Bool.and_eq_true] at hb
          cases i with
          | zero => simp at e; subst e; exact hb.1
          | succ i => exact ih i d hb.2 (by simpa using e)
      exact this M i d b h2
    cases d with
    | lst ds => obtain ⟨vs, q1, q2⟩ := hc; exact ⟨vs, q1, q2.cut (fun _ h => lv_cut h) (by simpa [D.bd] using bd)⟩
    | dk ks ds => obtain ⟨vs, q1, l, q2⟩ := hc; exact ⟨vs, q1, l, q2.cut (fun _ h => lv_cut h) (by simpa [D.bd] using bd)⟩
    | dt ks ds => obtain ⟨vs, q1, l, q2⟩ := hc; exact ⟨vs, q1, l, q2.cut (fun _ h => lv_cut h) (by simpa [D.bd] using bd)⟩
    | _ => exact hc.elim
theorem Ext.cut (m0 : RepM w H0 ρ0 M0) (e : Ext w H0 ρ0 L0 H ρ (Lv w ρ (M ++ G))) (hn : M0.length ≤ M.length) : Ext w H0 ρ0 L0 H (ρ.take M.length) (Lv w (ρ.take M.length) M) where
  fr := e.fr
  has := e.has
  hid := e.hid
  ix := fun i a h => by
    have hi : i < ρ0.length := (List.getElem?_eq_some_iff.mp h).1
    rw [m0.len] at hi
    rw [List.getElem?_take_of_lt (Nat.lt_of_lt_of_le hi hn)]
    exact e.ix i a h
  lv := fun a h => e.lv a (lv_cut h)
end
end TL
namespace TL
open PySem PySem.Spec PyProof.Rows L2
/-! ## an exception in the air, by the frame's own address (a comprehension's block has the frame of its def) -/
def XF (X : Cx) (W : WX) (u : Value) (s' : Shared) : Prop :=
  ∃ (Lf a : Addr) (B : Heap) (sI : Shared) (pins : List (Addr × Obj)) (σ : L2.St) (H : Hp) (cls : Value) (d : Option Addr),
    X.env.frame = some Lf ∧ u = .ref a ∧ Inv X pins σ H sI ∧ (∀ b o, sI.heap.get? b = some o → b ∉ frs X.stack → B.get? b = some o) ∧ sI.heap.UpToSlots s'.heap ∧
      Sky B X.stack a (Zc cls d) Lf s'.heap ∧ H a = none ∧ s'.os = sI.os ∧ AllBare s'.gens ∧ W cls d σ H
def Tk (X : Cx) (W : WX) : Prop := ∀ u s', XF X W u s' → X.xe u s'
theorem XF.xe {X : Cx} {W : WX} {u : Value} {s' : Shared} (hf : X.env.frame = some X.env.locals) (h : XF X W u s') : XE X W u s' := by
  obtain ⟨Lf, a, B, sI, pins, σ, H, cls, d, e, r⟩ := h
  rw [hf] at e
  cases e
  exact ⟨a, B, sI, pins, σ, H, cls, d, r⟩
theorem XF.of {X : Cx} {W : WX} {u : Value} {s' : Shared} (hf : X.env.frame = some X.env.locals) (h : XE X W u s') : XF X W u s' := by
  obtain ⟨a, B, sI, pins, σ, H, cls, d, r⟩ := h
  exact ⟨_, a, B, sI, pins, σ, H, cls, d, hf, r⟩
theorem Tk.takes {X : Cx} {W : WX} (hf : X.env.frame = some X.env.locals) (t : Tk X W) : Takes X W := fun u s' h => t u s' (.of hf h)
theorem Tk.of {X : Cx} {W : WX} (hf : X.env.frame = some X.env.locals) (t : Takes X W) : Tk X W := fun u s' h => t u s' (h.xe hf)
theorem Tk.imp {X : Cx} {W W' : WX} (t : Tk X W) (h : ∀ c d σ H, W' c d σ H → W c d σ H) : Tk X W' := fun u s' ⟨Lf, a, B, sI, pins, σ, H, cls, d, e0, e, I, nb, up, sky, na, os, ag, w⟩ =>
  t u s' ⟨Lf, a, B, sI, pins, σ, H, cls, d, e0, e, I, nb, up, sky, na, os, ag, h _ _ _ _ w⟩
/-! ## readings in deep values -/
abbrev QD := D → Sto → Prop
/-- what is wanted of an own error: its class, its fields, slots, store -/
abbrev XD := Nat → List D → Std → Sto → Prop
abbrev TED := Std → Sto → QD → XD → Prop
abbrev TTD := Std → Sto → (Bool → Sto → Prop) → XD → Prop
abbrev TAD := Std → Sto → (List D → Sto → Prop) → XD → Prop
structure DEnds where
  nx : Std → Sto → Prop
  rt : QD
  bk : Std → Sto → Prop := fun _ _ => False
  ct : Std → Sto → Prop := fun _ _ => False
abbrev TSD := DEnds → XD → Std → Sto → Prop
structure At (w : Wd) (H : Hp) (ρ : List Addr) (M : Sto) (σ : Std) (σv : L2.St) : Prop where
  m : RepM w H ρ M
  s : RepS w.toWc H ρ (Lv w ρ M) σ σv
/-- from state to state -/
abbrev Exs (w : Wd) (H : Hp) (ρ : List Addr) (M : Sto) (H' : Hp) (ρ' : List Addr) (M' : Sto) : Prop := Ext w H ρ (Lv w ρ M) H' ρ' (Lv w ρ' M')
abbrev Rp (w : Wd) (H : Hp) (ρ : List Addr) (M : Sto) : D → V → Prop := Rep w.toWc H ρ (Lv w ρ M)
abbrev Rps (w : Wd) (H : Hp) (ρ : List Addr) (M : Sto) : List D → List V → Prop := RepL w.toWc H ρ (Lv w ρ M)
def RepX (w : Wd) (H : Hp) (ρ : List Addr) (L : Addr → Prop) (c : Nat) (ds : List D) (cl : Value) (dd : Option Addr) : Prop :=
  cl = .ref (w.cls c) ∧ ∃ vs, (w.fld c).length = vs.length ∧ ((vs = [] ∧ dd = none) ∨ ∃ d, dd = some d ∧ ¬ L d ∧ H d = some (.xd ((w.fld c).zip vs))) ∧ RepL w.toWc H ρ L ds vs
def QOk (w : Wd) (H : Hp) (ρ : List Addr) (M : Sto) (q : QD) (Q : VK) : Prop := ∀ H' ρ' M' d v, Exs w H ρ M H' ρ' M' → RepM w H' ρ' M' → Rp w H' ρ' M' d v → q d M' → Q v H'
def BOk (w : Wd) (H : Hp) (ρ : List Addr) (M : Sto) (q : Bool → Sto → Prop) (Q : Bool → Hp → Prop) : Prop := ∀ H' ρ' M' b, Exs w H ρ M H' ρ' M' → RepM w H' ρ' M' → q b M' → Q b H'
def AOk (w : Wd) (H : Hp) (ρ : List Addr) (M : Sto) (q : List D → Sto → Prop) (Q : List V → Hp → Prop) : Prop := ∀ H' ρ' M' ds vs, Exs w H ρ M H' ρ' M' → RepM w H' ρ' M' → Rps w H' ρ' M' ds vs → q ds M' → Q vs H'
def XOk (w : Wd) (H : Hp) (ρ : List Addr) (M : Sto) (x : XD) (Wv : WX) : Prop := ∀ H' ρ' M' c ds cl dd σ' σv', Exs w H ρ M H' ρ' M' → At w H' ρ' M' σ' σv' → RepX w H' ρ' (Lv w ρ' M') c ds cl dd → x c ds σ' M' → Wv cl dd σv' H'
structure EOk (w : Wd) (H : Hp) (ρ : List Addr) (M : Sto) (k : DEnds) (De : Ends) : Prop where
  nx : ∀ H' ρ' M' σ' σv', Exs w H ρ M H' ρ' M' → At w H' ρ' M' σ' σv' → k.nx σ' M' → De.nx σv' H'
  rt : ∀ H' ρ' M' d v, Exs w H ρ M H' ρ' M' → RepM w H' ρ' M' → Rp w H' ρ' M' d v → k.rt d M' → De.rt v H'
  bk : ∀ H' ρ' M' σ' σv', Exs w H ρ M H' ρ' M' → At w H' ρ' M' σ' σv' → k.bk σ' M' → De.bk σv' H'
  ct : ∀ H' ρ' M' σ' σv', Exs w H ρ M H' ρ' M' → At w H' ρ' M' σ' σv' → k.ct σ' M' → De.ct σv' H'
section
variable {w : Wd} {H H' : Hp} {ρ ρ' : List Addr} {M M' : Sto} {σ : Std} {σv : L2.St}
theorem At.ext (a : At w H ρ M σ σv) (m : RepM w H' ρ' M') (e : Exs w H ρ M H' ρ' M') : At w H' ρ' M' σ σv := ⟨m, a.s.ext e⟩
theorem QOk.ext {q : QD} {Q : VK} (h : QOk w H ρ M q Q) (e : Exs w H ρ M H' ρ' M') : QOk w H' ρ' M' q Q := fun _ _ _ _ _ e' => h _ _ _ _ _ (e.trans e')
theorem BOk.ext {q : Bool → Sto → Prop} {Q : Bool → Hp → Prop} (h : BOk w H ρ M q Q) (e : Exs w H ρ M H' ρ' M') : BOk w H' ρ' M' q Q := fun _ _ _ _ e' => h _ _ _ _ (e.trans e')
theorem AOk.ext {q : List D → Sto → Prop} {Q : List V → Hp → Prop} (h : AOk w H ρ M q Q) (e : Exs w H ρ M H' ρ' M') : AOk w H' ρ' M' q Q := fun _ _ _ _ _ e' => h _ _ _ _ _ (e.trans e')
theorem XOk.ext {x : XD} {Wv : WX} (h : XOk w H ρ M x Wv) (e : Exs w H ρ M H' ρ' M') : XOk w H' ρ' M' x Wv := fun _ _ _ _ _ _ _ _ _ e' => h _ _ _ _ _ _ _ _ _ (e.trans e')
theorem EOk.ext {k : DEnds} {De : Ends} (h : EOk w H ρ M k De) (e : Exs w H ρ M H' ρ' M') : EOk w H' ρ' M' k De :=
  ⟨fun _ _ _ _ _ e' => h.nx _ _ _ _ _ (e.trans e'), fun _ _ _ _ _ e' => h.rt _ _ _ _ _ (e.trans e'), fun _ _ _ _ _ e' => h.bk _ _ _ _ _ (e.trans e'), fun _ _ _ _ _ e' => h.ct _ _ _ _ _ (e.trans e')⟩
theorem QOk.here {q : QD} {Q : VK} {d : D} {v : V} (h : QOk w H ρ M q Q) (m : RepM w H ρ M) (r : Rp w H ρ M d v) (hq : q d M) : Q v H := h _ _ _ _ _ .refl m r hq
theorem BOk.here {q : Bool → Sto → Prop} {Q : Bool → Hp → Prop} {b : Bool} (h : BOk w H ρ M q Q) (m : RepM w H ρ M) (hq : q b M) : Q b H := h _ _ _ _ .refl m hq
end
def lE (w : Wd) (Wv : WX) (t : TED) : TE := fun σv H Q => ∃ σ ρ M q x, At w H ρ M σ σv ∧ t σ M q x ∧ QOk w H ρ M q Q ∧ XOk w H ρ M x Wv
def lT (w : Wd) (Wv : WX) (t : TTD) : TT := fun σv H Q => ∃ σ ρ M q x, At w H ρ M σ σv ∧ t σ M q x ∧ BOk w H ρ M q Q ∧ XOk w H ρ M x Wv
def lA (w : Wd) (Wv : WX) (t : TAD) : TA := fun σv H Q => ∃ σ ρ M q x, At w H ρ M σ σv ∧ t σ M q x ∧ AOk w H ρ M q Q ∧ XOk w H ρ M x Wv
def lS (w : Wd) (Wv : WX) (t : TSD) : TS := fun De σv H => ∃ σ ρ M k x, At w H ρ M σ σv ∧ t k x σ M ∧ EOk w H ρ M k De ∧ XOk w H ρ M x Wv
theorem _root_.L2.PE.imp {X : Cx} {e : Expr} {t t' : TE} (h : PE X e t) (i : ∀ σ H Q, t' σ H Q → t σ H Q) : PE X e t' := ⟨fun pins s σ H Q I q => h.run pins s σ H Q I (i _ _ _ q)⟩
theorem _root_.L2.PT.imp {X : Cx} {e : Expr} {t t' : TT} (h : PT X e t) (i : ∀ σ H Q, t' σ H Q → t σ H Q) : PT X e t' := ⟨fun pins s σ H Q I q => h.run pins s σ H Q I (i _ _ _ q)⟩
theorem _root_.L2.PW.imp {X : Cx} {e : Expr} {t t' : TT} (h : PW X e t) (i : ∀ σ H Q, t' σ H Q → t σ H Q) : PW X e t' := ⟨fun wh pins s σ H Q I q => h.run wh pins s σ H Q I (i _ _ _ q)⟩
theorem _root_.L2.PA.imp {X : Cx} {e : List Expr} {t t' : TA} (h : PA X e t) (i : ∀ σ H Q, t' σ H Q → t σ H Q) : PA X e t' := ⟨fun pos pins s σ H Q I q => h.run pos pins s σ H Q I (i _ _ _ q)⟩
theorem _root_.L2.PS.imp {X : Cx} {e : Stmt} {t t' : TS} (h : PS X e t) (i : ∀ k σ H, t' k σ H → t k σ H) : PS X e t' := ⟨fun pins s σ H k I q => h.run pins s σ H k I (i _ _ _ q)⟩
theorem _root_.L2.PSs.imp {X : Cx} {e : List Stmt} {t t' : TS} (h : PSs X e t) (i : ∀ k σ H, t' k σ H → t k σ H) : PSs X e t' := ⟨fun pins s σ H k I q => h.run pins s σ H k I (i _ _ _ q)⟩
structure DE (w : Wd) (X : Cx) (e : Expr) (t : TED) : Prop where
  run : ∀ Wv, Tk X Wv → PE X e (lE w Wv t)
structure DT (w : Wd) (X : Cx) (e : Expr) (t : TTD) : Prop where
  run : ∀ Wv, Tk X Wv → PT X e (lT w Wv t)
structure DW (w : Wd) (X : Cx) (e : Expr) (t : TTD) : Prop where
  run : ∀ Wv, Tk X Wv → PW X e (lT w Wv t)
structure DA (w : Wd) (X : Cx) (es : List Expr) (t : TAD) : Prop where
  run : ∀ Wv, Tk X Wv → PA X es (lA w Wv t)
structure DS (w : Wd) (X : Cx) (st : Stmt) (t : TSD) : Prop where
  run : ∀ Wv, Tk X Wv → PS X st (lS w Wv t)
structure DSs (w : Wd) (X : Cx) (st : List Stmt) (t : TSD) : Prop where
  run : ∀ Wv, Tk X Wv → PSs X st (lS w Wv t)
section
variable {w : Wd} {X : Cx}
theorem DE.imp {e : Expr} {t t' : TED} (h : DE w X e t) (i : ∀ σ M q x, t' σ M q x → t σ M q x) : DE w X e t' := ⟨fun Wv tk => (h.run Wv tk).imp fun _ _ _ ⟨σ, ρ, M, q, x, a, z, r⟩ => ⟨σ, ρ, M, q, x, a, i _ _ _ _ z, r⟩⟩
theorem DSs.imp {e : List Stmt} {t t' : TSD} (h : DSs w X e t) (i : ∀ k x σ M, t' k x σ M → t k x σ M) : DSs w X e t' := ⟨fun Wv tk => (h.run Wv tk).imp fun _ _ _ ⟨σ, ρ, M, k, x, a, z, r⟩ => ⟨σ, ρ, M, k, x, a, i _ _ _ _ z, r⟩⟩
/-! ### names, constants -/
def dVar (i : Nat) : TED := fun σ M q _ => ∃ d, σ[i]? = some (some d) ∧ q d M
def dC (d : D) : TED := fun _ M q _ => q d M
theorem de_var {i : Nat} {x : Str} {pos : Pos} (hN : X.N[i]? = some x) (hv : Vis X.env.scope x) (hd : (x == ("__debug__" : Str)) = false) (hcd : (x == ("__classdict__" : Str)) = false) : DE w X (.Name x pos) (dVar i) :=
  ⟨fun Wv tk => (pe_var hN hv hd hcd).imp fun σv H Q ⟨σ, ρ, M, q, x, a, ⟨d, e, hq⟩, k, _⟩ => by
    obtain ⟨v, ev, r⟩ := a.s.at_ i d e
    exact ⟨v, ev, k.here a.m r hq⟩⟩
/-- a constant, by its value -/
theorem de_const {e : Expr} {v : V} {d : D} (h : PE X e (tC v)) (r : ∀ H ρ L, Rep w.toWc H ρ L d v) : DE w X e (dC d) :=
  ⟨fun Wv tk => h.imp fun σv H Q ⟨σ, ρ, M, q, x, a, hq, k, _⟩ => k.here a.m (r _ _ _) hq⟩
/-! ### argument lists -/
def dNil : TAD := fun _ M q _ => q [] M
def dCons (t : TED) (r : TAD) : TAD := fun σ M q x => t σ M (fun d M1 => r σ M1 (fun ds M2 => q (d :: ds) M2) x) x
theorem da_nil : DA w X [] dNil := ⟨fun Wv tk => pa_nil.imp fun σv H Q ⟨σ, ρ, M, q, x, a, hq, k, _⟩ => k _ _ _ _ _ .refl a.m .nil hq⟩
theorem da_cons {e : Expr} {es : List Expr} {t : TED} {r : TAD} (h : DE w X e t) (hr : DA w X es r) (hs : starEach (e :: es) X.env = (false, eval e X.env) :: starEach es X.env) : DA w X (e :: es) (dCons t r) :=
  ⟨fun Wv tk => (pa_cons (h.run Wv tk) (hr.run Wv tk) hs).imp fun σv H Q ⟨σ, ρ, M, q, x, a, hq, k, kx⟩ =>
    ⟨σ, ρ, M, _, x, a, hq, fun H1 ρ1 M1 d v e1 m1 r1 h1 => ⟨σ, ρ1, M1, _, x, a.ext m1 e1, h1, fun H2 ρ2 M2 ds vs e2 m2 r2 h2 => k _ _ _ _ _ (e1.trans e2) m2 (.cons (r1.ext e2) r2) h2, kx.ext e1⟩, kx⟩⟩
/-! ### operations on values -/
/-- a two-place rule in deep values -/
def VO2 (w : Wd) (r : R2) (f : D → D → Sto → QD → Prop) : Prop := ∀ H ρ M x y u v q Q, RepM w H ρ M → Rp w H ρ M x u → Rp w H ρ M y v → f x y M q → QOk w H ρ M q Q → r u v H Q
def VO1 (w : Wd) (r : V → Hp → VK → Prop) (f : D → Sto → QD → Prop) : Prop := ∀ H ρ M x u q Q, RepM w H ρ M → Rp w H ρ M x u → f x M q → QOk w H ρ M q Q → r u H Q
def VOn (w : Wd) (r : List V → Hp → VK → Prop) (f : List D → Sto → QD → Prop) : Prop := ∀ H ρ M xs us q Q, RepM w H ρ M → Rps w H ρ M xs us → f xs M q → QOk w H ρ M q Q → r us H Q
def dBin (f : D → D → Sto → QD → Prop) (ta tb : TED) : TED := fun σ M q x => ta σ M (fun a M1 => tb σ M1 (fun b M2 => f a b M2 q) x) x
def dUn (f : D → Sto → QD → Prop) (ta : TED) : TED := fun σ M q x => ta σ M (fun a M1 => f a M1 q) x
def dApp (f : List D → Sto → QD → Prop) (ta : TAD) : TED := fun σ M q x => ta σ M (fun a M1 => f a M1 q) x
/-- through two expressions -/
theorem l2 {Wv : WX} {σv : L2.St} {H : Hp} {ta tb : TED} {f : D → D → Sto → QD → Prop} {r : R2} {Q : VK} (hr : VO2 w r f) (h : lE w Wv (dBin f ta tb) σv H Q) : tOp r (lE w Wv ta) (lE w Wv tb) σv H Q := by
  obtain ⟨σ, ρ, M, q, x, a, hq, k, kx⟩ := h
  exact ⟨σ, ρ, M, _, x, a, hq, fun H1 ρ1 M1 d v e1 m1 r1 h1 => ⟨σ, ρ1, M1, _, x, a.ext m1 e1, h1, fun H2 ρ2 M2 d2 v2 e2 m2 r2 h2 => hr _ _ _ _ _ _ _ _ _ m2 (r1.ext e2) r2 h2 (k.ext (e1.trans e2)), kx.ext e1⟩, kx⟩
theorem de_bin {op : Operator} {a b : Expr} {pos : Pos} {ta tb : TED} {f : D → D → Sto → QD → Prop} {r : R2} (ho : OpR X (binaryOp op) r) (hr : VO2 w r f) (ha : DE w X a ta) (hb : DE w X b tb) : DE w X (.BinOp a op b pos) (dBin f ta tb) :=
  ⟨fun Wv tk => (pe_op ho (ha.run Wv tk) (hb.run Wv tk)).imp fun _ _ _ h => l2 hr h⟩
theorem de_un {op : UnaryOp} {a : Expr} {pos : Pos} {ta : TED} {f : D → Sto → QD → Prop} {r : V → Hp → VK → Prop} (ho : UnR X (unaryOp op) r) (hr : VO1 w r f) (ha : DE w X a ta) : DE w X (.UnaryOp op a pos) (dUn f ta) :=
  ⟨fun Wv tk => (pe_un ho (ha.run Wv tk)).imp fun σv H Q ⟨σ, ρ, M, q, x, a, hq, k, kx⟩ => ⟨σ, ρ, M, _, x, a, hq, fun H1 ρ1 M1 d v e1 m1 r1 h1 => hr _ _ _ _ _ _ _ m1 r1 h1 (k.ext e1), kx⟩⟩
theorem de_cmp {op : CmpOp} {a b : Expr} {pos : Pos} {ta tb : TED} {f : D → D → Sto → QD → Prop} {r : R2} (ho : OpR X (compareOp op) r) (hr : VO2 w r f) (ha : DE w X a ta) (hb : DE w X b tb) (hm : behindInMarks op b = false) : DE w X (.Compare a [op] [b] pos) (dBin f ta tb) :=
  ⟨fun Wv tk => (pe_cmpR ho (ha.run Wv tk) (hb.run Wv tk) hm).imp fun _ _ _ h => l2 hr h⟩
theorem de_ix {a b : Expr} {pos : Pos} {ta tb : TED} {f : D → D → Sto → QD → Prop} {r : R2} (ho : IxR X r) (hr : VO2 w r f) (ha : DE w X a ta) (hb : DE w X b tb) (hs : PlainIx b) : DE w X (.Subscript a b pos) (dBin f ta tb) :=
  ⟨fun Wv tk => (pe_ix ho (ha.run Wv tk) (hb.run Wv tk) hs).imp fun _ _ _ h => l2 hr h⟩
end
end TL
namespace TL
open PySem PySem.Spec PyProof.Rows L2
section
variable {w : Wd} {X : Cx}
/-! ### tests -/
/-- a value as a test: it is a bool -/
def tst (t : TED) : TTD := fun σ M q x => t σ M (fun d M1 => ∃ k, d = .bl k ∧ q k M1) x
theorem rp_bl {H : Hp} {ρ : List Addr} {L : Addr → Prop} {k : Bool} {v : V} (r : Rep w.toWc H ρ L (.bl k) v) : v = .bl k := by cases r; rfl
theorem rp_int {H : Hp} {ρ : List Addr} {L : Addr → Prop} {k : Int} {v : V} (r : Rep w.toWc H ρ L (.int k) v) : v = .int k := by cases r; rfl
theorem rp_str {H : Hp} {ρ : List Addr} {L : Addr → Prop} {k : Str} {v : V} (r : Rep w.toWc H ρ L (.str k) v) : v = .str k := by cases r; rfl
theorem rp_non {H : Hp} {ρ : List Addr} {L : Addr → Prop} {v : V} (r : Rep w.toWc H ρ L .non v) : v = .non := by cases r; rfl
theorem dt_val {e : Expr} {t : TED} (h : DE w X e t) (he : ∀ whole, isTrue e X.env whole = (do let v ← whole; standAt e.pos; holding [v] (truthy v))) : DT w X e (tst t) :=
  ⟨fun Wv tk => (pt_val (h.run Wv tk) he).imp fun σv H Q ⟨σ, ρ, M, q, x, a, hq, k, kx⟩ =>
    ⟨σ, ρ, M, _, x, a, hq, fun H1 ρ1 M1 d v e1 m1 r1 ⟨b, e, h1⟩ => by subst e; exact ⟨b, rp_bl r1, k _ _ _ _ e1 m1 h1⟩, kx⟩⟩
theorem dt_cmp {op : CmpOp} {a b : Expr} {pos : Pos} {ta tb : TED} {f : D → D → Sto → QD → Prop} {r : R2} (ho : OpR X (compareOp op) r) (hr : VO2 w r f) (ha : DE w X a ta) (hb : DE w X b tb) (hm : behindInMarks op b = false) :
    DT w X (.Compare a [op] [b] pos) (tst (dBin f ta tb)) :=
  ⟨fun Wv tk => (pt_cmpR ho (ha.run Wv tk) (hb.run Wv tk) hm).imp fun σv H Q ⟨σ, ρ, M, q, x, a, hq, k, kx⟩ =>
    l2 hr ⟨σ, ρ, M, _, x, a, hq, fun H1 ρ1 M1 d v e1 m1 r1 ⟨b, e, h1⟩ => by subst e; exact ⟨b, rp_bl r1, k _ _ _ _ e1 m1 h1⟩, kx⟩⟩
def dAnd (ta tb : TED) : TED := fun σ M q x => ta σ M (fun d M1 => ∃ k, d = .bl k ∧ if k = true then tb σ M1 q x else q (.bl false) M1) x
def dOr (ta tb : TED) : TED := fun σ M q x => ta σ M (fun d M1 => ∃ k, d = .bl k ∧ if k = true then q (.bl true) M1 else tb σ M1 q x) x
def dNot (ta : TED) : TED := fun σ M q x => ta σ M (fun d M1 => ∃ k, d = .bl k ∧ q (.bl (!k)) M1) x
def dIfE (tc ta tb : TED) : TED := fun σ M q x => tc σ M (fun d M1 => ∃ k, d = .bl k ∧ if k = true then ta σ M1 q x else tb σ M1 q x) x
theorem dw_and1 {a : Expr} {ta : TED} {pos : Pos} (ha : DT w X a (tst ta)) : DW w X (.BoolOp .And [a] pos) (tst ta) := ⟨fun Wv tk => pw_and1 (ha.run Wv tk)⟩
theorem dw_or1 {a : Expr} {ta : TED} {pos : Pos} (ha : DT w X a (tst ta)) : DW w X (.BoolOp .Or [a] pos) (tst ta) := ⟨fun Wv tk => pw_or1 (ha.run Wv tk)⟩
theorem dw_and {a b : Expr} {rest : List Expr} {ta tb : TED} {pos : Pos} (ha : DT w X a (tst ta)) (hb : DW w X (.BoolOp .And (b :: rest) pos) (tst tb)) : DW w X (.BoolOp .And (a :: b :: rest) pos) (tst (dAnd ta tb)) :=
  ⟨fun Wv tk => (pw_and (ha.run Wv tk) (hb.run Wv tk)).imp fun σv H Q ⟨σ, ρ, M, q, x, a, hq, k, kx⟩ =>
    ⟨σ, ρ, M, (fun k M1 => if k = true then tb σ M1 (fun d M1 => ∃ k, d = .bl k ∧ q k M1) x else ∃ k, D.bl false = .bl k ∧ q k M1), x, a, hq, fun H1 ρ1 M1 b e1 m1 h1 => by
      cases b with
      | true => exact ⟨σ, ρ1, M1, q, x, a.ext m1 e1, h1, k.ext e1, kx.ext e1⟩
      | false =>
        obtain ⟨k', e, h1⟩ := h1
        cases e
        exact k _ _ _ _ e1 m1 h1, kx⟩⟩
theorem dw_or {a b : Expr} {rest : List Expr} {ta tb : TED} {pos : Pos} (ha : DT w X a (tst ta)) (hb : DW w X (.BoolOp .Or (b :: rest) pos) (tst tb)) : DW w X (.BoolOp .Or (a :: b :: rest) pos) (tst (dOr ta tb)) :=
  ⟨fun Wv tk => (pw_or (ha.run Wv tk) (hb.run Wv tk)).imp fun σv H Q ⟨σ, ρ, M, q, x, a, hq, k, kx⟩ =>
    ⟨σ, ρ, M, (fun k M1 => if k = true then ∃ k, D.bl true = .bl k ∧ q k M1 else tb σ M1 (fun d M1 => ∃ k, d = .bl k ∧ q k M1) x), x, a, hq, fun H1 ρ1 M1 b e1 m1 h1 => by
      cases b with
      | false => exact ⟨σ, ρ1, M1, q, x, a.ext m1 e1, h1, k.ext e1, kx.ext e1⟩
      | true =>
        obtain ⟨k', e, h1⟩ := h1
        cases e
        exact k _ _ _ _ e1 m1 h1, kx⟩⟩
theorem DW.dt {e : Expr} {t : TTD} (h : DW w X e t) : DT w X e t := ⟨fun Wv tk => (h.run Wv tk).pt⟩
theorem dt_not {a : Expr} {ta : TED} {pos : Pos} (ha : DT w X a (tst ta)) : DT w X (.UnaryOp .Not a pos) (tst (dNot ta)) :=
  ⟨fun Wv tk => (pt_not (ha.run Wv tk)).imp fun σv H Q ⟨σ, ρ, M, q, x, a, hq, k, kx⟩ =>
    ⟨σ, ρ, M, (fun k M1 => ∃ k', D.bl (!k) = .bl k' ∧ q k' M1), x, a, hq, fun H1 ρ1 M1 b e1 m1 ⟨k', e, h1⟩ => by cases e; exact k _ _ _ _ e1 m1 h1, kx⟩⟩
/-- as values -/
theorem de_one {a : Expr} {ta : TED} {op : BoolOp} {pos : Pos} (ha : DE w X a ta) : DE w X (.BoolOp op [a] pos) ta := ⟨fun Wv tk => pe_one (ha.run Wv tk)⟩
theorem de_and {a b : Expr} {rest : List Expr} {ta tb : TED} {pos : Pos} (ha : DE w X a ta) (hb : DE w X (.BoolOp .And (b :: rest) pos) tb) : DE w X (.BoolOp .And (a :: b :: rest) pos) (dAnd ta tb) :=
  ⟨fun Wv tk => (pe_and (ha.run Wv tk) (hb.run Wv tk)).imp fun σv H Q ⟨σ, ρ, M, q, x, a, hq, k, kx⟩ =>
    ⟨σ, ρ, M, _, x, a, hq, fun H1 ρ1 M1 d v e1 m1 r1 ⟨b, e, h1⟩ => by
      subst e
      refine ⟨b, rp_bl r1, ?_⟩
      cases b with
      | true => exact ⟨σ, ρ1, M1, q, x, a.ext m1 e1, h1, k.ext e1, kx.ext e1⟩
      | false => exact k _ _ _ _ _ e1 m1 (.bl false) h1, kx⟩⟩
theorem de_or {a b : Expr} {rest : List Expr} {ta tb : TED} {pos : Pos} (ha : DE w X a ta) (hb : DE w X (.BoolOp .Or (b :: rest) pos) tb) : DE w X (.BoolOp .Or (a :: b :: rest) pos) (dOr ta tb) :=
  ⟨fun Wv tk => (pe_or (ha.run Wv tk) (hb.run Wv tk)).imp fun σv H Q ⟨σ, ρ, M, q, x, a, hq, k, kx⟩ =>
    ⟨σ, ρ, M, _, x, a, hq, fun H1 ρ1 M1 d v e1 m1 r1 ⟨b, e, h1⟩ => by
      subst e
      refine ⟨b, rp_bl r1, ?_⟩
      cases b with
      | false => exact ⟨σ, ρ1, M1, q, x, a.ext m1 e1, h1, k.ext e1, kx.ext e1⟩
      | true => exact k _ _ _ _ _ e1 m1 (.bl true) h1, kx⟩⟩
theorem de_not {a : Expr} {ta : TED} {pos : Pos} (ha : DE w X a ta) : DE w X (.UnaryOp .Not a pos) (dNot ta) :=
  ⟨fun Wv tk => (pe_not (ha.run Wv tk)).imp fun σv H Q ⟨σ, ρ, M, q, x, a, hq, k, kx⟩ =>
    ⟨σ, ρ, M, _, x, a, hq, fun H1 ρ1 M1 d v e1 m1 r1 ⟨b, e, h1⟩ => by subst e; exact ⟨b, rp_bl r1, k _ _ _ _ _ e1 m1 (.bl _) h1⟩, kx⟩⟩
theorem de_ife {c a b : Expr} {tc ta tb : TED} {pos : Pos} (hc : DT w X c (tst tc)) (ha : DE w X a ta) (hb : DE w X b tb) : DE w X (.IfExp c a b pos) (dIfE tc ta tb) :=
  ⟨fun Wv tk => (pe_ifExp (hc.run Wv tk) (ha.run Wv tk) (hb.run Wv tk)).imp fun σv H Q ⟨σ, ρ, M, q, x, a, hq, k, kx⟩ =>
    ⟨σ, ρ, M, (fun k M1 => if k = true then ta σ M1 q x else tb σ M1 q x), x, a, hq, fun H1 ρ1 M1 b e1 m1 h1 => by
      cases b with
      | true => exact ⟨σ, ρ1, M1, q, x, a.ext m1 e1, h1, k.ext e1, kx.ext e1⟩
      | false => exact ⟨σ, ρ1, M1, q, x, a.ext m1 e1, h1, k.ext e1, kx.ext e1⟩, kx⟩⟩
/-! ### targets -/
abbrev TGD := D → Std → Sto → (Std → Sto → Prop) → XD → Prop
/-- only the slots at own are stored -/
def Only' (own : List Nat) (σv σv' : L2.St) : Prop := ∀ vs : List Nat, (∀ i ∈ own, i ∈ vs) → wipe σv' vs = wipe σv vs
def SOk (w : Wd) (H : Hp) (ρ : List Addr) (M : Sto) (q : Std → Sto → Prop) (Q : L2.St → Hp → Prop) : Prop := ∀ H' ρ' M' σ' σv', Exs w H ρ M H' ρ' M' → At w H' ρ' M' σ' σv' → q σ' M' → Q σv' H'
theorem SOk.ext {H H' : Hp} {ρ ρ' : List Addr} {M M' : Sto} {q : Std → Sto → Prop} {Q : L2.St → Hp → Prop} (h : SOk w H ρ M q Q) (e : Exs w H ρ M H' ρ' M') : SOk w H' ρ' M' q Q := fun _ _ _ _ _ e' => h _ _ _ _ _ (e.trans e')
def lG (w : Wd) (Wv : WX) (own : List Nat) (t : TGD) : TG := fun v σv H Q => ∃ d σ ρ M q x, At w H ρ M σ σv ∧ Rp w H ρ M d v ∧ t d σ M q x ∧ SOk w H ρ M q (fun σv' H' => Only' own σv σv' → Q σv' H') ∧ XOk w H ρ M x Wv
def lGs (w : Wd) (Wv : WX) (own : List Nat) (t : List D → Std → Sto → (Std → Sto → Prop) → XD → Prop) : TGs := fun v σv H Q => ∃ d σ ρ M q x, At w H ρ M σ σv ∧ Rps w H ρ M d v ∧ t d σ M q x ∧ SOk w H ρ M q (fun σv' H' => Only' own σv σv' → Q σv' H') ∧ XOk w H ρ M x Wv
theorem _root_.L2.PG.imp {e : Expr} {t t' : TG} (h : PG X e t) (i : ∀ v σ H Q, t' v σ H Q → t v σ H Q) : PG X e t' := ⟨fun pins s σ H v u Q I r q => h.run pins s σ H v u Q I r (i _ _ _ _ q)⟩
theorem _root_.L2.PGs.imp {e : List Expr} {t t' : TGs} (h : PGs X e t) (i : ∀ v σ H Q, t' v σ H Q → t v σ H Q) : PGs X e t' := ⟨fun pins s σ H v u Q I r q => h.run pins s σ H v u Q I r (i _ _ _ _ q)⟩
structure DG (w : Wd) (X : Cx) (e : Expr) (own : List Nat) (t : TGD) : Prop where
  run : ∀ Wv, Tk X Wv → PG X e (lG w Wv own t)
structure DGs (w : Wd) (X : Cx) (es : List Expr) (own : List Nat) (t : List D → Std → Sto → (Std → Sto → Prop) → XD → Prop) : Prop where
  run : ∀ Wv, Tk X Wv → PGs X es (lGs w Wv own t)
def dgName (i : Nat) : TGD := fun d σ M q _ => q (σ.set i (some d)) M
theorem RepS.set {H : Hp} {ρ : List Addr} {L : Addr → Prop} {σ : Std} {σv : L2.St} {d : D} {v : V} (s : RepS w.toWc H ρ L σ σv) (r : Rep w.toWc H ρ L d v) (i : Nat) : RepS w.toWc H ρ L (σ.set i (some d)) (σv.set i (some v)) :=
  ⟨by simp [s.len], fun j d' e => by
    by_cases hj : j = i
    · subst hj
      by_cases hl : j < σ.length
      · rw [List.getElem?_set_self hl] at e
        cases e
        exact ⟨v, List.getElem?_set_self (s.len ▸ hl), r⟩
      · rw [List.getElem?_eq_none (by simpa using hl)] at e; cases e
    · rw [List.getElem?_set_ne (Ne.symm hj)] at e ⊢
      exact s.at_ j d' e⟩
theorem wipe_set {σv : L2.St} {i : Nat} {x : Option V} : ∀ {vs : List Nat}, i ∈ vs → wipe (σv.set i x) vs = wipe σv vs
  | v :: vs, h => by
    by_cases e : i = v
    · subst e
      by_cases h2 : i ∈ vs
      · show (wipe _ vs).set _ _ = (wipe _ vs).set _ _
        rw [wipe_set h2]
      · have : ∀ (vs : List Nat), i ∉ vs → wipe (σv.set i x) vs = (wipe σv vs).set i x := by
          intro vs
          induction vs with
          | nil => intro _; rfl
          | cons u us ih =>
            intro hn
            simp only [List.mem_cons, not_or] at hn
            show (wipe _ us).set _ _ = _
            rw [ih hn.2, List.set_comm _ _ hn.1]
            rfl
        show (wipe _ vs).set _ _ = (wipe _ vs).set _ _
        rw [this vs h2, List.set_set]
    · rcases List.mem_cons.mp h with h | h
      · exact absurd h e
      · show (wipe _ vs).set _ _ = (wipe _ vs).set _ _
        rw [wipe_set h]
theorem Only'.refl {own : List Nat} {σv : L2.St} : Only' own σv σv := fun _ _ => rfl
theorem Only'.set {i : Nat} {σv : L2.St} {x : Option V} : Only' [i] σv (σv.set i x) := fun _ h => wipe_set (h i (by simp))
theorem Only'.trans {o1 o2 : List Nat} {σv σ1 σ2 : L2.St} (a : Only' o1 σv σ1) (b : Only' o2 σ1 σ2) : Only' (o1 ++ o2) σv σ2 := fun vs h =>
  (b vs fun i hi => h i (List.mem_append_right _ hi)).trans (a vs fun i hi => h i (List.mem_append_left _ hi))
theorem dg_name {i : Nat} {x : Str} {pos : Pos} (hN : X.N.Nodup) (hi : X.N[i]? = some x) (hx : Loc X.env.scope x) (hf : X.fn x = true ∨ X.env.scope.names.lookup x = some .local) : DG w X (.Name x pos) [i] (dgName i) :=
  ⟨fun Wv tk => (pg_name hN hi hx hf).imp fun v σv H Q ⟨d, σ, ρ, M, q, x, a, r, hq, k, kx⟩ => k _ _ _ _ _ .refl ⟨a.m, a.s.set r i⟩ hq .set⟩
def dgNil : List D → Std → Sto → (Std → Sto → Prop) → XD → Prop := fun ds σ M q _ => ds = [] ∧ q σ M
def dgCons (t : TGD) (u : List D → Std → Sto → (Std → Sto → Prop) → XD → Prop) : List D → Std → Sto → (Std → Sto → Prop) → XD → Prop := fun ds σ M q x => ∃ d r, ds = d :: r ∧ t d σ M (fun σ1 M1 => u r σ1 M1 q x) x
theorem dgs_nil : DGs w X [] [] dgNil := ⟨fun Wv tk => pgs_nil.imp fun v σv H Q ⟨d, σ, ρ, M, q, x, a, r, ⟨e, hq⟩, k, kx⟩ => by
  subst e
  cases r
  exact ⟨rfl, k _ _ _ _ _ .refl a hq .refl⟩⟩
theorem dgs_cons {e : Expr} {es : List Expr} {t : TGD} {u : List D → Std → Sto → (Std → Sto → Prop) → XD → Prop} {o1 o2 : List Nat} (h : DG w X e o1 t) (hs : DGs w X es o2 u)
    (he : (assignEach (e :: es) X.env).map (·.2) = assign e X.env :: (assignEach es X.env).map (·.2)) : DGs w X (e :: es) (o1 ++ o2) (dgCons t u) :=
  ⟨fun Wv tk => (pgs_cons (h.run Wv tk) (hs.run Wv tk) he).imp fun v σv H Q ⟨d, σ, ρ, M, q, x, a, r, ⟨d1, dr, e, hq⟩, k, kx⟩ => by
    subst e
    cases r with
    | cons r1 r2 => exact ⟨_, _, rfl, d1, σ, ρ, M, _, x, a, r1, hq, fun H1 ρ1 M1 σ1 σv1 e1 a1 h1 o => ⟨dr, σ1, ρ1, M1, q, x, a1, r2.ext e1, h1, fun H2 ρ2 M2 σ2 σv2 e2 a2 h2 o' => k _ _ _ _ _ (e1.trans e2) a2 h2 (o.trans o'), kx.ext e1⟩, kx⟩⟩
def dgTup (n : Nat) (t : List D → Std → Sto → (Std → Sto → Prop) → XD → Prop) : TGD := fun d σ M q x => ∃ ds, d = .tup ds ∧ ds.length = n ∧ t ds σ M q x
theorem dg_tup {es : List Expr} {k : Nat} {pos : Pos} {t : List D → Std → Sto → (Std → Sto → Prop) → XD → Prop} {n : Nat} {own : List Nat} (hK : X.K = w.K) (hc : X.calm = true) (h : DGs w X es own t) (hn : (assignEach es X.env).length = n)
    (hst : (assignEach es X.env).findIdx? (·.1) = none) : DG w X (.Tuple es k pos) own (dgTup n t) :=
  ⟨fun Wv tk => (pg_tup hc (h.run Wv tk) hn hst).imp fun v σv H Q ⟨d, σ, ρ, M, q, x, a, r, ⟨ds, e, hl, hq⟩, k, kx⟩ => by
    subst e
    cases r with
    | tup s rs => exact ⟨_, _, rfl, hK ▸ s.sq, by rw [← rs.length, hl], ds, σ, ρ, M, q, x, a, rs, hq, k, kx⟩⟩
/-! ### statements -/
def dNext : TSD := fun k _ σ M => k.nx σ M
def dSeq (t u : TSD) : TSD := fun k x σ M => t { k with nx := u k x } x σ M
theorem ds_nil : DSs w X [] dNext := ⟨fun Wv tk => pss_nil.imp fun De σv H ⟨σ, ρ, M, k, x, a, hq, e, _⟩ => e.nx _ _ _ _ _ .refl a hq⟩
theorem ds_cons {st : Stmt} {rest : List Stmt} {t u : TSD} (h1 : DS w X st t) (h2 : DSs w X rest u) : DSs w X (st :: rest) (dSeq t u) :=
  ⟨fun Wv tk => (pss_cons (h1.run Wv tk) (h2.run Wv tk)).imp fun De σv H ⟨σ, ρ, M, k, x, a, hq, e, kx⟩ =>
    ⟨σ, ρ, M, _, x, a, hq, ⟨fun H1 ρ1 M1 σ1 σv1 e1 a1 h => ⟨σ1, ρ1, M1, k, x, a1, h, e.ext e1, kx.ext e1⟩, e.rt, e.bk, e.ct⟩, kx⟩⟩
theorem ds_pass {pos : Pos} : DS w X (.Pass pos) dNext := ⟨fun Wv tk => ps_pass.imp fun De σv H ⟨σ, ρ, M, k, x, a, hq, e, _⟩ => e.nx _ _ _ _ _ .refl a hq⟩
def dBreak : TSD := fun k _ σ M => k.bk σ M
def dCont : TSD := fun k _ σ M => k.ct σ M
theorem ds_break {pos : Pos} : DS w X (.Break pos) dBreak := ⟨fun Wv tk => ps_break.imp fun De σv H ⟨σ, ρ, M, k, x, a, hq, e, _⟩ => e.bk _ _ _ _ _ .refl a hq⟩
theorem ds_continue {pos : Pos} : DS w X (.Continue pos) dCont := ⟨fun Wv tk => ps_continue.imp fun De σv H ⟨σ, ρ, M, k, x, a, hq, e, _⟩ => e.ct _ _ _ _ _ .refl a hq⟩
def dDrop (t : TED) : TSD := fun k x σ M => t σ M (fun _ M1 => k.nx σ M1) x
theorem ds_expr {e : Expr} {t : TED} {pos : Pos} (he : DE w X e t) (hs : swapsWith e none pos.line X.env = pure false) : DS w X (.Expr e pos) (dDrop t) :=
  ⟨fun Wv tk => (ps_expr (he.run Wv tk) hs).imp fun De σv H ⟨σ, ρ, M, k, x, a, hq, e, kx⟩ => ⟨σ, ρ, M, _, x, a, hq, fun H1 ρ1 M1 d v e1 m1 r1 h1 => e.nx _ _ _ _ _ e1 (a.ext m1 e1) h1, kx⟩⟩
def dRet (t : TED) : TSD := fun k x σ M => t σ M k.rt x
theorem ds_ret {e : Expr} {t : TED} {pos : Pos} (he : DE w X e t) : DS w X (.Return (some e) pos) (dRet t) :=
  ⟨fun Wv tk => (ps_ret (he.run Wv tk)).imp fun De σv H ⟨σ, ρ, M, k, x, a, hq, e, kx⟩ => ⟨σ, ρ, M, _, x, a, hq, e.rt, kx⟩⟩
def dIf (c : TED) (t u : TSD) : TSD := fun k x σ M => c σ M (fun d M1 => ∃ b, d = .bl b ∧ if b = true then t k x σ M1 else u k x σ M1) x
theorem ds_if {c : Expr} {a b : List Stmt} {tc : TED} {t u : TSD} {pos : Pos} (hc : DT w X c (tst tc)) (ha : DSs w X a t) (hb : DSs w X b u) : DS w X (.If c a b pos) (dIf tc t u) :=
  ⟨fun Wv tk => (ps_if (hc.run Wv tk) (ha.run Wv tk) (hb.run Wv tk)).imp fun De σv H ⟨σ, ρ, M, k, x, a, hq, e, kx⟩ =>
    ⟨σ, ρ, M, (fun b M1 => if b = true then t k x σ M1 else u k x σ M1), x, a, hq, fun H1 ρ1 M1 b e1 m1 h1 => by
      cases b with
      | true => exact ⟨σ, ρ1, M1, k, x, a.ext m1 e1, h1, e.ext e1, kx.ext e1⟩
      | false => exact ⟨σ, ρ1, M1, k, x, a.ext m1 e1, h1, e.ext e1, kx.ext e1⟩, kx⟩⟩
def dAsg (t : TED) (g : TGD) : TSD := fun k x σ M => t σ M (fun d M1 => g d σ M1 k.nx x) x
theorem lAsg {own : List Nat} {Wv : WX} {t : TED} {g : TGD} {De : Ends} {σv : L2.St} {H : Hp} (h : lS w Wv (dAsg t g) De σv H) : tAsg (lE w Wv t) (lG w Wv own g) De σv H := by
  obtain ⟨σ, ρ, M, k, x, a, hq, e, kx⟩ := h
  exact ⟨σ, ρ, M, _, x, a, hq, fun H1 ρ1 M1 d v e1 m1 r1 h1 => ⟨d, σ, ρ1, M1, k.nx, x, a.ext m1 e1, r1, h1, fun H2 ρ2 M2 σ2 σv2 e2 a2 h2 _ => e.nx _ _ _ _ _ (e1.trans e2) a2 h2, kx.ext e1⟩, kx⟩
theorem ds_asg {own : List Nat} {tg e : Expr} {t : TED} {g : TGD} {pos : Pos} (he : DE w X e t) (hg : DG w X tg own g) (hs : swapsWithSole [tg] e pos.line X.env = pure false) (hw : swappedStores [tg] e X.env = pure none)
    (h1 : (assignEach [tg] X.env).map (·.2) = [assign tg X.env]) : DS w X (.Assign [tg] e pos) (dAsg t g) :=
  ⟨fun Wv tk => (ps_asg (he.run Wv tk) (hg.run Wv tk) hs hw h1).imp fun _ _ _ h => lAsg h⟩
theorem ds_set {i : Nat} {x : Str} {e : Expr} {t : TED} {pos pos' : Pos} (hN : X.N.Nodup) (hi : X.N[i]? = some x) (hx : Loc X.env.scope x) (he : DE w X e t) (hs : swapsWith e (some (.Name x pos')) pos.line X.env = pure false)
    (hf : X.fn x = true ∨ X.env.scope.names.lookup x = some .local) : DS w X (.Assign [.Name x pos'] e pos) (dAsg t (dgName i)) :=
  ⟨fun Wv tk => (ps_set hN hi hx (he.run Wv tk) hs hf).imp fun De σv H ⟨σ, ρ, M, k, x, a, hq, e, kx⟩ =>
    ⟨σ, ρ, M, _, x, a, hq, fun H1 ρ1 M1 d v e1 m1 r1 h1 => e.nx _ _ _ _ _ e1 ⟨m1, (a.s.ext e1).set r1 i⟩ h1, kx⟩⟩
/-- two plain locals at once -/
def dPar (i j : Nat) (t : TAD) : TSD := fun k x σ M => t σ M (fun ds M1 => ∃ a b, ds = [a, b] ∧ k.nx ((σ.set i (some a)).set j (some b)) M1) x
theorem ds_par {i j : Nat} {x y : Str} {a b : Expr} {ta : TAD} {px py pt : Pos} {kt k2 : Nat} {pt2 pos : Pos} (hc : X.calm = true) (hN : X.N.Nodup) (hi : X.N[i]? = some x) (hj : X.N[j]? = some y) (hij : i ≠ j)
    (hx : X.env.scope.names.lookup x = some .local) (hy : X.env.scope.names.lookup y = some .local) (ha : DA w X [a, b] ta)
    (hw : swappedStores [.Tuple [.Name x px, .Name y py] kt pt] (.Tuple [a, b] k2 pt2) X.env = pure (some [x, y]))
    (hs : swapsWithSole [.Tuple [.Name x px, .Name y py] kt pt] (.Tuple [a, b] k2 pt2) pos.line X.env = pure false) :
    DS w X (.Assign [.Tuple [.Name x px, .Name y py] kt pt] (.Tuple [a, b] k2 pt2) pos) (dPar i j ta) :=
  ⟨fun Wv tk => (ps_par hc hN hi hj hij hx hy (ha.run Wv tk) hw hs).imp fun De σv H ⟨σ, ρ, M, k, x, a, hq, e, kx⟩ =>
    ⟨σ, ρ, M, _, x, a, hq, fun H1 ρ1 M1 ds vs e1 m1 r1 ⟨d1, d2, ed, h1⟩ => by
      subst ed
      cases r1 with
      | cons p1 r2 =>
        cases r2 with
        | cons p2 r3 =>
          cases r3
          exact ⟨_, _, rfl, e.nx _ _ _ _ _ e1 ⟨m1, ((a.s.ext e1).set p1 i).set p2 j⟩ h1⟩, kx⟩⟩
/-- while -/
def wWhile (tc : TED) (tb : TSD) (k : DEnds) (x : XD) : Nat → Std → Sto → Prop
  | 0, _, _ => False
  | n + 1, σ, M => tc σ M (fun d M1 => ∃ b, d = .bl b ∧ if b = true then tb { k with nx := wWhile tc tb k x n, ct := wWhile tc tb k x n, bk := k.nx } x σ M1 else k.nx σ M1) x
def dWhile (tc : TED) (tb : TSD) : TSD := fun k x σ M => ∃ n, wWhile tc tb k x n σ M
theorem ds_while {c : Expr} {body : List Stmt} {tc : TED} {tb : TSD} {pos : Pos} (hp : PassesOwn (model X.prog X.w) X.A X.env X.xe) (hc : DT w X c (tst tc)) (hb : DSs w X body tb) : DS w X (.While c body [] pos) (dWhile tc tb) :=
  ⟨fun Wv tk => (ps_while hp (hc.run Wv tk) (hb.run Wv tk)).imp fun De σv H ⟨σ, ρ, M, k, x, a, ⟨n, hq⟩, e, kx⟩ => by
    refine ⟨fun m σv1 H1 => ∃ σ1 ρ1 M1, Exs w H ρ M H1 ρ1 M1 ∧ At w H1 ρ1 M1 σ1 σv1 ∧ wWhile tc tb k x m σ1 M1, ⟨n, σ, ρ, M, .refl, a, hq⟩, ?_⟩
    rintro m σv1 H1 ⟨σ1, ρ1, M1, e1, a1, h1⟩
    cases m with
    | zero => exact h1.elim
    | succ m =>
      refine ⟨σ1, ρ1, M1, (fun b M1 => if b = true then tb { k with nx := wWhile tc tb k x m, ct := wWhile tc tb k x m, bk := k.nx } x σ1 M1 else k.nx σ1 M1), x, a1, h1, fun H2 ρ2 M2 b e2 m2 h2 => ?_, kx.ext e1⟩
      cases b with
      | false => exact e.nx _ _ _ _ _ (e1.trans e2) (a1.ext m2 e2) h2
      | true =>
        refine ⟨fun σv3 H3 => ∃ σ3 ρ3 M3, Exs w H ρ M H3 ρ3 M3 ∧ At w H3 ρ3 M3 σ3 σv3 ∧ wWhile tc tb k x m σ3 M3, fun σ' H' q => ⟨m, Nat.lt_succ_self m, q⟩, ?_⟩
        exact ⟨σ1, ρ2, M2, _, x, a1.ext m2 e2, h2, ⟨fun H3 ρ3 M3 σ3 σv3 e3 a3 h3 => ⟨σ3, ρ3, M3, (e1.trans e2).trans e3, a3, h3⟩, fun _ _ _ _ _ e3 => e.rt _ _ _ _ _ ((e1.trans e2).trans e3),
          fun _ _ _ _ _ e3 => e.nx _ _ _ _ _ ((e1.trans e2).trans e3), fun H3 ρ3 M3 σ3 σv3 e3 a3 h3 => ⟨σ3, ρ3, M3, (e1.trans e2).trans e3, a3, h3⟩⟩, (kx.ext e1).ext e2⟩⟩
end
end TL
namespace TL
open PySem PySem.Spec PyProof.Rows L2
/-! ## what is walked -/
abbrev TID := Std → Sto → (List D → (Sto → Prop) → Sto → Prop) → XD → Prop
structure Src (w : Wd) (J : It) (H0 : Hp) (ρ0 : List Addr) (M0 : Sto) (items : List D) (stab : Sto → Prop) : Prop where
  go : ∀ (hd : Addr → Prop) i H ρ M, (∀ a, hd a → w.hid a ∨ H0 a = none) → Exs w H0 ρ0 M0 H ρ M → RepM (whd w hd) H ρ M → stab M → i < items.length → J.go i H
  stop : ∀ (hd : Addr → Prop) i H ρ M, (∀ a, hd a → w.hid a ∨ H0 a = none) → Exs w H0 ρ0 M0 H ρ M → RepM (whd w hd) H ρ M → stab M → items.length ≤ i → J.stop i H
  yld : ∀ (hd : Addr → Prop) i H ρ M v H', (∀ a, hd a → w.hid a ∨ H0 a = none) → Exs w H0 ρ0 M0 H ρ M → RepM (whd w hd) H ρ M → stab M → J.yld i H v H' → i < items.length →
    ∃ d, items[i]? = some d ∧ Exs (whd w hd) H ρ M H' ρ M ∧ RepM (whd w hd) H' ρ M ∧ Rp (whd w hd) H' ρ M d v
theorem Ext.whd {w : Wd} {hd : Addr → Prop} {H0 H : Hp} {ρ0 ρ : List Addr} {M0 M : Sto} (c : ∀ a, hd a → w.hid a ∨ H0 a = none) (e : Exs w H0 ρ0 M0 H ρ M) : Ext w H0 ρ0 (Lv w ρ0 M0) H ρ (Lv (TL.whd w hd) ρ M) :=
  ⟨e.fr, e.has, e.ix, fun a h => by
    rcases h with h | h
    · exact (c a h).imp .inl id
    · exact e.lv a (.inr h), e.hid⟩
def lI (w : Wd) (Wv : WX) (t : TID) : TI := fun σv H R => ∃ σ ρ M q x, At w H ρ M σ σv ∧ t σ M q x ∧
  (∀ H' ρ' M' J items stab, Exs w H ρ M H' ρ' M' → RepM w H' ρ' M' → Src w J H' ρ' M' items stab → q items stab M' → R J H') ∧ XOk w H ρ M x Wv
theorem _root_.L2.PI.imp {X : Cx} {tg e : Expr} {t t' : TI} (h : PI X tg e t) (i : ∀ σ H R, t' σ H R → t σ H R) : PI X tg e t' := ⟨fun pins s σ H R I q => h.run pins s σ H R I (i _ _ _ q)⟩
structure DI (w : Wd) (X : Cx) (tg e : Expr) (t : TID) : Prop where
  run : ∀ Wv, Tk X Wv → PI X tg e (lI w Wv t)
section
variable {w : Wd} {X : Cx} {tg : Expr}
def iSeq (K : PySem.W.Frag) (tl : TE) : TI := fun σ H R => tl σ H fun x H1 => ∃ a, x = .ref a ∧ (((∃ xs, SqL K H1 a xs) ∧ R (Itl K a) H1) ∨ ((∃ xs, SqT K H1 a xs) ∧ R (Itt K a) H1))
theorem pi_seq {l : Expr} {tl : TE} (hl : PE X l tl) : PI X tg l (iSeq X.K tl) := by
  refine ⟨fun pins s σ H R I h => ?_⟩
  refine thn (hl.run pins s σ H _ I h) fun v s1 ⟨x, H1, I1, r1, q1⟩ => ?_
  obtain ⟨a, e, ⟨⟨xs, hq⟩, q⟩ | ⟨⟨xs, hq⟩, q⟩⟩ := q1
  · subst e
    cases r1
    obtain ⟨its, rv, p, hz⟩ := I1.list hq
    refine wpAny_pyIter_list p.isList ?_
    refine ⟨s1.heap.objs.size, [s1.heap.objs.size], _, _, H1, rfl, I1.kept (t' := s1.toks) fun b o e => Heap.get?_push_of_some _ e, turn_list a _, ⟨_, Heap.get?_push_size _ rfl, rfl, rfl⟩, fun b hb => ?_, q⟩
    have e : b = s1.heap.objs.size := by simpa using hb
    subst e
    exact I1.fpOk (Nat.le_refl _) (I1.hok.fresh (Nat.le_refl _))
  · subst e
    cases r1
    obtain ⟨its, rv, p, hz⟩ := I1.tuple hq
    refine wpAny_pyIter_tuple (show s1.heap.IsTuple a its.toArray from p) ?_
    refine ⟨s1.heap.objs.size, [s1.heap.objs.size], _, _, H1, rfl, I1.kept (t' := s1.toks) fun b o e => Heap.get?_push_of_some _ e, turn_tuple a _, ⟨_, Heap.get?_push_size _ rfl, rfl, rfl⟩, fun b hb => ?_, q⟩
    have e : b = s1.heap.objs.size := by simpa using hb
    subst e
    exact I1.fpOk (Nat.le_refl _) (I1.hok.fresh (Nat.le_refl _))
/-- the items of a list, a tuple; a mutable list must stay as it is -/
def seqItems (d : D) (M : Sto) (q : List D → (Sto → Prop) → Sto → Prop) : Prop := match d with
  | .lst ds => q ds (fun _ => True) M
  | .tup ds => q ds (fun _ => True) M
  | .scr ns => q (ns.map .int) (fun _ => True) M
  | .obj i => ∃ ds, M[i]? = some (.lst ds) ∧ q ds (fun M => M[i]? = some (.lst ds)) M
  | _ => False
theorem src_lst {H0 : Hp} {ρ0 : List Addr} {M0 : Sto} {a : Addr} {ds : List D} {stab : Sto → Prop}
    (h : ∀ (hd : Addr → Prop) H ρ M, (∀ a, hd a → w.hid a ∨ H0 a = none) → Exs w H0 ρ0 M0 H ρ M → RepM (whd w hd) H ρ M → stab M → ∃ vs, SqL w.K H a vs ∧ Rps (whd w hd) H ρ M ds vs) : Src w (Itl w.K a) H0 ρ0 M0 ds stab where
  go := fun hd i H ρ M c e m st hi => by
    obtain ⟨vs, s, r⟩ := h hd H ρ M c e m st
    obtain ⟨v, hv, _⟩ := r.get (List.getElem?_eq_getElem hi)
    exact ⟨vs, v, s, hv⟩
  stop := fun hd i H ρ M c e m st hi => by
    obtain ⟨vs, s, r⟩ := h hd H ρ M c e m st
    exact ⟨vs, s, r.length ▸ hi⟩
  yld := fun hd i H ρ M v H' c e m st ⟨e1, f⟩ hi => by
    subst e1
    obtain ⟨vs, s, r⟩ := h hd _ ρ M c e m st
    obtain ⟨d, hd, rd⟩ := r.getV (f vs s)
    exact ⟨d, hd, .refl, m, rd⟩
theorem src_tup {H0 : Hp} {ρ0 : List Addr} {M0 : Sto} {a : Addr} {ds : List D} {stab : Sto → Prop}
    (h : ∀ (hd : Addr → Prop) H ρ M, (∀ a, hd a → w.hid a ∨ H0 a = none) → Exs w H0 ρ0 M0 H ρ M → RepM (whd w hd) H ρ M → stab M → ∃ vs, SqT w.K H a vs ∧ Rps (whd w hd) H ρ M ds vs) : Src w (Itt w.K a) H0 ρ0 M0 ds stab where
  go := fun hd i H ρ M c e m st hi => by
    obtain ⟨vs, s, r⟩ := h hd H ρ M c e m st
    obtain ⟨v, hv, _⟩ := r.get (List.getElem?_eq_getElem hi)
    exact ⟨vs, v, s, hv⟩
  stop := fun hd i H ρ M c e m st hi => by
    obtain ⟨vs, s, r⟩ := h hd H ρ M c e m st
    exact ⟨vs, s, r.length ▸ hi⟩
  yld := fun hd i H ρ M v H' c e m st ⟨e1, f⟩ hi => by
    subst e1
    obtain ⟨vs, s, r⟩ := h hd _ ρ M c e m st
    obtain ⟨d, hd, rd⟩ := r.getV (f vs s)
    exact ⟨d, hd, .refl, m, rd⟩
theorem RepM.lstAt {H : Hp} {ρ : List Addr} {M : Sto} (m : RepM w H ρ M) {i : Nat} {a : Addr} {ds : List D} (h1 : ρ[i]? = some a) (h2 : M[i]? = some (D.lst ds)) : ∃ vs, H a = some (.lst vs) ∧ Rps w H ρ M ds vs := m.obj i a _ h1 h2 (by simp)
def dSeqI (t : TED) : TID := fun σ M q x => t σ M (fun d M1 => seqItems d M1 q) x
theorem repL_ints {c : Wc} {H : Hp} {ρ : List Addr} {L : Addr → Prop} : ∀ ns : List Int, RepL c H ρ L (ns.map D.int) (ns.map V.int)
  | [] => .nil
  | n :: ns => .cons (.int n) (repL_ints ns)
theorem di_seq {e : Expr} {t : TED} (hK : X.K = w.K) (he : DE w X e t) : DI w X tg e (dSeqI t) :=
  ⟨fun Wv tk => (pi_seq (he.run Wv tk)).imp fun σv H R ⟨σ, ρ, M, q, x, a, hq, k, kx⟩ =>
    ⟨σ, ρ, M, _, x, a, hq, fun H1 ρ1 M1 d v e1 m1 r1 h1 => by
      rw [hK]
      cases r1 with
      | lst s rs =>
        exact ⟨_, rfl, .inl ⟨⟨_, s.sq⟩, k _ _ _ _ _ _ e1 m1 (src_lst fun hd H ρ M c e m _ => ⟨_, (s.ext (e.whd c)).sq, rs.ext (e.whd c)⟩) h1⟩⟩
      | tup s rs =>
        exact ⟨_, rfl, .inr ⟨⟨_, s.sq⟩, k _ _ _ _ _ _ e1 m1 (src_tup fun hd H ρ M c e m _ => ⟨_, (s.ext (e.whd c)).sq, rs.ext (e.whd c)⟩) h1⟩⟩
      | scr s =>
        exact ⟨_, rfl, .inl ⟨⟨_, s.sq⟩, k _ _ _ _ _ _ e1 m1 (src_lst fun hd H ρ M c e m _ => ⟨_, (s.ext (e.whd c)).sq, repL_ints _⟩) h1⟩⟩
      | obj ho =>
        obtain ⟨ds, hm, h1⟩ := h1
        obtain ⟨vs, hv, rs⟩ := m1.lstAt ho hm
        refine ⟨_, rfl, .inl ⟨⟨_, SqL.of hv⟩, k _ _ _ _ _ _ e1 m1 (src_lst fun hd H ρ M c e m st => ?_) h1⟩⟩
        obtain ⟨vs', hv', rs'⟩ := m.lstAt (e.ix _ _ ho) st
        exact ⟨vs', SqL.of hv', rs'⟩
      | _ => exact h1.elim, kx⟩⟩
/-- lo, lo + 1, .. -/
def rgD (lo : Int) (n : Nat) : List D := (List.range n).map fun (i : Nat) => D.int (lo + (i : Int))
theorem rgD_get {lo : Int} {n i : Nat} (h : i < n) : (rgD lo n)[i]? = some (.int (lo + (i : Int))) := by simp [rgD, h]
theorem rgD_len {lo : Int} {n : Nat} : (rgD lo n).length = n := by simp [rgD]
theorem src_rg {H0 : Hp} {ρ0 : List Addr} {M0 : Sto} {lo : Int} {n : Nat} : Src w (Itr lo n) H0 ρ0 M0 (rgD lo n) (fun _ => True) where
  go := fun hd i H ρ M c e m st hi => by rw [rgD_len] at hi; exact hi
  stop := fun hd i H ρ M c e m st hi => by rw [rgD_len] at hi; exact hi
  yld := fun hd i H ρ M v H' c e m st ⟨e1, e2⟩ hi => by
    subst e1 e2
    rw [rgD_len] at hi
    exact ⟨_, rgD_get hi, .refl, m, .int _⟩
def dRg1 (t : TED) : TID := fun σ M q x => t σ M (fun d M1 => ∃ j : Int, d = .int j ∧ (-(2 ^ 62) ≤ j ∧ j < 2 ^ 62) ∧ q (rgD 0 j.toNat) (fun _ => True) M1) x
def dRg2 (ta tb : TED) : TID := fun σ M q x => ta σ M (fun d M1 => tb σ M1 (fun d2 M2 => ∃ i j : Int, d = .int i ∧ d2 = .int j ∧ (-(2 ^ 62) ≤ i ∧ i < 2 ^ 62 ∧ -(2 ^ 62) ≤ j ∧ j < 2 ^ 62) ∧ q (rgD i (j - i).toNat) (fun _ => True) M2) x) x
theorem di_rg1 {a : Expr} {t : TED} {p pos : Pos} (hg : Gl X "range") (hm : X.mg "range" = none) (ha : DE w X a t) (hs : starEach [a] X.env = [(false, eval a X.env)]) : DI w X tg (.Call (.Name "range" p) [a] [] pos) (dRg1 t) :=
  ⟨fun Wv tk => (pi_range1 hg hm (pa_cons (ha.run Wv tk) pa_nil hs) hs).imp fun σv H R ⟨σ, ρ, M, q, x, a, hq, k, kx⟩ =>
    ⟨σ, ρ, M, _, x, a, hq, fun H1 ρ1 M1 d v e1 m1 r1 ⟨j, e, ⟨b1, b2⟩, h1⟩ => by
      subst e
      exact ⟨j, by rw [rp_int r1], b1, b2, k _ _ _ _ _ _ e1 m1 src_rg h1⟩, kx⟩⟩
theorem di_rg2 {a b : Expr} {ta tb : TED} {p pos : Pos} (hg : Gl X "range") (hm : X.mg "range" = none) (ha : DE w X a ta) (hb : DE w X b tb) (hs : starEach [a, b] X.env = [(false, eval a X.env), (false, eval b X.env)]) (hs2 : starEach [b] X.env = [(false, eval b X.env)]) :
    DI w X tg (.Call (.Name "range" p) [a, b] [] pos) (dRg2 ta tb) :=
  ⟨fun Wv tk => (pi_range2 hg hm (pa_cons (ha.run Wv tk) (pa_cons (hb.run Wv tk) pa_nil hs2) (by rw [hs, hs2])) hs hs2).imp fun σv H R ⟨σ, ρ, M, q, x, a, hq, k, kx⟩ =>
    ⟨σ, ρ, M, _, x, a, hq, fun H1 ρ1 M1 d v e1 m1 r1 h1 => ⟨σ, ρ1, M1, _, x, a.ext m1 e1, h1, fun H2 ρ2 M2 d2 v2 e2 m2 r2 ⟨i, j, ei, ej, bb, h2⟩ => by
      subst ei ej
      exact ⟨i, j, by rw [rp_int r1, rp_int r2], bb, k _ _ _ _ _ _ (e1.trans e2) m2 src_rg h2⟩, kx.ext e1⟩, kx⟩⟩
/-! ### for -/
def wFor (g : TGD) (tb : TSD) (k : DEnds) (x : XD) (stab : Sto → Prop) : List D → Std → Sto → Prop
  | [], σ, M => stab M ∧ k.nx σ M
  | d :: ds, σ, M => stab M ∧ g d σ M (fun σ1 M1 => tb { k with nx := wFor g tb k x stab ds, ct := wFor g tb k x stab ds, bk := k.nx } x σ1 M1) x
def dFor (t : TID) (g : TGD) (tb : TSD) : TSD := fun k x σ M => t σ M (fun items stab M1 => wFor g tb k x stab items σ M1) x
theorem ds_for {iter : Expr} {body : List Stmt} {t : TID} {g : TGD} {tb : TSD} {pos : Pos} {own : List Nat} (hp : PassesOwn (model X.prog X.w) X.A X.env X.xe) (hc : X.calm = true) (hi : DI w X tg iter t) (hg : DG w X tg own g) (hb : DSs w X body tb)
    (hs : ∀ x, foldedSetIterable iter X.env x = pure x) : DS w X (.For tg iter body [] pos) (dFor t g tb) :=
  ⟨fun Wv tk => (ps_for hp hc (hi.run Wv tk) (hg.run Wv tk) (hb.run Wv tk) hs).imp fun De σv H ⟨σ, ρ, M, k, x, a, hq, e, kx⟩ => by
    refine ⟨σ, ρ, M, _, x, a, hq, fun H1 ρ1 M1 J items stab e1 m1 S h1 => ?_, kx⟩
    refine ⟨fun i m σv2 H2 => m = items.length - i ∧ i ≤ items.length ∧ ∃ σ2 ρ2 M2, Exs w H1 ρ1 M1 H2 ρ2 M2 ∧ At w H2 ρ2 M2 σ2 σv2 ∧ wFor g tb k x stab (items.drop i) σ2 M2,
      ⟨items.length, by simp, Nat.zero_le _, σ, ρ1, M1, .refl, a.ext m1 e1, h1⟩, ?_⟩
    rintro i m σv2 H2 ⟨rfl, hi, σ2, ρ2, M2, e2, a2, h2⟩
    by_cases hlt : i < items.length
    · have hdr : items.drop i = items[i] :: items.drop (i + 1) := List.drop_eq_getElem_cons hlt
      rw [hdr] at h2
      obtain ⟨st, h2⟩ := h2
      refine .inr ⟨S.go w.hid i H2 ρ2 M2 (fun _ h => .inl h) e2 a2.m st hlt, fun σv3 H3 => ∃ σ3 ρ3 M3, Exs w H1 ρ1 M1 H3 ρ3 M3 ∧ At w H3 ρ3 M3 σ3 σv3 ∧ wFor g tb k x stab (items.drop (i + 1)) σ3 M3, fun σ' H' q => ⟨items.length - (i + 1), by omega, rfl, hlt, q⟩, fun v H3 y => ?_⟩
      obtain ⟨d, hd, e3, m3, r3⟩ := S.yld w.hid i H2 ρ2 M2 v H3 (fun _ h => .inl h) e2 a2.m st y hlt
      rw [List.getElem?_eq_getElem hlt] at hd
      obtain rfl : items[i] = d := Option.some.inj hd
      refine ⟨_, σ2, ρ2, M2, _, x, a2.ext m3 e3, r3, h2, fun H4 ρ4 M4 σ4 σv4 e4 a4 h4 _ => ?_, kx.ext (e1.trans (e2.trans e3))⟩
      have e04 := e1.trans (e2.trans (e3.trans e4))
      exact ⟨σ4, ρ4, M4, _, x, a4, h4, ⟨fun H5 ρ5 M5 σ5 σv5 e5 a5 h5 => ⟨σ5, ρ5, M5, (e2.trans (e3.trans e4)).trans e5, a5, h5⟩, fun _ _ _ _ _ e5 => e.rt _ _ _ _ _ (e04.trans e5),
        fun _ _ _ _ _ e5 => e.nx _ _ _ _ _ (e04.trans e5), fun H5 ρ5 M5 σ5 σv5 e5 a5 h5 => ⟨σ5, ρ5, M5, (e2.trans (e3.trans e4)).trans e5, a5, h5⟩⟩, kx.ext e04⟩
    · have ei : i = items.length := by omega
      subst ei
      rw [List.drop_length] at h2
      exact .inl ⟨S.stop w.hid _ H2 ρ2 M2 (fun _ h => .inl h) e2 a2.m h2.1 (Nat.le_refl _), e.nx _ _ _ _ _ (e1.trans e2) a2 h2.2⟩⟩
end
end TL
namespace TL
open PySem PySem.Spec PyProof.Rows L2
/-! ## list comprehensions whose turns may raise -/
/-- the frame that runs: a def's, or the def's around a comprehension's block -/
def FrOk (X : Cx) : Prop := ∃ (fe : Env) (fo : List Env) (Lf : Addr), X.stack = fe :: fo ∧ fe.frame = some Lf ∧ X.env.frame = some Lf
abbrev blkE (X : Cx) (s : Shared) (H : Hp) (scope : Scope) (ce : Env) (fp : List Addr) (E : Value → Shared → Prop) : Cx := (X.blk s H scope ce fp).wish E
section
variable {X : Cx}
theorem thnE {α : Type} {t : Sem α} {Q Q' : α → Shared → Prop} {M : Model} {A : Around} {E : Value → Shared → Prop} {s : Shared} (h : wpAny M A t Q (fun _ _ => False) s) (hQ : ∀ a s, Q a s → Q' a s) : wpAny M A t Q' E s := wpAny_mono h hQ fun _ _ z => z.elim
/-- an exception of the block's is one of the def's: noted at the frame, the block's own names let go -/
theorem blk_takes {Wv : WX} {σ : L2.St} {H3 : Hp} {s3 : Shared} {pins : List (Addr × Obj)} {scope : Scope} {ce : Env} {fp : List Addr} {E : Value → Shared → Prop} (fo : FrOk X) (tk : Tk X Wv) (I3 : Inv X pins σ H3 s3)
    (cL : ce.locals = s3.heap.objs.size) (cF : ce.frame = X.env.frame)
    (f3 : ∀ b ∈ fp, FpOk X pins H3 b ∧ b < s3.heap.objs.size) (hE : E = notedBy (model X.prog X.w) X.A ce (CompFails (model X.prog X.w) X.A X.xe ce)) :
    Tk (blkE X s3 H3 scope ce fp E) (fun cls d _ H' => Wv cls d σ H') := by
  rintro u s' ⟨Lf, a, B, sI, pins', σ', H', cls, d, hfr, rfl, I', nb, up, sky, na, os, ag, w⟩
  have hfr : ce.frame = some Lf := hfr
  obtain ⟨fe, fo', Lf', hst, hfe, hfx⟩ := fo
  have eL : Lf' = Lf := by rw [cF, hfx] at hfr; exact Option.some.inj hfr
  subst eL
  show E (.ref a) s'
  rw [hE]
  have hA : X.A.frames = some (fe :: fo') := by rw [I3.ok.frames, hst]
  have nb : ∀ b o, sI.heap.get? b = some o → b ∉ frs X.stack → B.get? b = some o := nb
  have sky : Sky B (fe :: fo') a (Zc cls d) Lf' s'.heap := by rw [← hst]; exact sky
  show wpAny _ _ (noteFrame (.ref a) ce) _ _ s'
  rw [noteFrame_env (.ref a) (env := fe) (cenv := ce) (by rw [hfe, hfr])]
  -- behind the note: held by the frame
  have held : ∀ h1, HandSPX.HeldZ B (fe :: fo') a (Zc cls d) Lf' h1 → s'.heap.UpToSlots h1 → CompFails (model X.prog X.w) X.A X.xe ce (.ref a) { s' with heap := h1 } := by
    intro h1 hh up1
    obtain ⟨m, hn, _⟩ := I'.loc
    have hn : sI.heap.Ns ce.locals m := hn
    have up2 := up.trans up1
    refine ⟨m, Heap.Ns.upToSlots hn (fun b o e q => up2 b o e q), fun h2 m2 hn2 sb => ?_⟩
    -- the ground without the block's names
    obtain ⟨G, g1, g2⟩ := restrict sI.heap fun b => decide (b ≠ ce.locals)
    obtain ⟨B2, b1, b2⟩ := restrict B fun b => decide (b ≠ ce.locals)
    have gk : ∀ b, b ≠ ce.locals → G.get? b = sI.heap.get? b := fun b hb => g1 b (decide_eq_true hb)
    have gn : G.get? ce.locals = none := g2 _ (by simp)
    have bk : ∀ b, b ≠ ce.locals → B2.get? b = B.get? b := fun b hb => b1 b (decide_eq_true hb)
    have bn : B2.get? ce.locals = none := b2 _ (by simp)
    have ofG : ∀ {b o}, G.get? b = some o → b ≠ ce.locals ∧ sI.heap.get? b = some o := fun {b o} e => by
      by_cases hb : b = ce.locals
      · subst hb; rw [gn] at e; cases e
      · exact ⟨hb, (gk b hb).symm.trans e⟩
    have ofB : ∀ {b o}, B2.get? b = some o → b ≠ ce.locals ∧ B.get? b = some o := fun {b o} e => by
      by_cases hb : b = ce.locals
      · subst hb; rw [bn] at e; cases e
      · exact ⟨hb, (bk b hb).symm.trans e⟩
    have old : ∀ b o, s3.heap.get? b = some o → b ≠ ce.locals := fun b o e => by rw [cL]; exact Nat.ne_of_lt (Heap.lt_size e)
    have I7 : Inv X pins σ H' { sI with heap := G } := by
      have un : Un (frs X.stack) fp H3 H' s3.heap sI.heap := I'.base
      refine I3.call' (ch := fp) (s' := { sI with heap := G }) I'.os ?_ ?_ I'.bare fun b hb => ⟨(f3 b hb).1.2.2.2.1, (f3 b hb).1.2.1, (f3 b hb).1.2.2.2.2.1, (f3 b hb).1.2.2.2.2.2⟩
      · exact ⟨fun b o e n h1 h2 => (gk b (old b o e)).trans (un.keep b o e n h1 h2), fun b o e n h1 h2 => by
          obtain ⟨sl, q⟩ := un.slot b o e n h1 h2
          exact ⟨sl, (gk b (old b o e)).trans q⟩, un.free, fun b o e h => by
          obtain ⟨o', q⟩ := un.there b o e h
          exact ⟨o', (gk b (old b o e)).trans q⟩, un.tups, un.frzs, un.tbls⟩
      · have fr : H' ce.locals = none := I'.free
        refine fun b o e => (I'.hok b o e).stay (fun c v hc q => (gk c ?_).trans q) (fun _ q => q) fun _ _ q => q
        rintro rfl
        rcases hc with hc | hc
        · rw [← hc, fr] at e; cases e
        · rw [fr] at hc; cases hc
    obtain ⟨hB, hBa, hF, T⟩ := hh
    have hB2 : B2.StaysIn h2 := fun b o e => by
      obtain ⟨n, q⟩ := ofB e
      exact (sb.2 b n).trans (hB b o q)
    have hF2 : h2.FunFrames B2 (fe :: fo') := by
      have z := Heap.FunFrames.sameBut sb hn2 hF
      exact funFrames_none z fun L hL => by
        cases q : B2.get? L with
        | none => rfl
        | some o =>
          have := (z.mem hL).1
          rw [(ofB q).2] at this
          cases this
    have naL : a ≠ ce.locals := by
      rintro rfl
      obtain ⟨oe, vs, T', oT, ts, he, hz, hd, _⟩ := T
      obtain ⟨oL, es, ep, ho, hdd, _⟩ := hn
      obtain ⟨sl, q⟩ := up2 _ oL ho (fun vs q => by rw [hdd] at q; cases q)
      rw [q] at he
      cases he
      rw [show ({ oL with slots := sl } : Obj).data = oL.data from rfl, hdd] at hd
      cases hd
    have hT2 : HandSPX.TracedZ h2 B2 a (Zc cls d) (rawInt Lf') := by
      obtain ⟨oe, vs, T', oT, ts, he, hz, hd, h1', hnT, hTe, hT, hdT, h3⟩ := T
      have nT : T' ≠ ce.locals := by
        rintro rfl
        obtain ⟨oL, es, ep, ho, hdd, _⟩ := hn
        obtain ⟨sl, q⟩ := up2 _ oL ho (fun vs q => by rw [hdd] at q; cases q)
        rw [q] at hT
        cases hT
        rw [show ({ oL with slots := sl } : Obj).data = oL.data from rfl, hdd] at hdT
        cases hdT
      refine ⟨oe, vs, T', oT, ts, (sb.2 a naL).trans he, hz, hd, h1', ?_, hTe, (sb.2 T' nT).trans hT, hdT, h3⟩
      cases q : B2.get? T' with
      | none => rfl
      | some o => rw [(ofB q).2] at hnT; cases hnT
    have hB2a : B2.get? a = none := by
      cases q : B2.get? a with
      | none => rfl
      | some o => rw [(ofB q).2] at hBa; cases hBa
    have hh2 : HandSPX.HeldZ B2 (fe :: fo') a (Zc cls d) Lf' h2 := ⟨hB2, hB2a, hF2, hT2⟩
    obtain ⟨oe, vs, T', oT, ts, he, hz, hd, h1', hr⟩ := hT2
    unfold PySem.passOn
    refine wpAny_bind (wpAny_field he hd h1' ?_)
    rw [if_neg (show ¬ ((Value.ref T' == Value.none) = true) from by simp), hfr]
    have fin : wpAny (model X.prog X.w) X.A (setFlight (.ref a) (some Lf')) (fun _ s4 => wpAny (model X.prog X.w) X.A (throw (.ref a) : Sem Value) (fun _ _ => False) X.xe s4) X.xe { s' with heap := h2 } := by
      refine HandSPX.setFlight_onZ hh2 fun h4 hh4 up4 => wpAny_throw (tk _ _ ?_)
      refine ⟨Lf', a, B2, { sI with heap := G }, pins, σ, H', cls, d, hfx, rfl, I7, fun b o e hb => ?_, fun b o e q => ?_, .inr (.inr (by rw [hst]; exact hh4)), na, os, ag, w⟩
      · obtain ⟨n, q⟩ := ofG e
        exact (bk b n).trans (nb b o q hb)
      · obtain ⟨n, z⟩ := ofG e
        obtain ⟨sl, z2⟩ := up2 b o z q
        exact up4 b _ ((sb.2 b n).trans z2) q |>.imp fun sl' z3 => z3
    first
      | exact wpAny_bind (wpAny_pure (wpAny_bind fin))
      | exact wpAny_bind fin
  rcases sky with ⟨hB, hn, hl, oe, vs, he, hz, hd, h1⟩ | fl | hh
  · exact HandSPX.look_newZ Zc.steady hA hl hfe he hB hn hd h1 hz fun h' hh' up' => held h' hh' up'
  · exact HandSPX.looks_onZ Zc.steady hA hfe fl fun h' hh' up' => held h' hh' up'
  · exact HandSPX.againZ hfe hh.2.2.2 (held s'.heap hh (Heap.UpToSlots.refl _))
theorem lcX {pins : List (Addr × Obj)} {s : Shared} {σ : L2.St} {H : Hp} {Q : VK} {Wv : WX} {elt tg iter : Expr} {ifs : List Expr} {scope : Scope} {own : List (Str × Nat)} {pos pos' : Pos} {wi : TI} {g : TG} {tt : TT} {te : TE} {use : Option (Value → Sem Unit)} {Qf : Value → Shared → Prop}
    (hc : X.calm = true) (hN : X.N.Nodup) (fo : FrOk X) (tk : Tk X Wv) (I : Inv X pins σ H s) (hi : PI X tg iter wi) (ok : BlkOk X.N X.env.scope scope own)
    (hb : ∀ (s : Shared) (H : Hp) (C : Addr) (cl : List (Str × Addr)) (fp : List Addr) (E : Value → Shared → Prop), Tk (blkE X s H scope (compEnvC scope cl C X.env) fp E) (fun cls d _ H' => Wv cls d σ H') →
      PG (blkE X s H scope (compEnvC scope cl C X.env) fp E) tg g ∧ PTs (blkE X s H scope (compEnvC scope cl C X.env) fp E) ifs tt ∧ PE (blkE X s H scope (compEnvC scope cl C X.env) fp E) elt te)
    (hs : ∀ x, foldedSetIterable iter X.env x = pure x) (h : tLc wi g tt te (own.map (·.2)) σ H Q)
    (hRR : ∀ D C s' m H' (ce : Env), ce.locals = C → Inv X pins σ H' s' → Q (.ref D) H' → s'.heap.Ns C m → FpOk X pins H' C → compEnds (model X.prog X.w) X.A X.xe use Qf (.ref D) ce (.ok .next) s') :
    wpAny (model X.prog X.w) X.A (comprehension (.ListComp elt [⟨tg, iter, ifs, 0⟩] scope pos) scope X.env pos' (newList []) false (eval iter X.env) use) Qf X.xe s := by
  have hfree : ∀ y ∈ scope.names, y.2 = .free → ∃ c, X.env.cells.lookup y.1 = some c := fun y hy e => (ok.free y hy e).elim (fun k => I.ok.has _ (.inl k)) fun k => I.ok.has _ (.inr k)
  refine comprehension_at (use := use) rfl hs (closure_ok hfree) ok.kind (fun y hy e => by rw [ok.uniq y hy, e]) (thn (hi.run pins s σ H _ I h) fun xv s1 hx => thn hx fun itv s2 h2 => ?_)
  obtain ⟨it, fp, tn, J, H2, e, I2, T, st2, f2, q⟩ := h2
  subst e
  refine wpAny_newObj_type (newEnv_comp ?_) (by show 0 ≤ sizeLine; decide)
  obtain ⟨D, hD⟩ : ∃ D, D = s2.heap.objs.size := ⟨_, rfl⟩
  have hDn : H2 D = none := I2.hok.fresh (Nat.le_of_eq hD.symm)
  obtain ⟨W, ⟨m0, w0⟩, turn⟩ := q D hDn
  obtain ⟨s3, hs3⟩ : ∃ s3 : Shared, s3 = { s2 with heap := s2.heap.push { cls := .type "list", data := .seq ([] : List Value).toArray } } := ⟨_, rfl⟩
  have h3 : s3.heap = s2.heap.push { cls := .type "list", data := .seq ([] : List Value).toArray } := by rw [hs3]
  have I3 : Inv X pins σ (upd H2 D (.lst [])) s3 := by
    rw [hs3]
    exact I2.laid (t' := s2.toks) (fun b o e => Heap.get?_push_of_some _ e) (Nat.le_of_eq hD.symm) ⟨Nat.zero_le _, [], 0, .nil, by rw [hD]; exact Heap.get?_push_size _ rfl⟩
  have f3 : ∀ b ∈ fp, FpOk X pins (upd H2 D (.lst [])) b ∧ b < s3.heap.objs.size := fun b hb => by
    obtain ⟨o, eo, _⟩ := T.obj _ _ st2 b hb
    have hlt := Heap.lt_size eo
    exact ⟨⟨by rw [upd_ne (by rw [hD]; exact Nat.ne_of_lt hlt)]; exact (f2 b hb).1, (f2 b hb).2⟩, by rw [h3, Heap.size_push]; exact Nat.lt_succ_of_lt hlt⟩
  have st3 : tn 0 s3.heap := T.keep _ _ _ st2 fun b _ o e => by rw [h3]; exact Heap.get?_push_of_some _ e
  have I4 := block_start I3 ok hN f3
  have hblk := hb s3 (upd H2 D (.lst [])) s3.heap.objs.size (cellsFrom (s3.heap.objs.size + 1) scope.names (cloFrom X.env.cells scope.names [])) fp
  rw [← hD]
  rw [← hs3]
  show codeAny _ _ (.compStart (.ListComp elt [⟨tg, iter, ifs, 0⟩] scope pos) 0 (.ref it) (.ref D) (compEnvC scope (cellsFrom (s3.heap.objs.size + 1) scope.names (cloFrom X.env.cells scope.names [])) s3.heap.objs.size X.env))
    (compEnds (model X.prog X.w) X.A X.xe use Qf (.ref D) (compEnvC scope (cellsFrom (s3.heap.objs.size + 1) scope.names (cloFrom X.env.cells scope.names [])) s3.heap.objs.size X.env)) { s3 with heap := pushCells (s3.heap.push { cls := .type "dict", data := .dict #[] }) scope.names }
  obtain ⟨ce, hce⟩ : ∃ ce, ce = compEnvC scope (cellsFrom (s3.heap.objs.size + 1) scope.names (cloFrom X.env.cells scope.names [])) s3.heap.objs.size X.env := ⟨_, rfl⟩
  have cL : ce.locals = s3.heap.objs.size := by subst hce; rfl
  have cF : ce.frame = X.env.frame := by subst hce; rfl
  obtain ⟨pg, pt, pe⟩ := hblk _ (by rw [← hce]; exact blk_takes fo tk I3 cL cF f3 rfl)
  rw [← hce] at I4 pg pt pe ⊢
  have I4 := I4.wish (notedBy (model X.prog X.w) X.A ce (CompFails (model X.prog X.w) X.A X.xe ce))
  obtain ⟨H3, hH3⟩ : ∃ H3, H3 = upd H2 D (.lst []) := ⟨_, rfl⟩
  rw [← hH3] at I3 I4 pg pt pe w0 f3
  have nfp : ∀ b ∈ fp, H3 b = none := fun b hb => (f3 b hb).1.1
  obtain ⟨s4, hs4⟩ : ∃ s4 : Shared, s4 = { s3 with heap := pushCells (s3.heap.push { cls := .type "dict", data := .dict #[] }) scope.names } := ⟨_, rfl⟩
  rw [← hs4] at I4 ⊢
  have st4 : tn 0 s4.heap := T.keep _ _ _ st3 fun b _ o e => by rw [hs4]; exact pushCells_keeps _ _ _ _ (Heap.get?_push_of_some _ e)
  obtain ⟨xe, hxe⟩ : ∃ xe, xe = notedBy (model X.prog X.w) X.A ce (CompFails (model X.prog X.w) X.A X.xe ce) := ⟨_, rfl⟩
  rw [← hxe] at I4 pg pt pe
  have stat : ∀ {σ' : L2.St} {H' : Hp} {s' : Shared}, Inv (blkE X s3 H3 scope ce fp xe) [] σ' H' s' → (∀ b ∈ fp, H' b = none) → ∀ b ∈ fp, FpOk (blkE X s3 H3 scope ce fp xe) [] H' b := fun I' hn b hb =>
    ⟨hn b hb, (I'.ok.exf b hb).1, I'.ok.exfs b hb, .inl hb, fun x c e => (I'.ok.exf b hb).2 x c e, fun p hp => absurd (show p ∈ ([] : List (Addr × Obj)) ++ [] from hp) (by simp)⟩
  have loop : codeAny (model X.prog X.w) X.A (.compLoop (.ListComp elt [⟨tg, iter, ifs, 0⟩] scope pos) 0 (.ref it) (.ref D) ce) (compEnds (model X.prog X.w) X.A X.xe use Qf (.ref D) ce) s4 := by
    refine compLoop_any (fun n s' => ∃ i H', Inv (blkE X s3 H3 scope ce fp xe) [] (wipe σ (own.map (·.2))) H' s' ∧ tn i s'.heap ∧ (∀ b ∈ fp, H' b = none) ∧ W i n H') ?_ m0 ⟨0, H3, I4, st4, nfp, w0⟩
    rintro n s5 ⟨i, H5, I5, st5, n5, w5⟩
    have er : (notedBy (model X.prog X.w) X.A ce fun e s' => compEnds (model X.prog X.w) X.A X.xe use Qf (.ref D) ce (.error e) s') = xe := by
      rw [hxe]
      first
        | rfl
        | (congr 1; funext e s'; cases use <;> rfl)
    rw [er]
    rcases turn i n H5 w5 with ⟨stop, qq⟩ | ⟨go, Nx, hNx, step⟩
    · have td := T.done (blkE X s3 H3 scope ce fp xe) rfl rfl rfl hc i [] s5 _ H5 (fun _ _ => False) I5 (stat I5 n5) st5 stop
      refine thnE td fun r s6 ⟨hr, I6⟩ => ?_
      subst hr
      have I7 : Inv X pins σ H5 s6 := I3.call' (ch := fp) I6.os I6.base I6.hok I6.bare fun b hb => ⟨(f3 b hb).1.2.2.2.1, (f3 b hb).1.2.1, (f3 b hb).1.2.2.2.2.1, (f3 b hb).1.2.2.2.2.2⟩
      have nC : H5 s3.heap.objs.size = none := by
        have z : H5 ce.locals = none := I6.free
        rw [cL] at z
        exact z
      obtain ⟨m, hn, _⟩ := I6.loc
      have hn : s6.heap.Ns ce.locals m := hn
      rw [cL] at hn
      exact hRR D s3.heap.objs.size s6 m H5 ce cL I7 qq hn (I3.fpOk (Nat.le_refl _) nC)
    · have ti := T.item (blkE X s3 H3 scope ce fp xe) rfl rfl rfl hc i [] s5 _ H5 (fun _ _ => False) I5 (stat I5 n5) st5 go
      refine thnE ti fun r s6 ⟨u, hr, h6⟩ => ?_
      subst hr
      refine thnE h6 fun _ s7 ⟨x, H7, I7, r7, y7, st7, n7⟩ => ?_
      have I7' := I7.pinned (stat I7 n7) (T.obj _ _ st7)
      refine thn (pg.run _ s7 _ H7 x u _ I7' r7 (step x H7 y7)) fun _ s8 ⟨σ8, H8, I8, hw8, q8⟩ => ?_
      refine thn (pt.run _ s8 σ8 H8 _ I8 q8) fun b s9 ⟨H9, I9, q9⟩ => ?_
      have fin : ∀ {s' : Shared} {H' : Hp}, Inv (blkE X s3 H3 scope ce fp xe) ([] ++ pinsAt fp s7.heap) σ8 H' s' → Nx H' → ∃ m, m < n ∧ ∃ i H', Inv (blkE X s3 H3 scope ce fp xe) [] (wipe σ (own.map (·.2))) H' s' ∧ tn i s'.heap ∧ (∀ b ∈ fp, H' b = none) ∧ W i m H' := fun {s' H'} I' nx => by
        obtain ⟨m', hm, w'⟩ := hNx H' nx
        have pin' : ∀ b ∈ fp, ∀ o, s7.heap.get? b = some o → s'.heap.get? b = some o ∧ H' b = none := fun b hb o e =>
          let z := I'.pin (b, o) (List.mem_append_right _ (List.mem_append_right _ (mem_pinsAt hb e)))
          ⟨z.1, z.2.1⟩
        have hl : (wipe σ (own.map (·.2))).length = σ8.length := by rw [← hw8, wipe_length]
        refine ⟨m', hm, i + 1, H', (I'.unpinned (pins := [])).weak hl (fun j v e => ?_), T.keep _ _ _ st7 fun b hb o e => (pin' b hb o e).1, fun b hb => ?_, w'⟩
        · rw [← hw8] at e
          exact (wipe_some e).1
        · obtain ⟨o, e, _⟩ := T.obj _ _ st7 b hb
          exact (pin' b hb o e).2
      cases b with
      | false =>
        simp only [Bool.false_eq_true, if_false] at q9 ⊢
        exact fin I9 q9
      | true =>
        simp only [if_true] at q9 ⊢
        refine thn (pe.run _ s9 σ8 H9 _ I9 q9) fun z s10 ⟨yv, H10, I10, r10, acc, hD10, hz10, nx⟩ => ?_
        exact app_ok (X := blkE X s3 H3 scope ce fp xe) I10 hD10 hz10 r10 fun s11 I11 => fin I11 nx
  exact codeAny_compStart_list loop (T.self X.A 0 _ _ _ st4 loop)
end
end TL
namespace TL
open PySem PySem.Spec PyProof.Rows L2
/-! ## a hidden list -/
def hidD (w : Wd) (D : Addr) : Wd := whd w fun a => w.hid a ∨ a = D
section
variable {w : Wd} {H H1 Hi Hj : Hp} {ρ ρ1 ρi ρj : List Addr} {M M1 Mi Mj : Sto} {D : Addr} {o : HO}
theorem lv_hid {a : Addr} (h : Lv (hidD w D) ρ M a) : Lv w ρ M a ∨ a = D := by
  rcases h with (h | h) | h
  · exact .inl (.inl h)
  · exact .inr h
  · exact .inl (.inr h)
theorem lv_unhid {a : Addr} (h : Lv w ρ M a) : Lv (hidD w D) ρ M a := h.elim (fun h => .inl (.inl h)) .inr
theorem ext_hide (m : RepM w H ρ M) (hD : H D = none) : Ext w H ρ (Lv w ρ M) (upd H D o) ρ (Lv (hidD w D) ρ M) where
  fr := (Ext.fresh (ρ := ρ) (L := Lv w ρ M) m.hh hD rfl).fr
  has := (Ext.fresh (ρ := ρ) (L := Lv w ρ M) m.hh hD rfl).has
  ix := fun _ _ h => h
  lv := fun a h => (lv_hid h).imp id fun e => by rw [e]; exact hD
  hid := (Ext.fresh (ρ := ρ) (L := Lv w ρ M) m.hh hD rfl).hid
theorem RepM.hide (m : RepM w H ρ M) (hD : H D = none) (ho : isMu (some o)) : RepM (hidD w D) (upd H D o) ρ M where
  hk := fun a h => by
    rcases h with h | h
    · rw [upd_ne fun e => (m.hid a h).2 (by rw [e]; exact hD)]; exact m.hk a h
    · subst h; rw [upd_same]; exact ho
  tabs := Tabs.upd m.tabs (.inl hD)
  len := m.len
  nd := m.nd
  has := fun a h => (ext_hide (o := o) m hD).has a (m.has a h)
  hid := fun a h => by
    rcases h with h | h
    · exact ⟨(m.hid a h).1, (ext_hide (o := o) m hD).has a (m.hid a h).2⟩
    · subst h; exact ⟨m.notIn hD, by rw [upd_same]; simp⟩
  obj := fun i a d h1 h2 h3 => (m.obj i a d h1 h2 h3).ext (upd_ne (a := D) (b := a) (fun e => m.notIn hD (by rw [← e]; exact List.mem_of_getElem? h1))).symm (ext_hide (o := o) m hD)
theorem RepM.unhide (m : RepM (hidD w D) H ρ M) : RepM w H ρ M where
  len := m.len
  nd := m.nd
  has := m.has
  hid := fun a h => m.hid a (.inl h)
  hk := fun a h => m.hk a (.inl h)
  tabs := m.tabs
  obj := fun i a d h1 h2 h3 => (m.obj i a d h1 h2 h3).ext rfl (Ext.same (w := w) (ρ := ρ) fun _ h => lv_unhid h)
theorem RepM.hidIn (m : RepM (hidD w D) H ρ M) : D ∉ ρ ∧ H D ≠ none := m.hid D (.inr rfl)
theorem Ext.unhide (hD : H1 D = none) (a : Exs w H1 ρ1 M1 Hi ρi Mi) (b : Exs (hidD w D) Hi ρi Mi Hj ρj Mj) : Exs w H1 ρ1 M1 Hj ρj Mj where
  fr := fun x u h n t => b.fr x u (a.fr x u h n t) (fun q => by
    rcases lv_hid q with q | q
    · exact (a.lv x q).elim n fun z => by rw [h] at z; cases z
    · subst q; rw [hD] at h; cases h) t
  has := fun x h => b.has x (a.has x h)
  ix := fun i x h => b.ix i x (a.ix i x h)
  lv := fun x h => by
    rcases b.lv x (lv_unhid h) with q | q
    · rcases lv_hid q with q | q
      · exact a.lv x q
      · exact .inr (by rw [q]; exact hD)
    · refine .inr ?_
      cases z : H1 x with
      | none => rfl
      | some u => exact absurd q (a.has x (by rw [z]; simp))
  hid := fun x h => (b.hid x (.inl h)).trans (a.hid x h)
/-- the hidden list grows -/
theorem ext_grow (m : RepM (hidD w D) H ρ M) (nw : ¬ w.hid D) : Ext w H ρ (Lv (hidD w D) ρ M) (upd H D o) ρ (Lv (hidD w D) ρ M) where
  fr := fun a u h n _ => by rw [upd_ne (a := D) (b := a) (fun e => n (.inl (.inr e)))]; exact h
  has := fun a h => by
    by_cases e : a = D
    · subst e; rw [upd_same]; simp
    · rw [upd_ne e]; exact h
  ix := fun _ _ h => h
  lv := fun _ h => .inl h
  hid := fun a h => upd_ne fun e => nw (by rw [← e]; exact h)
theorem RepM.grow (m : RepM (hidD w D) H ρ M) (nw : ¬ w.hid D) (ho : isMu (some o)) : RepM (hidD w D) (upd H D o) ρ M where
  hk := fun a h => by
    rcases h with h | h
    · rw [upd_ne fun e => nw (by rw [← e]; exact h)]; exact m.hk a (.inl h)
    · subst h; rw [upd_same]; exact ho
  tabs := Tabs.upd m.tabs (.inr (m.hk D (.inr rfl)))
  len := m.len
  nd := m.nd
  has := fun a h => (ext_grow (o := o) m nw).has a (m.has a h)
  hid := fun a h => ⟨(m.hid a h).1, (ext_grow (o := o) m nw).has a (m.hid a h).2⟩
  obj := fun i a d h1 h2 h3 => (m.obj i a d h1 h2 h3).ext (upd_ne (a := D) (b := a) (fun e => m.hidIn.1 (by rw [← e]; exact List.mem_of_getElem? h1))).symm (ext_grow (o := o) m nw)
theorem Ext.grow (hD : H1 D = none) (nw : ¬ w.hid D) (a : Exs w H1 ρ1 M1 Hi ρi Mi) : Exs w H1 ρ1 M1 (upd Hi D o) ρi Mi where
  fr := fun x u h n t => by rw [upd_ne (ne_of_none h hD)]; exact a.fr x u h n t
  has := fun x h => by
    by_cases e : x = D
    · subst e; rw [upd_same]; simp
    · rw [upd_ne e]; exact a.has x h
  ix := a.ix
  lv := a.lv
  hid := fun x h => by rw [upd_ne (a := D) (b := x) fun e => nw (by rw [← e]; exact h)]; exact a.hid x h
/-- the hidden list is an object of the store -/
theorem lv_adopt' {d : TL.D} {a : Addr} (hl : ρ.length = M.length) (h : Lv w (ρ ++ [D]) (M ++ [d]) a) : Lv (hidD w D) ρ M a := by
  rcases h with h | ⟨i, x, h1, h2, h3⟩
  · exact .inl (.inl h)
  · by_cases hi : i < ρ.length
    · rw [List.getElem?_append_left hi] at h1
      rw [List.getElem?_append_left (hl ▸ hi)] at h2
      exact .inr ⟨i, x, h1, h2, h3⟩
    · rw [List.getElem?_append_right (Nat.le_of_not_lt hi)] at h1
      cases q : i - ρ.length with
      | zero => rw [q] at h1; exact .inl (.inr (by simpa using h1.symm))
      | succ n => rw [q] at h1; simp at h1
theorem ext_adopt {d : TL.D} (m : RepM (hidD w D) H ρ M) : Ext w H ρ (Lv (hidD w D) ρ M) H (ρ ++ [D]) (Lv w (ρ ++ [D]) (M ++ [d])) where
  fr := fun a u h _ _ => h
  has := fun _ h => h
  ix := fun i a h => by rw [List.getElem?_append_left (List.getElem?_eq_some_iff.mp h).1]; exact h
  lv := fun a h => .inl (lv_adopt' m.len h)
  hid := fun _ _ => rfl
theorem RepM.adopt {d : TL.D} (m : RepM (hidD w D) H ρ M) (nw : ¬ w.hid D) (hc : RepC w.toWc H (ρ ++ [D]) (Lv w (ρ ++ [D]) (M ++ [d])) D d) : RepM w H (ρ ++ [D]) (M ++ [d]) where
  len := by simp [m.len]
  nd := by
    rw [List.nodup_append]
    exact ⟨m.nd, by simp, fun x hx y hy e => by simp at hy; subst hy; subst e; exact m.hidIn.1 hx⟩
  has := fun a h => by
    rcases List.mem_append.mp h with h | h
    · exact m.has a h
    · simp at h; subst h; exact m.hidIn.2
  hid := fun a h => ⟨fun z => by
    rcases List.mem_append.mp z with z | z
    · exact (m.hid a (.inl h)).1 z
    · simp at z; subst z; exact nw h, (m.hid a (.inl h)).2⟩
  hk := fun a h => m.hk a (.inl h)
  tabs := m.tabs
  obj := fun i a x h1 h2 h3 => by
    by_cases hi : i < ρ.length
    · rw [List.getElem?_append_left hi] at h1
      rw [List.getElem?_append_left (m.len ▸ hi)] at h2
      exact (m.obj i a x h1 h2 h3).ext rfl (ext_adopt m)
    · rw [List.getElem?_append_right (Nat.le_of_not_lt hi)] at h1
      rw [List.getElem?_append_right (m.len ▸ Nat.le_of_not_lt hi)] at h2
      cases q : i - ρ.length with
      | zero =>
        rw [q] at h1
        rw [← m.len, q] at h2
        obtain rfl : D = a := by simpa using h1
        obtain rfl : d = x := by simpa using h2
        exact hc
      | succ n => rw [q] at h1; simp at h1
theorem Ext.adopt {d : TL.D} (hD : H1 D = none) (m : RepM (hidD w D) Hi ρi Mi) (a : Exs w H1 ρ1 M1 Hi ρi Mi) : Exs w H1 ρ1 M1 Hi (ρi ++ [D]) (Mi ++ [d]) where
  fr := a.fr
  has := a.has
  ix := fun i x h => by
    have := a.ix i x h
    rw [List.getElem?_append_left (List.getElem?_eq_some_iff.mp this).1]; exact this
  lv := fun x h => by
    rcases lv_hid (lv_adopt' m.len h) with q | q
    · exact a.lv x q
    · exact .inr (by rw [q]; exact hD)
  hid := a.hid
end
/-! ## list comprehensions -/
def wipeD (σ : Std) : List Nat → Std
  | [] => σ
  | v :: vs => (wipeD σ vs).set v none
theorem wipe_wipe {σv : L2.St} : ∀ {vs : List Nat}, wipe (wipe σv vs) vs = wipe σv vs := fun {vs} => by
  have : ∀ (l : List Nat), (∀ i ∈ l, i ∈ vs) → wipe (wipe σv l) vs = wipe σv vs := by
    intro l
    induction l with
    | nil => intro _; rfl
    | cons v l ih =>
      intro h
      show wipe ((wipe σv l).set v none) vs = _
      rw [wipe_set (h v (by simp)), ih fun i hi => h i (by simp [hi])]
  exact this vs fun _ h => h
theorem RepS.wipe {w : Wd} {H : Hp} {ρ : List Addr} {L : Addr → Prop} {σ : Std} {σv : L2.St} (s : RepS w.toWc H ρ L σ σv) : ∀ (vs : List Nat), RepS w.toWc H ρ L (wipeD σ vs) (L2.wipe σv vs)
  | [] => s
  | v :: vs => by
    have ih := RepS.wipe s vs
    refine ⟨by show ((wipeD σ vs).set v none).length = ((L2.wipe σv vs).set v none).length; simp [ih.len], fun i d e => ?_⟩
    have e : ((wipeD σ vs).set v none)[i]? = some (some d) := e
    show ∃ x, ((L2.wipe σv vs).set v none)[i]? = some (some x) ∧ _
    by_cases hi : i = v
    · subst hi
      by_cases hl : i < (wipeD σ vs).length
      · rw [List.getElem?_set_self hl] at e; cases e
      · rw [List.getElem?_eq_none (by simpa using hl)] at e; cases e
    · rw [List.getElem?_set_ne (Ne.symm hi)] at e ⊢
      exact ih.at_ i d e
def wLc (g : TGD) (tt te : TED) (σw : Std) (x : XD) (stab : Sto → Prop) (k : List D → Sto → Prop) : List D → List D → Sto → Prop
  | [], acc, M => stab M ∧ k acc M
  | d :: ds, acc, M => stab M ∧ g d σw M (fun σ1 M1 => tt σ1 M1 (fun b M2 => ∃ kb, b = .bl kb ∧
      if kb = true then te σ1 M2 (fun y M3 => acc.length < sizeLine ∧ wLc g tt te σw x stab k ds (acc ++ [y]) M3) x else wLc g tt te σw x stab k ds acc M2) x) x
def mkL (mu : Bool) (q : QD) (acc : List D) (M : Sto) : Prop := if mu = true then q (.obj M.length) (M ++ [.lst acc]) else q (.lst acc) M
def dLc (mu : Bool) (own : List Nat) (t : TID) (g : TGD) (tt te : TED) : TED := fun σ M q x => t σ M (fun items stab M1 => wLc g tt te (wipeD σ own) (fun c ds _ M => x c ds σ M) stab (mkL mu q) items [] M1) x
structure DTs (w : Wd) (X : Cx) (ifs : List Expr) (t : TED) : Prop where
  run : ∀ Wv, Tk X Wv → PTs X ifs (lT w Wv (tst t))
theorem _root_.L2.PTs.imp {X : Cx} {e : List Expr} {t t' : TT} (h : PTs X e t) (i : ∀ σ H Q, t' σ H Q → t σ H Q) : PTs X e t' := ⟨fun pins s σ H Q I q => h.run pins s σ H Q I (i _ _ _ q)⟩
theorem dts_nil {w : Wd} {X : Cx} : DTs w X [] (dC (.bl true)) := ⟨fun Wv tk => pts_nil.imp fun σv H Q ⟨σ, ρ, M, q, x, a, hq, k, _⟩ => by
  obtain ⟨b, e, h⟩ := hq
  cases e
  exact k _ _ _ _ .refl a.m h⟩
theorem dts_one {w : Wd} {X : Cx} {c : Expr} {t : TED} (h : DT w X c (tst t)) : DTs w X [c] t := ⟨fun Wv tk => pts_one (h.run Wv tk)⟩
section
variable {w : Wd} {X : Cx} {elt tg iter : Expr} {ifs : List Expr} {scope : Scope} {own : List (Str × Nat)} {pos : Pos} {t : TID} {g : TGD} {tt te : TED} {og : List Nat}
theorem lcD {Wv : WX} {σ : Std} {σv : L2.St} {H1 : Hp} {ρ1 : List Addr} {M1 : Sto} {J : It} {items : List D} {stab : Sto → Prop} {x : XD} {k : List D → Sto → Prop} {Qd : Hp → Prop} {vs : List Nat} {D : Addr}
    (hog : ∀ i ∈ og, i ∈ vs) (S : Src w J H1 ρ1 M1 items stab) (a1 : At w H1 ρ1 M1 σ σv) (h : wLc g tt te (wipeD σ vs) (fun c ds _ M => x c ds σ M) stab k items [] M1) (kx : XOk w H1 ρ1 M1 x Wv) (hD : H1 D = none)
    (fin : ∀ H' ρ' M' acc us, Exs w H1 ρ1 M1 H' ρ' M' → RepM (hidD w D) H' ρ' M' → H' D = some (.lst us) → RepL w.toWc H' ρ' (Lv (hidD w D) ρ' M') acc us → k acc M' → Qd H') :
    ∃ W : Nat → Nat → Hp → Prop, (∃ m, W 0 m (upd H1 D (.lst []))) ∧ ∀ i m H, W i m H → (J.stop i H ∧ Qd H) ∨ (J.go i H ∧ ∃ Nx : Hp → Prop, (∀ H', Nx H' → ∃ m', m' < m ∧ W (i + 1) m' H') ∧
      ∀ v H', J.yld i H v H' → (∃ hd, lG (whd w hd) (fun cl d _ H' => Wv cl d σv H') og g v (wipe σv vs) H' fun σ2 H2 => wipe σ2 vs = wipe σv vs ∧ (∃ hd, lT (whd w hd) (fun cl d _ H' => Wv cl d σv H') (tst tt) σ2 H2 fun b H3 =>
        if b = true then ∃ hd, lE (whd w hd) (fun cl d _ H' => Wv cl d σv H') te σ2 H3 fun y H4 => ∃ acc, H4 D = some (.lst acc) ∧ acc.length < sizeLine ∧ Nx (upd H4 D (.lst (acc ++ [y]))) else Nx H3))) := by
  have nw : ¬ w.hid D := fun h => (a1.m.hid D h).2 hD
  -- the state at turn i
  let V : Nat → Hp → Prop := fun i H => ∃ acc ρ M us, Exs w H1 ρ1 M1 H ρ M ∧ RepM (hidD w D) H ρ M ∧ H D = some (.lst us) ∧ RepL w.toWc H ρ (Lv (hidD w D) ρ M) acc us ∧ wLc g tt te (wipeD σ vs) (fun c ds _ M => x c ds σ M) stab k (items.drop i) acc M
  refine ⟨fun i m H => m = items.length - i ∧ i ≤ items.length ∧ V i H, ⟨items.length, by simp, Nat.zero_le _, [], ρ1, M1, [], Ext.grow hD nw .refl, a1.m.hide hD trivial, upd_same, .nil, h⟩, ?_⟩
  rintro i m H ⟨rfl, hi, acc, ρ, M, us, e, mm, hDu, ra, hq⟩
  have cc : ∀ a, (hidD w D).hid a → w.hid a ∨ H1 a = none := fun a h => h.imp id fun z => by rw [z]; exact hD
  by_cases hlt : i < items.length
  · have hdr : items.drop i = items[i] :: items.drop (i + 1) := List.drop_eq_getElem_cons hlt
    rw [hdr] at hq
    obtain ⟨st, hq⟩ := hq
    refine .inr ⟨S.go _ i H ρ M cc e mm st hlt, V (i + 1), fun H' q => ⟨items.length - (i + 1), by omega, rfl, hlt, q⟩, fun v H' y => ?_⟩
    obtain ⟨d, hd, e3, m3, r3⟩ := S.yld _ i H ρ M v H' cc e mm st y hlt
    rw [List.getElem?_eq_getElem hlt] at hd
    obtain rfl : items[i] = d := Option.some.inj hd
    have e3 : Exs (hidD w D) H ρ M H' ρ M := e3
    have hDu' : H' D = some (.lst us) := (e3.hid D (.inr rfl)).trans hDu
    have ee := e.unhide hD e3
    have kxb : ∀ {Hj : Hp} {ρj : List Addr} {Mj : Sto}, Exs w H1 ρ1 M1 Hj ρj Mj → XOk (hidD w D) Hj ρj Mj (fun c ds _ M => x c ds σ M) fun cl d _ H' => Wv cl d σv H' := fun ej H5 ρ5 M5 c ds cl dd σ5 σv5 e5 a5 r5 h5 => by
      obtain ⟨r1, us5, r2, r3, r4⟩ := r5
      exact kx _ _ _ _ _ _ _ _ _ (ej.unhide hD e5) (a1.ext a5.m.unhide (ej.unhide hD e5)) ⟨r1, us5, r2, r3.imp id fun ⟨q1, q2, q3, q4⟩ => ⟨q1, q2, fun z => q3 (lv_unhid z), q4⟩, r4.ext (Ext.same (w := w) fun _ z => lv_unhid z)⟩ h5
    refine ⟨(hidD w D).hid, items[i], wipeD σ vs, ρ, M, _, _, ⟨m3, ?_⟩, ?_, hq, fun H4 ρ4 M4 σ4 σv4 e4 a4 h4 o4 => ⟨(o4 vs hog).trans wipe_wipe, ?_⟩, kxb ee⟩
    · have := a1.s.wipe vs
      exact this.ext (ee.whd cc)
    · exact r3
    · have e4 : Exs (hidD w D) H' ρ M H4 ρ4 M4 := e4
      have ee4 := ee.unhide hD e4
      refine ⟨(hidD w D).hid, σ4, ρ4, M4, (fun b M2 => if b = true then te σ4 M2 (fun y M3 => acc.length < sizeLine ∧ wLc g tt te (wipeD σ vs) (fun c ds _ M => x c ds σ M) stab k (items.drop (i + 1)) (acc ++ [y]) M3) (fun c ds _ M => x c ds σ M)
          else wLc g tt te (wipeD σ vs) (fun c ds _ M => x c ds σ M) stab k (items.drop (i + 1)) acc M2), (fun c ds _ M => x c ds σ M), a4, h4, fun H5 ρ5 M5 b e5 m5 h5 => ?_, kxb ee4⟩
      · have e5 : Exs (hidD w D) H4 ρ4 M4 H5 ρ5 M5 := e5
        have ee5 := ee4.unhide hD e5
        have e35 := (e3.trans e4).trans e5
        have hDu5 : H5 D = some (.lst us) := (e35.hid D (.inr rfl)).trans hDu
        cases b with
        | false =>
          exact ⟨acc, ρ5, M5, us, ee5, m5, hDu5, ra.ext e35, h5⟩
        | true =>
          refine ⟨(hidD w D).hid, σ4, ρ5, M5, _, _, a4.ext m5 e5, h5, fun H6 ρ6 M6 y yv e6 m6 r6 ⟨hz, h6⟩ => ?_, kxb ee5⟩
          have e6 : Exs (hidD w D) H5 ρ5 M5 H6 ρ6 M6 := e6
          have ee6 := ee5.unhide hD e6
          have e36 := e35.trans e6
          have hDu6 : H6 D = some (.lst us) := (e36.hid D (.inr rfl)).trans hDu
          refine ⟨us, hDu6, by rw [← ra.length]; exact hz, ?_⟩
          have eg := ext_grow (o := .lst (us ++ [yv])) m6 nw
          exact ⟨acc ++ [y], ρ6, M6, us ++ [yv], ee6.grow hD nw, m6.grow nw trivial, upd_same, (((ra.ext e36).ext eg).snoc (r6.ext eg)), h6⟩
  · have ei : i = items.length := by omega
    subst ei
    rw [List.drop_length] at hq
    exact .inl ⟨S.stop _ _ H ρ M cc e mm hq.1 (Nat.le_refl _), fin H ρ M acc us e mm hDu ra hq.2⟩
theorem pg_ex {X : Cx} {e : Expr} {α : Type} {t : α → TG} (h : ∀ a, PG X e (t a)) : PG X e (fun v σ H Q => ∃ a, t a v σ H Q) := ⟨fun pins s σ H v u Q I r ⟨a, q⟩ => (h a).run pins s σ H v u Q I r q⟩
theorem pts_ex {X : Cx} {e : List Expr} {α : Type} {t : α → TT} (h : ∀ a, PTs X e (t a)) : PTs X e (fun σ H Q => ∃ a, t a σ H Q) := ⟨fun pins s σ H Q I ⟨a, q⟩ => (h a).run pins s σ H Q I q⟩
theorem pe_ex {X : Cx} {e : Expr} {α : Type} {t : α → TE} (h : ∀ a, PE X e (t a)) : PE X e (fun σ H Q => ∃ a, t a σ H Q) := ⟨fun pins s σ H Q I ⟨a, q⟩ => (h a).run pins s σ H Q I q⟩
/-- what a comprehension's list is, at its end -/
theorem mkL_fin {mu : Bool} {q : QD} {Q : VK} {H1 H' : Hp} {ρ1 ρ' : List Addr} {M1 M' : Sto} {D : Addr} {acc : List TL.D} {us : List V} (m1 : RepM w H1 ρ1 M1) (hD : H1 D = none) (k : QOk w H1 ρ1 M1 q Q) (e : Exs w H1 ρ1 M1 H' ρ' M') (m : RepM (hidD w D) H' ρ' M')
    (hDu : H' D = some (.lst us)) (ra : RepL w.toWc H' ρ' (Lv (hidD w D) ρ' M') acc us) (h : mkL mu q acc M') : Q (.ref D) H' := by
  have nw : ¬ w.hid D := fun h => (m1.hid D h).2 hD
  unfold mkL at h
  cases mu with
  | true =>
    rw [if_pos rfl] at h
    refine k _ _ _ _ _ (e.adopt (d := .lst acc) hD m) (m.adopt nw ⟨us, hDu, ra.ext (ext_adopt m)⟩) (.obj ?_) h
    rw [← m.len, List.getElem?_append_right (Nat.le_refl _)]
    simp
  | false =>
    rw [if_neg (by simp)] at h
    refine k _ _ _ _ _ e m.unhide (.lst (.inl ⟨hDu, fun z => ?_⟩) (ra.ext (Ext.same (w := w) fun _ z => lv_unhid z))) h
    rcases z with z | z
    · exact nw z
    · exact m.hidIn.1 (Lo.mem z)
variable (mu : Bool)
theorem lc_all {pins : List (Addr × Obj)} {s : Shared} {σv : L2.St} {H : Hp} {Q : VK} {Wv : WX} {pos' : Pos} {use : Option (Value → Sem Unit)} {Qf : Value → Shared → Prop} (hc : X.calm = true) (hN : X.N.Nodup) (fo : FrOk X) (hi : DI w X tg iter t) (ok : BlkOk X.N X.env.scope scope own) (hog : ∀ i ∈ og, i ∈ own.map (·.2))
    (hb : ∀ (hd : Addr → Prop) (s : Shared) (H : Hp) (C : Addr) (cl : List (Str × Addr)) (fp : List Addr) (E : Value → Shared → Prop), DG (whd w hd) (blkE X s H scope (compEnvC scope cl C X.env) fp E) tg og g ∧
      DTs (whd w hd) (blkE X s H scope (compEnvC scope cl C X.env) fp E) ifs tt ∧ DE (whd w hd) (blkE X s H scope (compEnvC scope cl C X.env) fp E) elt te)
    (hs : ∀ x, foldedSetIterable iter X.env x = pure x) (tk : Tk X Wv) (I : Inv X pins σv H s) (h : lE w Wv (dLc mu (own.map (·.2)) t g tt te) σv H Q)
    (hRR : ∀ D C s' m H' (ce : Env), ce.locals = C → Inv X pins σv H' s' → Q (.ref D) H' → s'.heap.Ns C m → FpOk X pins H' C → compEnds (model X.prog X.w) X.A X.xe use Qf (.ref D) ce (.ok .next) s') :
    wpAny (model X.prog X.w) X.A (comprehension (.ListComp elt [⟨tg, iter, ifs, 0⟩] scope pos) scope X.env pos' (newList []) false (eval iter X.env) use) Qf X.xe s := by
  obtain ⟨σ, ρ, M, q, x, a, hq, k, kx⟩ := h
  refine lcX (Wv := Wv) (own := own) (wi := lI w Wv t) (g := fun v σ' H' Q' => ∃ hd, lG (whd w hd) (fun cl d _ H' => Wv cl d σv H') og g v σ' H' Q') (tt := fun σ' H' Q' => ∃ hd, lT (whd w hd) (fun cl d _ H' => Wv cl d σv H') (tst tt) σ' H' Q')
    (te := fun σ' H' Q' => ∃ hd, lE (whd w hd) (fun cl d _ H' => Wv cl d σv H') te σ' H' Q') hc hN fo tk I (hi.run Wv tk) ok (fun s H C cl fp E tkb => ?_) hs ?_ hRR
  · exact ⟨pg_ex fun hd => (hb hd s H C cl fp E).1.run _ tkb, pts_ex fun hd => (hb hd s H C cl fp E).2.1.run _ tkb, pe_ex fun hd => (hb hd s H C cl fp E).2.2.run _ tkb⟩
  · refine ⟨σ, ρ, M, _, x, a, hq, fun H1 ρ1 M1 J items stab e1 m1 S h1 D hD => ?_, kx⟩
    exact lcD (Qd := fun H' => Q (.ref D) H') hog S (a.ext m1 e1) h1 (kx.ext e1) hD fun H' ρ' M' acc us e m hDu ra hk => mkL_fin m1 hD (k.ext e1) e m hDu ra hk
theorem de_lc (hc : X.calm = true) (hN : X.N.Nodup) (fo : FrOk X) (hi : DI w X tg iter t) (ok : BlkOk X.N X.env.scope scope own) (hog : ∀ i ∈ og, i ∈ own.map (·.2))
    (hb : ∀ (hd : Addr → Prop) (s : Shared) (H : Hp) (C : Addr) (cl : List (Str × Addr)) (fp : List Addr) (E : Value → Shared → Prop), DG (whd w hd) (blkE X s H scope (compEnvC scope cl C X.env) fp E) tg og g ∧
      DTs (whd w hd) (blkE X s H scope (compEnvC scope cl C X.env) fp E) ifs tt ∧ DE (whd w hd) (blkE X s H scope (compEnvC scope cl C X.env) fp E) elt te)
    (hs : ∀ x, foldedSetIterable iter X.env x = pure x) : DE w X (.ListComp elt [⟨tg, iter, ifs, 0⟩] scope pos) (dLc mu (own.map (·.2)) t g tt te) :=
  ⟨fun Wv tk => ⟨fun pins s σv H Q I h => by
    rw [eval_ListComp]
    refine lc_all mu hc hN fo hi ok hog hb hs tk I h fun D C s' m H' ce hce I' q hn f => ⟨m, by rw [hce]; exact hn, fun h'' sb => ?_⟩
    rw [hce] at sb
    obtain ⟨f0, f1, f2, f3, f4, f5⟩ := f
    exact ⟨.ref D, H', I'.turned (t' := s'.toks) (fun b o hb e => (sb.2 b hb).trans e) f0 f1 f3 f4 f5, rfl, q⟩⟩⟩
/-- y = [..], y a plain local on the same line -/
theorem ds_setLc {i : Nat} {y : Str} {py spos : Pos} (hc : X.calm = true) (hN : X.N.Nodup) (fo : FrOk X) (hy : X.N[i]? = some y) (hyl : X.env.scope.names.lookup y = some .local)
    (hsw : swapsWith (.ListComp elt [⟨tg, iter, ifs, 0⟩] scope pos) (some (.Name y py)) spos.line X.env = pure true) (hi : DI w X tg iter t) (ok : BlkOk X.N X.env.scope scope own) (hog : ∀ i ∈ og, i ∈ own.map (·.2))
    (hb : ∀ (hd : Addr → Prop) (s : Shared) (H : Hp) (C : Addr) (cl : List (Str × Addr)) (fp : List Addr) (E : Value → Shared → Prop), DG (whd w hd) (blkE X s H scope (compEnvC scope cl C X.env) fp E) tg og g ∧
      DTs (whd w hd) (blkE X s H scope (compEnvC scope cl C X.env) fp E) ifs tt ∧ DE (whd w hd) (blkE X s H scope (compEnvC scope cl C X.env) fp E) elt te)
    (hs : ∀ x, foldedSetIterable iter X.env x = pure x) : DS w X (.Assign [.Name y py] (.ListComp elt [⟨tg, iter, ifs, 0⟩] scope pos) spos) (dAsg (dLc mu (own.map (·.2)) t g tt te) (dgName i)) :=
  ⟨fun Wv tk => ⟨fun pins s σv H De I h => by
    rw [exec_Assign_Name_used _ _ _ _ hsw]
    refine wpAny_bind (wpAny_standAt (wpAny_bind ?_))
    show wpAny _ X.A (do let _ ← comprehension (.ListComp elt [⟨tg, iter, ifs, 0⟩] scope pos) scope X.env (firstIterPos [⟨tg, iter, ifs, 0⟩] pos) (newList []) false (eval iter X.env) (some (assign (.Name y py) X.env))) _ _ s
    have h' : lE w Wv (dLc mu (own.map (·.2)) t g tt te) σv H (fun v H1 => De.nx (σv.set i (some v)) H1) := by
      obtain ⟨σ, ρ, M, k, x, a, hq, e, kx⟩ := h
      exact ⟨σ, ρ, M, _, x, a, hq, fun H1 ρ1 M1 d v e1 m1 r1 h1 => e.nx _ _ _ _ _ e1 ⟨m1, (a.s.ext e1).set r1 i⟩ h1, kx⟩
    refine wpAny_bind (thn (lc_all (Qf := fun _ s' => SP X pins De .next s') mu hc hN fo hi ok hog hb hs tk I h' fun D C s' m H' ce hce I' q hn f => ?_) fun _ s' hq => wpAny_pure (wpAny_pure hq))
    show wpAny _ _ (assign (.Name y py) X.env (.ref D)) _ _ _
    refine wpAny_assign_Name (store_ok2 (v := V.ref D) I' hN hy (.inl hyl) rfl (fun s2 I2 ⟨a, sb, ha⟩ => ?_) (.inr hyl))
    obtain ⟨f0, f1, f2, f3, f4, f5⟩ := f
    have haC : C ≠ a := ha.elim (fun z => by rw [z]; exact f1) fun z e => f4 y a z e.symm
    refine ⟨m, by rw [hce]; exact hn.sameBut sb haC, fun h3 sb3 => ?_⟩
    rw [hce] at sb3
    exact ⟨_, H', I2.turned (t' := s2.toks) (fun b o hb e => (sb3.2 b hb).trans e) f0 f1 f3 f4 f5, q⟩⟩⟩
end
end TL
namespace TL
open PySem PySem.Spec PyProof.Rows L2
/-! ## own defs -/
/-- a promise: arguments, store, what follows, what an own error is wished -/
abbrev SpD := List D → Sto → QD → (Nat → List D → Sto → Prop) → Prop
def XCOk (w : Wd) (H : Hp) (ρ : List Addr) (M : Sto) (x : Nat → List D → Sto → Prop) (Ex : XK) : Prop := ∀ H' ρ' M' c ds cl dd, Exs w H ρ M H' ρ' M' → RepM w H' ρ' M' → RepX w H' ρ' (Lv w ρ' M') c ds cl dd → x c ds M' → Ex cl dd H'
/-- the lifted promise -/
def lF (c : Wc) (sp : SpD) : Sp := fun vs H Q Ex => ∃ hd ρ M ds q x, RepM ⟨c, hd⟩ H ρ M ∧ Rps ⟨c, hd⟩ H ρ M ds vs ∧ sp ds M q x ∧ QOk ⟨c, hd⟩ H ρ M q Q ∧ XCOk ⟨c, hd⟩ H ρ M x Ex
structure FnG (P : Program) (W : World) (c : Wc) (mg : Str → Option Value) (base : Heap) (k : Nat) (f : Addr) (fd : FuncData) (ps : List Str) (sp : SpD) : Prop where
  len : ∀ ds M q x, sp ds M q x → ds.length = ps.length
  run : ∀ (A : Around) (outer : List Env) (s : Shared) (H : Hp) (args : Args) (us : List Value) (vs : List V) (Q : VK) (Ex : XK), Room k A → A.guards = some [] → Env0 P W c.K mg base A outer s H → BindsTo s fd args (ps.zip us) → Vals vs us → lF c sp vs H Q Ex →
    codeAny (model P W) A (.call (.ref f) args) (CR (L2.CX P W) outer P W H s Q Ex) s
theorem FnG.mono {P : Program} {W : World} {c : Wc} {mg : Str → Option Value} {base : Heap} {k k' : Nat} {f : Addr} {fd : FuncData} {ps : List Str} {sp : SpD} (F : FnG P W c mg base k f fd ps sp) (h : k ≤ k') : FnG P W c mg base k' f fd ps sp :=
  ⟨F.len, fun A outer s H args us vs Q Ex hr => F.run A outer s H args us vs Q Ex (hr.mono h)⟩
/-- an exception of a callee is in our air -/
theorem XF.of_call {X : Cx} {pins : List (Addr × Obj)} {σ : L2.St} {H : Hp} {s s' : Shared} {W : WX} {E : XK} {Lf : Addr} (hf : X.env.frame = some Lf) (I : Inv X pins σ H s) (hW : ∀ cls d H', E cls d H' → W cls d σ H') {u : Value} (c : CX X.prog X.w X.stack H s E u s') : XF X W u s' := by
  obtain ⟨a, B, H', cls, d, rfl, fl, hok, ub, na, os, ag, hE⟩ := c
  obtain ⟨G, g1, g2⟩ := restrict s'.heap fun b => (B.get? b).isSome || decide (b ∈ frs X.stack)
  have st : B.StaysIn s'.heap := fl.1
  have inB : ∀ {b o}, B.get? b = some o → G.get? b = some o := fun {b o} e => (g1 b (by simp [e])).trans (st b o e)
  have inF : ∀ {b}, b ∈ frs X.stack → G.get? b = s'.heap.get? b := fun {b} hb => g1 b (by simp [hb])
  have out : ∀ {b o}, G.get? b = some o → s'.heap.get? b = some o ∧ ((B.get? b).isSome = true ∨ b ∈ frs X.stack) := fun {b o} e => by
    by_cases q : ((B.get? b).isSome || decide (b ∈ frs X.stack)) = true
    · exact ⟨(g1 b q).symm.trans e, by simpa [Bool.or_eq_true] using q⟩
    · rw [g2 b (by simpa using q)] at e; cases e
  refine ⟨Lf, a, B, { s with heap := G, gens := s'.gens, drawn := s'.drawn, toks := s'.toks }, pins, σ, H', cls, d, hf, rfl, ?_, fun b o e hb => ?_, Heap.UpToSlots.of_keeps fun b o e => (out e).1, .inr (.inl fl), na, os, ag, hW _ _ _ hE⟩
  · refine I.call (ch := []) ⟨fun b o e n hb _ => inB (ub.keep b o e n hb), fun b o e n hb _ => ?_, fun b o e n _ => ub.free b o e n, fun b o e _ => ?_, ub.tups, ub.frzs, ub.tbls⟩ (hok.kept fun b o => inB) ag (fun _ z => nomatch z)
    · obtain ⟨sl, q⟩ := ub.slot b o e hb
      exact ⟨sl, (inF hb).trans q⟩
    · by_cases hb : b ∈ frs X.stack
      · obtain ⟨sl, q⟩ := ub.slot b o e hb
        exact ⟨_, (inF hb).trans q⟩
      · obtain ⟨o', q⟩ := ub.there b o e hb
        exact ⟨o', inB q⟩
  · obtain ⟨e', h⟩ := out e
    rcases h with h | h
    · obtain ⟨o', q⟩ := Option.isSome_iff_exists.mp h
      have z := st b o' q
      rw [e'] at z; cases z
      exact q
    · exact absurd h hb
section
variable {w : Wd} {X : Cx} {k : Nat} {f : Addr} {fd : FuncData} {ps : List Str} {sp : SpD} {x : Str} {p pos : Pos}
/-- the callee runs, its values known -/
theorem run_fnG {pins : List (Addr × Obj)} {σ : Std} {σv : L2.St} {H : Hp} {ρ : List Addr} {M : Sto} {s : Shared} {q : QD} {xx : XD} {Q : VK} {Wv : WX} {us : List Value} {vs : List V} {ds : List D} {args : Args} (hK : X.K = w.K) (fo : FrOk X) (F : FnG X.prog X.w w.toWc X.mg X.base k f fd ps sp) (hr : Room k X.A) (hg : X.A.guards = some [])
    (tk : Tk X Wv) (I : Inv X pins σv H s) (hb : BindsTo s fd args (ps.zip us)) (r : Vals vs us) (a : At w H ρ M σ σv) (rs : Rps w H ρ M ds vs) (h : sp ds M q fun c es M' => xx c es σ M') (kq : QOk w H ρ M q Q) (kx : XOk w H ρ M xx Wv) :
    codeAny (model X.prog X.w) X.A (.call (.ref f) args) (fun r s' => match r with | .error e => X.xe e s' | .ok (.ret u) => EP X pins σv Q u s' | .ok _ => False) s := by
  obtain ⟨fe, fo', Lf, hst, hfe, hfx⟩ := fo
  refine codeAny_mono (F.run X.A X.stack s H args us vs Q (fun cl dd H' => Wv cl dd σv H') hr hg (hK ▸ I.env0) hb r ⟨w.hid, ρ, M, ds, q, _, a.m, rs, h, kq, ?_⟩) fun r s' hq => ?_
  · intro H' ρ' M' c es cl dd e m rx hx
    exact kx _ _ _ _ _ _ _ _ _ e (a.ext m e) rx hx
  · cases r with
    | error e => exact tk _ _ (XF.of_call hfx I (fun cls d H' h => h) hq)
    | ok fl =>
      cases fl with
      | ret u => exact I.after hq
      | next => exact hq.elim
      | brk => exact hq.elim
      | cont => exact hq.elim
def dCall (sp : SpD) (t : TAD) : TED := fun σ M q x => t σ M (fun ds M1 => sp ds M1 q fun c es M' => x c es σ M') x
theorem de_call {e : Expr} {es : List Expr} {t : TAD} (hK : X.K = w.K) (fo : FrOk X) (F : FnG X.prog X.w w.toWc X.mg X.base k f fd ps sp) (hr : Room k X.A) (hgd : X.A.guards = some []) (hg : Gl X x) (hm : X.mg x = some (.ref f)) (hk : PySem.W.keepIn X.K (.ref f) = true)
    (hb : Binds X.K fd ps []) (ha : DA w X (e :: es) t) (hdb : (x == ("__debug__" : Str)) = false) (he : starEach (e :: es) X.env = (false, eval e X.env) :: starEach es X.env) (hpl : (backTo pos (starEach es X.env)).any (·.1) = false) :
    DE w X (.Call (.Name x p) (e :: es) [] pos) (dCall sp t) :=
  ⟨fun Wv tk => ⟨fun pins s σv H Q I ⟨σ, ρ, M, q, xx, a, hq, kq, kx⟩ => by
    refine wpAny_Call_Name_kw (ld_glob I hg hm ?_ hdb)
    refine PySem.W.callWith_K (h₀ := X.base) I.ok.mod.kin hk (thn ((ha.run Wv tk).run pos pins s σv H (fun vs H1 => ∃ ρ1 M1 ds, Exs w H ρ M H1 ρ1 M1 ∧ RepM w H1 ρ1 M1 ∧ Rps w H1 ρ1 M1 ds vs ∧ sp ds M1 q fun c es M' => xx c es σ M') I ?_) fun us s1 h1 => ?_) he hpl
    · exact ⟨σ, ρ, M, _, xx, a, hq, fun H1 ρ1 M1 ds vs e1 m1 r1 h1 => ⟨ρ1, M1, ds, e1, m1, r1, h1⟩, kx⟩
    · obtain ⟨vs, H1, I1, rv, ρ1, M1, ds, e1, m1, r1, h1⟩ := h1
      refine ⟨I1.kIn, ?_⟩
      have hl : us.length = ps.length := by rw [← rv.length, ← r1.length]; exact F.len _ _ _ _ h1
      have hbb := hb s1 us I1.kIn (by simpa using hl)
      rw [List.append_nil] at hbb
      refine wpAny_call (codeAny_mono (run_fnG hK fo F hr hgd tk I1 hbb rv (a.ext m1 e1) r1 h1 (kq.ext e1) (kx.ext e1)) fun r s' hq => ?_)
      cases r with
      | error e => exact hq
      | ok fl => cases fl <;> exact hq⟩⟩
theorem de_call0 (hK : X.K = w.K) (fo : FrOk X) (F : FnG X.prog X.w w.toWc X.mg X.base k f fd ps sp) (hr : Room k X.A) (hgd : X.A.guards = some []) (hg : Gl X x) (hm : X.mg x = some (.ref f)) (hk : PySem.W.keepIn X.K (.ref f) = true)
    (hb : Binds X.K fd ps []) (hdb : (x == ("__debug__" : Str)) = false) : DE w X (.Call (.Name x p) [] [] pos) (dCall sp dNil) :=
  ⟨fun Wv tk => ⟨fun pins s σv H Q I ⟨σ, ρ, M, q, xx, a, hq, kq, kx⟩ => by
    refine wpAny_Call_Name_kw (ld_glob I hg hm ?_ hdb)
    refine PySem.W.callWith_K0 I.kIn hk ?_
    have hl : ([] : List Value).length = ps.length := F.len _ _ _ _ hq
    have hbb := hb s [] I.kIn (by simpa using hl)
    refine wpAny_call (codeAny_mono (run_fnG hK fo F hr hgd tk I hbb .nil a .nil hq kq kx) fun r s' hq => ?_)
    cases r with
    | error e => exact hq
    | ok fl => cases fl <;> exact hq⟩⟩
end
/-! ### the store behind a def: what was made within and is not handed out goes -/
def gcQ (n : Nat) (q : QD) : QD := fun d M' => ∃ M1 G, M' = M1 ++ G ∧ n ≤ M1.length ∧ D.bd M1.length d = true ∧ D.bdL M1.length M1 = true ∧ q d M1
def gcX (n : Nat) (x : Nat → List D → Sto → Prop) : XD := fun c ds _ M' => ∃ M1 G, M' = M1 ++ G ∧ n ≤ M1.length ∧ D.bdL M1.length ds = true ∧ D.bdL M1.length M1 = true ∧ x c ds M1
theorem QOk.gc {w : Wd} {H : Hp} {ρ : List Addr} {M : Sto} {q : QD} {Q : VK} (m : RepM w H ρ M) (k : QOk w H ρ M q Q) : QOk w H ρ M (gcQ M.length q) Q := by
  rintro H' ρ' M' d v e m' r ⟨M1, G, rfl, hn, b1, b2, hq⟩
  exact k _ _ _ _ _ (Ext.cut m e hn) (m'.cut b2) (r.cut (fun _ h => lv_cut h) b1) hq
theorem XCOk.gc {w : Wd} {H : Hp} {ρ : List Addr} {M : Sto} {x : Nat → List D → Sto → Prop} {Ex : XK} (m : RepM w H ρ M) (k : XCOk w H ρ M x Ex) : XOk w H ρ M (gcX M.length x) fun cl dd _ H' => Ex cl dd H' := by
  rintro H' ρ' M' c ds cl dd σ' σv' e a' ⟨r1, us, r2, r3, r4⟩ ⟨M1, G, rfl, hn, b1, b2, hq⟩
  exact k _ _ _ _ _ _ _ (Ext.cut m e hn) (a'.m.cut b2) ⟨r1, us, r2, r3.imp id fun ⟨d, e1, n1, h1⟩ => ⟨d, e1, fun z => n1 (lv_cut z), h1⟩, r4.cut (fun _ h => lv_cut h) b1⟩ hq
/-! ### objects in a represented store stand in it -/
mutual
theorem Rep.bd {c : Wc} {H : Hp} {ρ : List Addr} {L : Addr → Prop} : ∀ {d : D} {v : V}, Rep c H ρ L d v → D.bd ρ.length d = true
  | _, _, .non => rfl
  | _, _, .bl _ => rfl
  | _, _, .int _ => rfl
  | _, _, .str _ => rfl
  | _, _, .raw _ => rfl
  | _, _, .cls _ => rfl
  | _, _, .scr _ => rfl
  | _, _, .obj h => by simp [D.bd, (List.getElem?_eq_some_iff.mp h).1]
  | _, _, .tup _ r => by rw [D.bd]; exact RepL.bd r
  | _, _, .lst _ r => by rw [D.bd]; exact RepL.bd r
  | _, _, .dk _ _ _ r => by rw [D.bd]; exact RepL.bd r
  | _, _, .dt _ _ _ r => by rw [D.bd]; exact RepL.bd r
  | _, _, .err _ _ _ _ r => by rw [D.bd]; exact RepL.bd r
theorem RepL.bd {c : Wc} {H : Hp} {ρ : List Addr} {L : Addr → Prop} : ∀ {ds : List D} {vs : List V}, RepL c H ρ L ds vs → D.bdL ρ.length ds = true
  | _, _, .nil => rfl
  | _, _, .cons a b => by rw [D.bdL, Rep.bd a, RepL.bd b]; rfl
end
theorem bdL_of {n : Nat} : ∀ {l : List D}, (∀ d ∈ l, D.bd n d = true) → D.bdL n l = true
  | [], _ => rfl
  | d :: l, h => by rw [D.bdL, h d (by simp), bdL_of fun x hx => h x (by simp [hx])]; rfl
theorem RepM.bd {w : Wd} {H : Hp} {ρ : List Addr} {M : Sto} (m : RepM w H ρ M) : D.bdL M.length M = true := by
  refine bdL_of fun d hd => ?_
  obtain ⟨i, hi, e⟩ := List.mem_iff_getElem.mp hd
  have h2 : M[i]? = some d := by rw [List.getElem?_eq_getElem hi, e]
  have hi' : i < ρ.length := m.len ▸ hi
  rw [← m.len]
  by_cases hn : d = .non
  · subst hn; rfl
  · have hc := m.obj i ρ[i] d (List.getElem?_eq_getElem hi') h2 hn
    cases d with
    | lst ds => obtain ⟨vs, _, r⟩ := hc; rw [D.bd]; exact r.bd
    | dk ks ds => obtain ⟨vs, _, _, r⟩ := hc; rw [D.bd]; exact r.bd
    | dt ks ds => obtain ⟨vs, _, _, r⟩ := hc; rw [D.bd]; exact r.bd
    | _ => exact hc.elim
/-! ### a def's body keeps its promise -/
def startD (n : Nat) (ds : List D) : Std := ds.map some ++ List.replicate (n - ds.length) none
theorem repS_start {w : Wd} {H : Hp} {ρ : List Addr} {M : Sto} {N : List Str} {ds : List D} {vs : List V} (r : Rps w H ρ M ds vs) : RepS w.toWc H ρ (Lv w ρ M) (startD N.length ds) (L2.start N vs) := by
  refine ⟨by simp [startD, L2.start, r.length], fun i d e => ?_⟩
  have hl := r.length
  unfold startD at e
  unfold L2.start
  by_cases hi : i < ds.length
  · rw [List.getElem?_append_left (by simpa using hi), List.getElem?_map] at e
    rw [List.getElem?_append_left (by simpa [← hl] using hi), List.getElem?_map]
    cases q : ds[i]? with
    | none => rw [q] at e; cases e
    | some d' =>
      rw [q] at e
      obtain rfl : d' = d := by simpa using e
      obtain ⟨v, hv, rv⟩ := r.get q
      exact ⟨v, by rw [hv]; rfl, rv⟩
  · rw [List.getElem?_append_right (by simpa using hi), List.getElem?_replicate] at e
    split at e <;> simp at e
section
variable {P : Program} {W : World} {c : Wc} {mg : Str → Option Value} {base : Heap} {sp : SpD}
abbrev defCx (P : Program) (W : World) (K : PySem.W.Frag) (mg : Str → Option Value) (base : Heap) (N : List Str) (qual : Str) (scope : Scope) (f : Addr) (cdv : Value) (A : Around) (outer : List Env) (s : Shared) (H : Hp) (E : XK) : Cx := cxOf (L2.CX P W) P W K mg base N qual scope f cdv A outer s H E
theorem defCx_fr {K : PySem.W.Frag} {N : List Str} {qual : Str} {scope : Scope} {f : Addr} {cdv : Value} {A : Around} {outer : List Env} {s : Shared} {H : Hp} {E : XK} : FrOk (defCx P W K mg base N qual scope f cdv A outer s H E) := ⟨_, _, _, rfl, rfl, rfl⟩
theorem guards_deeper {A : Around} (h : A.guards = some []) (env : Env) : (A.deeper env).guards = some [] := h
/-- THE RULE for a def -/
theorem fnG_of {x qual : Str} {st : Stmt} {f : Addr} {fd : FuncData} {N ps : List Str} {k : Nat} (F : Fun c.K x qual st f fd) (S : FnScope N ps (defScope st)) (len : ∀ ds M q x, sp ds M q x → ds.length = ps.length)
    (hbody : ∀ (hd : Addr → Prop) (cdv : Value) (A : Around) (outer : List Env) (s : Shared) (H : Hp) (E : XK), Room k (A.deeper (envOfC qual (defScope st) s.heap.objs.size f cdv)) → (A.deeper (envOfC qual (defScope st) s.heap.objs.size f cdv)).guards = some [] →
      ∃ t, DSs ⟨c, hd⟩ (defCx P W c.K mg base N qual (defScope st) f cdv A outer s H E) (defBody st) t ∧
        ∀ ds M q x, D.bdL M.length M = true → D.bdL M.length ds = true → sp ds M q x → t { nx := fun _ M' => gcQ M.length q .non M', rt := gcQ M.length q } (gcX M.length x) (startD N.length ds) M) :
    FnG P W c mg base (k + 1) f fd ps sp := by
  obtain ⟨oc, od, kV, doc, pm, an, cdv, ct, osl, rfl, lk, hcd⟩ := F.ex
  refine ⟨len, fun A outer s H args us vs Q Ex hr hg e0 hb r ⟨hd, ρ, M, ds, q, x, m, rs, hsp, kq, kx⟩ => ?_⟩
  refine LamX.run_ofS (N := N) (ps := ps) (us := us) (vs := vs) lk hcd S hr e0 hb r (by rw [← rs.length]; exact len _ _ _ _ hsp) fun hr' => ?_
  obtain ⟨t, ht, hq⟩ := hbody hd cdv A outer s H Ex hr' (guards_deeper hg _)
  refine ⟨_, ht.run (fun cl dd _ H' => Ex cl dd H') (Tk.of rfl (takes_of rfl rfl rfl rfl)), startD N.length ds, ρ, M, _, _, ⟨m, repS_start rs⟩, hq ds M q x m.bd ?_ hsp, ⟨?_, kq.gc m, fun _ _ _ _ _ _ _ h => h.elim, fun _ _ _ _ _ _ _ h => h.elim⟩, kx.gc m⟩
  · rw [← m.len]; exact rs.bd
  · intro H' ρ' M' σ' σv' e a' h
    exact kq.gc m _ _ _ _ _ e a'.m .non h
end
end TL
namespace TL
open PySem PySem.W PySem.Calls PyProof.Rows PySem.HandSPX
/-! ## an own error whose __init__ asks super() and keeps what it is made of -/
def eA (F : Str) (p1 p2 : Pos) : Arguments := { posonlyargs := [], args := [{ arg := "self", annotation := none, pos := p1 }, { arg := F, annotation := none, pos := p2 }], vararg := none, kwonlyargs := [], kw_defaults := [], kwarg := none, defaults := [] }
def eB (F T : Str) (p0 p1 p2 p3 p4 p5 q1 q2 q3 q4 : Pos) : List Stmt :=
  [.Expr (.Call (.Attribute (.Call (.Name "super" p0) [] [] p1) "__init__" p2) [.Constant (.str T) 0 p3] [] p4) p5, .Assign [.Attribute (.Name "self" q1) F q2] (.Name F q3) q4]
def eS (F : Str) : Scope := { kind := .function, names := [(PySem.Str.ofString "self", .local), (F, .local), (PySem.Str.ofString "__class__", .free), (PySem.Str.ofString "super", .globalImplicit)], isGenerator := false, isCoroutine := false, more := [] }
structure ErrTxt (P : Program) (K : Frag) (C fI : Addr) (F : Str) : Prop where
  cls : ∃ nm q N bs bm sn sub ab col dd k0 k1 k2 k3 k5, K.lookup C = some (excClassObj nm q C N bs bm true sn sub ab col dd k0 k1 k2 k3 k5 "ValueError.__new__") ∧ refsVE bm = true
  sa : findIn K (.ref C) "__setattr__" = some (some (.builtin "object.__setattr__"))
  noF : findIn K (.ref C) F = some none
  iC : findIn K (.ref C) "__init__" = some (some (.ref fI))
  tC : typeIn K (.ref fI) = some (.type "function")
  kC : keepIn K (.ref C) = true
  exC : subIn K (.ref C) (.type "BaseException") = some true
  tyC : typeIn K (.ref C) = some (.type "type")
  veC : subIn K (.ref C) (.type "ValueError") = some true
  mC : mroIn K C (.ref C) = some true
  sup : ks_superIn K C C "__init__" = some (some (.builtin "ValueError.__init__"))
  any : nsIn K cStatics "thirdparty.any" = some none
  nf : F ≠ PySem.Str.ofString "self" ∧ F ≠ PySem.Str.ofString "__class__" ∧ F ≠ PySem.Str.ofString "super" ∧ (F == ("__debug__" : Str)) = false
  top : (P.main.scope.names.lookup ("super" : Str)).isSome = false
  frs : ∀ x t, K.lookup x ≠ some (excO C t)
  fn : ∃ (oc : Value) (od : Option Addr) (qual T : Str) (doc pm : Value) (an : Option Addr) (cda cc : Addr) (ct : Value) (osl : Array (Option Value)) (p1 p2 a0 a1 a2 a3 a4 a5 q1 q2 q3 q4 : Pos),
    K.lookup fI = some ⟨oc, od, .func (ksFn "__init__" qual (eA F p1 p2) (eB F T a0 a1 a2 a3 a4 a5 q1 q2 q3 q4) (eS F) .none .none doc pm an (.ref cda) ct cc), osl⟩ ∧ codeIn K (.ref cda) qual = true ∧
      (∃ ccl cdd vs ccs file tf, K.lookup cda = some ⟨ccl, cdd, .fields vs, ccs⟩ ∧ vs[2]? = some (.str file tf) ∧ ((P.main.file : Str) == file) = true) ∧
      (∃ cl cld csl, K.lookup cc = some ⟨cl, cld, .cell (some (.ref C)), csl⟩) ∧
      (∀ x v, bindArgs (ksFn "__init__" qual (eA F p1 p2) (eB F T a0 a1 a2 a3 a4 a5 q1 q2 q3 q4) (eS F) .none .none doc pm an (.ref cda) ct cc) ⟨[x, v], []⟩ = pure [(PySem.Str.ofString "self", x), (F, v)]) ∧
      ∃ pl : Sem Bool, ∀ L, eval (.Call (.Attribute (.Call (.Name "super" a0) [] [] a1) "__init__" a2) [.Constant (.str T) 0 a3] [] a4) (ksEnv qual (eS F) L fI (.ref cda) cc) = (do
        let ov ← attributeBase (.Call (.Name "super" a0) [] [] a1) "__init__" (ksEnv qual (eS F) L fI (.ref cda) cc) (eval (.Call (.Name "super" a0) [] [] a1) (ksEnv qual (eS F) L fI (.ref cda) cc))
        standAt a2.atName
        let (f, first) ← holding [ov] (getMethod ov "__init__" pl)
        callWith a4 f first (backTo a4 (starEach [.Constant (.str T) 0 a3] (ksEnv qual (eS F) L fI (.ref cda) cc))) [])
section
variable {prog : Program} {w : World} {A : Around} {E : Value → Shared → Prop} {R : Result → Shared → Prop} {s : Shared} {K : Frag} {mg : Str → Option Value} {C fI : Addr} {F : Str} {base : Heap}
/-- the built-in __init__, bound, called -/
theorem mw_call {u x t0 : Addr} {rest : List Value} {Q : Value → Shared → Prop} {nm q : Str} {N : Addr} {bs bm : List Value} {hdct : Bool} {sn : List Str} {sub : List Value} {ab : Bool} {col : Option Bool} {dd : Option Addr} {k0 k1 k2 k3 k5 : Option Value}
    (hC : s.heap.get? C = some (excClassObj nm q C N bs bm hdct sn sub ab col dd k0 k1 k2 k3 k5 "ValueError.__new__")) (hu : s.heap.get? u = some (kxs_mw "ValueError.__init__" x)) (he : s.heap.get? x = some (excO C t0)) (hz : rest.length ≤ sizeLine)
    (h : ∀ h' t1, (∀ b o, b ≠ x → s.heap.get? b = some o → h'.get? b = some o) → h'.get? x = some (excO C t1) → Q .none { s with heap := h' }) :
    wpAny (model prog w) A (call (.ref u) rest) Q E s := by
  obtain ⟨hh, g, d, tk, os⟩ := s
  refine wpAny_call (codeAny_of_tree ?_)
  show wpAny _ A.in1 (callAny (.ref u) ⟨rest, []⟩) _ _ _
  simp only [callAny]
  refine wpAny_bind (wpAny_load hu ?_)
  simp only [kxs_mw, show (Value.type "method-wrapper" == Value.type "method" || Value.type "method-wrapper" == Value.type "builtin_function_or_method" || Value.type "method-wrapper" == Value.type "method-wrapper") = true by decide, if_true]
  refine KFB.if_so (by decide) ?_
  refine wpAny_bind (check_bound_init F.excBase_ValueError.toExcCallFacts hC he rfl ?_)
  refine wpAny_bind (wpAny_pure (wpAny_pure ?_))
  refine ⟨plainId_quiet F.excBase_ValueError.init.plain _, codeAny_builtin F.excBase_ValueError.initEntry ?_⟩
  exact exc_init_tree (cls := .ref C) (t0 := t0) (dv := none) (c2 := .none) (c3 := .none) (b4 := .bool false) he hz fun h' k e' _ => h h' _ k e'
theorem ldK {M : Model} {s : Shared} {name : Str} {scope : Scope} {L a cc : Addr} {cd : Value} {m : Str → Option Value} {x : Str} {pos : Pos} {v : Value} {Q : Value → Shared → Prop} {A : Around} {E : Value → Shared → Prop} (hn : s.heap.Ns L m) (hv : m x = some v) (h : Q v s)
    (hk : scope.kind = .function) (hl : scope.names.lookup x = some .local) (hd : (x == ("__debug__" : Str)) = false) :
    wpAny M A (eval (.Name x pos) (ksEnv name scope L a cd cc)) Q E s := wpAny_Name (wpAny_loadName_local hk hl hn hv h) hd
/-- what __init__ leaves of a fresh exception at x -/
structure EInit (F : Str) (h h' : Heap) (x C dx t1 : Addr) (v : Value) : Prop where
  keep : ∀ b o, b ≠ x → h.get? b = some o → h'.get? b = some o
  obj : h'.get? x = some { cls := .ref C, dict := some dx, data := .fields #[.ref t1, .none, .none, .none, .bool false, .none] }
  dbig : h.objs.size ≤ dx
  dne : dx ≠ x
  ns : h'.Ns1 dx (fun y => if y = F then some v else none)
theorem eInit {x t0 : Addr} {v : Value} (T : ErrTxt prog K C fI F) (X : K.In s.heap) (MO : L2.Mod K mg base) (bk : ∀ b o, base.get? b = some o → s.heap.get? b = some o) (hmg : mg "super" = none) (hlim : s.heap.NoLimit) (hx : s.heap.get? x = some (excO C t0)) (hroom : A.depth < recursionLimit)
    (hq : ∀ h' tk dx t1, EInit F s.heap h' x C dx t1 v → R (.ok (.ret .none)) { s with heap := h', toks := tk }) :
    codeAny (model prog w) A (.call (.ref fI) ⟨[.ref x, v], []⟩) R s := by
  obtain ⟨oc, od, qual, tx, doc, pm, an, cda, cc, ct, osl, p1, p2, a0, a1, a2, a3, a4, a5, q1, q2, q3, q4, ho, hcd, ⟨ccl, cdd, vs, ccs, file, tf, hcode, hvs, hfile⟩, ⟨cl, cld, csl, hcell⟩, hbi, pl, hev⟩ := T.fn
  obtain ⟨nm, q, N, bs, bm, sn, sub, ab, col, dd, k0, k1, k2, k3, k5, hC, hbm⟩ := T.cls
  obtain ⟨n1, n2, n3, n4⟩ := T.nf
  have hcl : clsIn K C = some { name := nm, bases := bs, mro := .ref C :: bm, ns := N, qualname := q, hasDict := true, slotNames := sn, subclasses := sub, abstract := ab, collection := col, hasDel := false } := by unfold clsIn; rw [hC] <;> rfl
  have lF : (eS F).names.lookup F = some .local := by
    have e1 : (F == PySem.Str.ofString "self") = false := by simpa using n1
    simp [eS, List.lookup, e1]
  have lS : (eS F).names.lookup (PySem.Str.ofString "self") = some .local := by simp [eS, List.lookup]
  have lC : (eS F).names.lookup ("__class__" : Str) = some .free := by
    have e1 : (("__class__" : Str) == F) = false := by simpa using n2.symm
    have e2 : (("__class__" : Str) == PySem.Str.ofString "self") = false := by decide
    have e3 : (("__class__" : Str) == PySem.Str.ofString "__class__") = true := by decide
    simp only [eS, List.lookup, e1, e2, e3]
  have lU : (eS F).names.lookup ("super" : Str) = some .globalImplicit := by
    have e1 : (("super" : Str) == F) = false := by simpa using n3.symm
    have e2 : (("super" : Str) == PySem.Str.ofString "self") = false := by decide
    have e3 : (("super" : Str) == PySem.Str.ofString "__class__") = false := by decide
    have e4 : (("super" : Str) == PySem.Str.ofString "super") = true := by decide
    simp only [eS, List.lookup, e1, e2, e3, e4]
  obtain ⟨mb, hmb, hbl⟩ := MO.blt
  refine ks_codeAny_call_defAt (fd := ksFn "__init__" qual (eA F p1 p2) (eB F tx a0 a1 a2 a3 a4 a5 q1 q2 q3 q4) (eS F) .none .none doc pm an (.ref cda) ct cc) (binds := [(PySem.Str.ofString "self", .ref x), (F, v)]) hroom (X _ _ ho) rfl hlim (codeRec_of X hcd) rfl
    (BindsTo.of_eq (hbi _ _)) ?_ ?_ (fun h₁ hns hk₁ => ?_) rfl rfl rfl
  · intro y hy e
    simp only [ksFn, fnX, eS, List.mem_cons, List.not_mem_nil, or_false] at hy
    rcases hy with rfl | rfl | rfl | rfl <;> cases e
  · intro y hy
    simp only [List.mem_cons, List.not_mem_nil, or_false] at hy
    rcases hy with rfl | rfl
    · exact lS
    · exact lF
  have X₁ : K.In h₁ := X.keeps hk₁
  have hx₁ := hk₁ _ _ hx
  have mS : (fun y => ([(PySem.Str.ofString "self", Value.ref x), (F, v)] : List (Str × Value)).reverse.lookup y) (PySem.Str.ofString "self") = some (.ref x) := by
    have e1 : (PySem.Str.ofString "self" == F) = false := by simpa using n1.symm
    simp [List.lookup, e1]
  have mF : (fun y => ([(PySem.Str.ofString "self", Value.ref x), (F, v)] : List (Str × Value)).reverse.lookup y) F = some v := by simp [List.lookup]
  have hLx : s.heap.objs.size ≠ x := Nat.ne_of_gt (Heap.lt_size hx)
  obtain ⟨mf, hmf⟩ : ∃ m : Str → Option Value, m = fun y => ([(PySem.Str.ofString "self", Value.ref x), (F, v)] : List (Str × Value)).reverse.lookup y := ⟨_, rfl⟩
  rw [← hmf] at hns mS mF
  show _root_.PySem.wpAt (model prog w) (A.deeper (ksEnv qual (eS F) s.heap.objs.size fI (.ref cda) cc)) (.func _ (ksEnv qual (eS F) s.heap.objs.size fI (.ref cda) cc)) (execs (eB F tx a0 a1 a2 a3 a4 a5 q1 q2 q3 q4) (ksEnv qual (eS F) s.heap.objs.size fI (.ref cda) cc)) _ _ _
  obtain ⟨tkk, htk⟩ : ∃ tk, tk = s.toks + ([(PySem.Str.ofString "self", Value.ref x), (F, v)] : List (Str × Value)).length := ⟨_, rfl⟩
  rw [← htk]
  -- super().__init__(..)
  refine ks_wpAt_execs_cons (ks_wpAt_Expr_any (ks_wpAt_MethodCall (ks_wpAt_super_base (env := ksEnv qual (eS F) s.heap.objs.size fI (.ref cda) cc) lU lC (by decide) rfl (X₁ _ _ ho) rfl (ar := { arg := "self", annotation := none, pos := p1 }) rfl rfl (X₁ _ _ hcode) rfl hvs hfile T.top ?_) (hev _)))
  refine ks_loadName_global rfl lU (Calls.loadGlobal_builtin (env := ksEnv qual (eS F) s.heap.objs.size fI (.ref cda) cc) (MO.glob.keeps fun b o e => hk₁ b o (bk b o e)) hmg (hmb.keeps fun b o e => hk₁ b o (bk b o e)) ((hbl "super" (by decide)).trans (by decide +kernel : bootBuiltins "super" = some (.type "super"))) ⟨rfl, ?_⟩)
  refine wpAny_loadName_free rfl lC rfl ⟨_, X₁ _ _ hcell, rfl⟩ ?_
  refine wpAny_loadName_local rfl lS hns mS ?_
  refine ks_wpAny_isType_cls (X₁ _ _ hC) rfl ⟨rfl, ?_⟩
  refine ks_wpAny_call_super (X₁ _ _ hC) rfl hx₁ rfl (fun c e => nomatch e) (looks_mroIn X₁ T.mC) (fun h₂ e₂ k₂ => ?_)
  have X₂ := X₁.keeps k₂
  have hx₂ := k₂ _ _ hx₁
  have I₂ : InstAt h₂ x (excO C t0) C none := ⟨hx₂, rfl, rfl, trivial⟩
  have hsup := T.sup
  unfold ks_superIn at hsup
  rw [hcl] at hsup
  refine kxs_getMethod kxs_ValueError e₂ (looks_opaque X₂ T.any) (l₀ := .ref C :: bm) ?_ rfl X₂ hsup (I₂.type.andThen (looks_subIn X₂ T.veC)) (ks_ne X₂ I₂ hcl) (by decide) ?_
  · exact fun A Q E s k q => wpAny_bind ((looks_clsIn X₂ hcl) A _ E s k (wpAny_pure q))
  have k₃ : ∀ b o, h₂.get? b = some o → (h₂.push (kxs_mw "ValueError.__init__" x)).get? b = some o := fun b o e => Heap.get?_push_of_some _ e
  have hu₃ : (h₂.push (kxs_mw "ValueError.__init__" x)).get? h₂.objs.size = some (kxs_mw "ValueError.__init__" x) := Heap.get?_push_at rfl rfl
  obtain ⟨h₃, hh₃⟩ : ∃ h₃, h₃ = h₂.push (kxs_mw "ValueError.__init__" x) := ⟨_, rfl⟩
  rw [← hh₃] at k₃ hu₃ ⊢
  show wpAny _ _ (callWith a4 (.ref h₂.objs.size) [] (backTo a4 (starEach [.Constant (.str tx) 0 a3] (ksEnv qual (eS F) s.heap.objs.size fI (.ref cda) cc))) []) _ _ _
  refine kxs_callWith (i := "ValueError.__init__") (x := x) rfl ?_
  show wpAny _ _ (evalArgs _ _ (backTo a4 [(false, eval (.Constant (.str tx) 0 a3) _)]) _) _ _ _
  refine evalArgs_plain ?_
  refine Calls.spliced_cons (wpAny_Constant_str (k := 0) (pos := a3) ?_)
  refine Calls.spliced_nil ⟨hu₃, ?_⟩
  show wpAny _ _ (call (.ref h₂.objs.size) [.str tx _]) _ _ _
  refine mw_call ((X₂.keeps k₃) _ _ hC) hu₃ (k₃ _ _ hx₂) (by show 1 ≤ sizeLine; rw [sizeLine_eq]; omega) fun h₄ t1 k₄ hx₄ => ?_
  -- self.F = F
  have kk : ∀ b o, b ≠ x → h₁.get? b = some o → h₄.get? b = some o := fun b o hb e => k₄ b o hb (k₃ b o (k₂ b o e))
  have hnx : K.lookup x = none := by
    cases e : K.lookup x with
    | none => rfl
    | some o =>
      have z := X _ _ e
      rw [hx] at z
      have z := Option.some.inj z
      subst z
      exact absurd e (T.frs x t0)
  have nd : ∀ {b : Addr} {o : Obj}, K.lookup b = some o → b ≠ x := fun {b o} e z => by rw [z, hnx] at e; cases e
  have X₄ : K.In h₄ := fun b o e => kk b o (nd e) (X₁ b o e)
  have hn₄ : h₄.Ns s.heap.objs.size mf := by
    obtain ⟨oL, es, ep, hL, r⟩ := hns
    exact ⟨oL, es, ep, kk _ _ hLx hL, r⟩
  show _root_.PySem.wpAt _ _ _ (execs _ _) _ _ _
  refine ks_wpAt_execs_cons (ks_wpAt_Assign_Attr ?_)
  refine _root_.PySem.wpAt_of_wpAny (ldK hn₄ mF (ldK hn₄ mS ?_ rfl lS (by decide)) rfl lF n4)
  refine set_plain X₄ (ox := excO C t1) (od := none) ⟨hx₄, rfl, rfl, trivial⟩ T.sa ?_
  refine exc_osa X₄ hx₄ hcl (show refsVE (.ref C :: bm) = true from hbm) rfl T.noF (fun h₅ tk₅ dx k₅ dn dne hx₅ hn₅ => ?_)
  show _root_.PySem.wpAt _ _ _ (execs _ _) _ _ _
  have z : s.heap.objs.size ≤ h₄.objs.size := Nat.le_of_lt hn₄.lt
  exact _root_.PySem.wpAt_of_wpAny (wpAny_execs_nil (hq h₅ tk₅ dx t1 ⟨fun b o hb e => k₅ b o hb (kk b o hb (hk₁ b o e)), hx₅, Nat.le_trans z dn, dne, hn₅⟩))
structure EMade (F : Str) (h h' : Heap) (e C d : Addr) (v : Value) : Prop where
  keep : ∀ b o, h.get? b = some o → h'.get? b = some o
  new : h.objs.size ≤ e
  obj : ∃ oe vs, h'.get? e = some oe ∧ oe.cls = .ref C ∧ oe.dict = some d ∧ oe.data = .fields vs ∧ vs[1]? = some .none
  dbig : h.objs.size ≤ d
  dne : d ≠ e
  ns : h'.Ns1 d (fun y => if y = F then some v else none)
theorem eMade {v : Value} (T : ErrTxt prog K C fI F) (X : K.In s.heap) (MO : L2.Mod K mg base) (bk : ∀ b o, base.get? b = some o → s.heap.get? b = some o) (hmg : mg "super" = none) (hlim : s.heap.NoLimit) (hroom : A.depth + 1 < recursionLimit)
    (hq : ∀ h' tk e d, EMade F s.heap h' e C d v → R (.ok (.ret (.ref e))) { s with heap := h', toks := tk }) :
    codeAny (model prog w) A (.call (.ref C) ⟨[v], []⟩) R s := by
  obtain ⟨nm, q, N, bs, bm, sn, sub, ab, col, dd, k0, k1, k2, k3, k5, hC, hbm⟩ := T.cls
  obtain ⟨hp, g, dr, tk, os⟩ := s
  have k : ∀ b o, hp.get? b = some o → ((hp.push (kdv_tup [v])).push (excO C hp.objs.size)).get? b = some o := fun b o e => Heap.get?_push_of_some _ (Heap.get?_push_of_some _ e)
  have hget : ((hp.push (kdv_tup [v])).push (excO C hp.objs.size)).get? (hp.objs.size + 1) = some (excO C hp.objs.size) := by heap_get
  refine call_own PySem.F.excBase_ValueError (fun X => refsVE_contains X bm hbm) (X _ _ hC) (looks_findIn X T.iC) (fun self => bind_fn X self T.tC) (by show 1 ≤ sizeLine; rw [sizeLine_eq]; omega) ?_
  refine eInit (s := ⟨(hp.push (kdv_tup [v])).push (excO C hp.objs.size), g, dr, tk, os⟩) T (X.keeps k) MO (fun b o e => k b o (bk b o e)) hmg (hlim.keeps k) hget ?_ fun h' tk' dx t1 M => ?_
  · show A.depth + 1 < recursionLimit
    exact hroom
  · have old : ∀ b o, hp.get? b = some o → h'.get? b = some o := fun b o e => M.keep b o (Nat.ne_of_lt (Nat.lt_succ_of_lt (Heap.lt_size e))) (k b o e)
    have z : hp.objs.size ≤ dx := by
      have q := M.dbig
      have e : ((hp.push (kdv_tup [v])).push (excO C hp.objs.size)).objs.size = hp.objs.size + 1 + 1 := by rw [Heap.size_push, Heap.size_push]
      have q : ((hp.push (kdv_tup [v])).push (excO C hp.objs.size)).objs.size ≤ dx := q
      omega
    exact ⟨rfl, hq h' tk' (hp.objs.size + 1) dx ⟨old, Nat.le_succ _, ⟨_, _, M.obj, rfl, rfl, rfl, rfl⟩, z, M.dne, M.ns⟩⟩
end
open PySem PySem.Spec L2
theorem relO_one {v : V} {v' : Value} {F : Str} (r : RelV v v') (f : Str) : RelO (List.lookup f [(F, v)]) (if f = F then some v' else none) := by
  by_cases hw : f = F
  · subst hw
    rw [if_pos rfl]
    have q : List.lookup f [(f, v)] = some v := by simp [List.lookup]
    rw [q]
    exact r
  · rw [if_neg hw]
    have qw : (f == F) = false := by simpa using hw
    have q2 : List.lookup f [(F, v)] = none := by simp [List.lookup, qw]
    rw [q2]
    trivial
section
variable {X : Cx} {C fI : Addr} {F : Str}
/-- C(e): a new own error -/
def tMkE (C : Addr) (F : Str) (ta : TE) : L2.St → Hp → XK → Prop := fun σ H Q => ta σ H fun v H1 => ∀ d, H1 d = none → Q (.ref C) (some d) (upd H1 d (.xd [(F, v)]))
theorem pmk_err {a : Expr} {ta : TE} {x : Str} {p pos : Pos} {k : Nat} (T : ErrTxt X.prog X.K C fI F) (gC : X.mg x = some (.ref C)) (hmg : X.mg "super" = none) (hr : Room k X.A) (ha : PE X a ta) (hg : Gl X x)
    (he : starEach [a] X.env = (false, eval a X.env) :: starEach [] X.env) (hdb : (x == ("__debug__" : Str)) = false) :
    PMk X (.Call (.Name x p) [a] [] pos) (tMkE C F ta) := by
  intro pins s σ H Q I h
  refine wpAny_Call_Name_kw (ld_glob I hg gC ?_ hdb)
  refine PySem.W.callWith_K (h₀ := X.base) I.ok.mod.kin T.kC ?_ he (by rfl)
  rw [he]
  show wpAny _ _ (spliced ((false, eval a X.env) :: backTo pos (starEach [] X.env))) _ _ s
  refine Calls.spliced_cons (thn (ha.run pins s σ H _ I h) fun v' s1 ⟨v, H1, I1, rv, q1⟩ => ?_)
  refine Calls.spliced_nil ⟨I1.kIn, ?_⟩
  show wpAny _ _ (call (.ref C) [v']) _ _ _
  have hlim := I1.nolimit
  have MO := I1.mod
  have bk := I1.bk
  obtain ⟨hp, g, dr, tk, os⟩ := s1
  refine wpAny_call (eMade T I1.kIn MO bk hmg hlim (by have := hr.dp; omega) fun h' tk' e d M => ?_)
  show MkP X pins σ Q (.ref e) ⟨h', g, dr, tk', os⟩
  obtain ⟨oe, fv, hoe, hc, hd, hdat, h1⟩ := M.obj
  have hns := M.ns
  obtain ⟨G', g1, g2⟩ := restrict h' fun b => decide (b ≠ e)
  have gk : ∀ b, b ≠ e → G'.get? b = h'.get? b := fun b hb => g1 b (decide_eq_true hb)
  have ge : G'.get? e = none := g2 e (by simp)
  have old : ∀ b o, hp.get? b = some o → G'.get? b = some o := fun b o q => (gk b (Nat.ne_of_lt (Nat.lt_of_lt_of_le (Heap.lt_size q) M.new))).trans (M.keep b o q)
  have ob : ObjOk X.prog X.w (upd H1 d (.xd [(F, v)])) G' d (.xd [(F, v)]) :=
    ⟨_, hns.at (fun o q => (gk d M.dne).trans q), fun f => relO_one rv f⟩
  have J : Inv X pins σ (upd H1 d (.xd [(F, v)])) ⟨G', g, dr, tk', os⟩ := I1.laid (t' := tk') old M.dbig ob
  refine ⟨e, oe, fv, ⟨G', g, dr, tk', os⟩, _, .ref C, some d, rfl, J, fun b o q => ?_, ge, hoe, ⟨hc, hd⟩, hdat, h1, ?_, rfl, I1.bare, raises_own T.exC T.tyC, q1 d (I1.hok.fresh M.dbig)⟩
  · by_cases hb : b = e
    · have q' : G'.get? b = some o := q
      rw [hb, ge] at q'; cases q'
    · exact (gk b hb).symm.trans q
  · rw [upd_ne (Ne.symm M.dne)]
    exact I1.hok.fresh M.new
end
/-! ### raise -/
section
variable {w : Wd} {X : Cx} {F : Str} {C fI : Addr} {c : Nat}
def dRaise (c : Nat) (t : TED) : TSD := fun _ x σ M => t σ M (fun d M1 => x c [d] σ M1) x
theorem ds_raise {a : Expr} {ta : TED} {x : Str} {p pos pos2 : Pos} {k : Nat} (T : ErrTxt X.prog X.K C fI F) (hC : w.cls c = C) (hF : w.fld c = [F]) (gC : X.mg x = some (.ref C)) (hmg : X.mg "super" = none) (hr : Room k X.A) (hc : X.calm = true) (hfr : X.env.frame = some X.env.locals) (hg : Gl X x)
    (ha : DE w X a ta) (he : starEach [a] X.env = (false, eval a X.env) :: starEach [] X.env) (hdb : (x == ("__debug__" : Str)) = false) :
    DS w X (.Raise (some (.Call (.Name x p) [a] [] pos)) none pos2) (dRaise c ta) :=
  ⟨fun Wv tk => (ps_raise hc (Tk.takes hfr tk) (pmk_err T gC hmg hr (ha.run Wv tk) hg he hdb)).imp fun De σv H ⟨σ, ρ, M, k, xx, at_, hq, e, kx⟩ =>
    ⟨σ, ρ, M, _, xx, at_, hq, fun H1 ρ1 M1 d v e1 m1 r1 h1 dd hn => by
      have ef : Exs w H1 ρ1 M1 (upd H1 dd (.xd [(F, v)])) ρ1 M1 := Ext.fresh m1.hh hn rfl
      refine kx _ _ _ _ _ _ _ _ _ (e1.trans ef) ((at_.ext m1 e1).ext (m1.fresh hn) ef) ⟨by rw [hC], [v], by rw [hF]; rfl, .inr ⟨dd, rfl, ?_, ?_⟩, .cons (r1.ext ef) .nil⟩ h1
      · exact m1.notLv hn
      · rw [upd_same, hF]; rfl, kx⟩⟩
/-- an own error without own __init__ -/
def dRaise0 (c : Nat) (t : TED) : TSD := fun _ x σ M => t σ M (fun _ M1 => x c [] σ M1) x
theorem ds_raise0 {bmB : List Value} {B newId initId : String} {a : Expr} {ta : TED} {x : Str} {p pos pos2 : Pos} (F : ExcBaseFacts B newId initId bmB) (q : PySem.W.excIn X.K C bmB newId = true) (kC : PySem.W.keepIn X.K (.ref C) = true) (r : Raises X (.ref C)) (hC : w.cls c = C) (hF : w.fld c = []) (gC : X.mg x = some (.ref C))
    (hc : X.calm = true) (hfr : X.env.frame = some X.env.locals) (hg : Gl X x) (ha : DE w X a ta) (he : starEach [a] X.env = (false, eval a X.env) :: starEach [] X.env) (hdb : (x == ("__debug__" : Str)) = false) :
    DS w X (.Raise (some (.Call (.Name x p) [a] [] pos)) none pos2) (dRaise0 c ta) :=
  ⟨fun Wv tk => (ps_raise hc (Tk.takes hfr tk) (SkE.pmk_own1 F q gC kC r hg (ha.run Wv tk) he hdb)).imp fun De σv H ⟨σ, ρ, M, k, xx, at_, hq, e, kx⟩ =>
    ⟨σ, ρ, M, _, xx, at_, hq, fun H1 ρ1 M1 d v e1 m1 r1 h1 => kx _ _ _ _ _ _ _ _ _ e1 (at_.ext m1 e1) ⟨by rw [hC], [], by rw [hF]; rfl, .inl ⟨rfl, rfl⟩, .nil⟩ h1, kx⟩⟩
end
end TL
namespace TL
open PySem PySem.Spec PyProof.Rows L2
/-! ## try: .. except C as n: y = n — the error is kept -/
def wKeep (K : PySem.W.Frag) (c : Value) (i j : Nat) (Wout : WX) (De : Ends) : WX := fun cls d σ H =>
  ∃ b, PySem.W.exmOne K cls c = some b ∧ (b = true → ∀ a C, cls = .ref C → H a = none → De.nx ((σ.set j (some (.ref a))).set i none) (upd H a (ErrO C d a))) ∧ (b = false → Wout cls d σ H)
section
variable {X : Cx} {pins : List (Addr × Obj)} {σ : L2.St} {H : Hp} {s : Shared}
theorem Inv.keepErr {a C : Addr} {d : Option Addr} {oe : Obj} {vs : Array Value} (I : Inv X pins σ H s) (hx : X.ex = []) (n0 : X.s_0.heap.get? a = none) (ha : s.heap.get? a = some oe) (hz : Zc (.ref C) d oe) (hd : oe.data = .fields vs) (na : H a = none) (nL : a ≠ X.env.locals) (hp : ∀ p ∈ X.pn ++ pins, p.1 ≠ a) :
    Inv X pins σ (upd H a (ErrO C d a)) s := by
  have ne0 : ∀ b o, X.s_0.heap.get? b = some o → b ≠ a := fun b o e z => by rw [z, n0] at e; cases e
  refine ⟨I.ok, I.os, I.bare, ⟨I.base.keep, I.base.slot, fun b o e n hb => ?_, I.base.there, fun b xs e => ?_, fun b o u e => ?_, fun b ps e => ?_⟩, I.loc, I.cell, ?_, fun x c e => ?_, fun p hm => ?_, fun b u e => ?_, I.len⟩
  · rw [upd_ne (ne0 b o e)]; exact I.base.free b o e n hb
  · have q := I.base.tups b xs e; rw [upd_ne (ne_of_none q na)]; exact q
  · have q := I.base.frzs b o u e; rw [upd_ne (ne_of_none q na)]; exact q
  · obtain ⟨m, q⟩ := I.base.tbls b ps e; exact ⟨m, by rw [upd_ne (ne_of_none q na)]; exact q⟩
  · rw [upd_ne (Ne.symm nL)]; exact I.free
  · have hc : c ≠ a := fun z => by
      obtain ⟨v, o, ho, hv⟩ := I.cell x c e
      rw [z, ha] at ho
      cases ho
      rw [hd] at hv; cases hv
    rw [upd_ne hc]; exact I.freeC x c e
  · obtain ⟨e, n, ne, nf, dd⟩ := I.pin p hm
    exact ⟨e, by rw [upd_ne (hp p hm)]; exact n, ne, nf, dd⟩
  · by_cases hb : b = a
    · subst hb
      rw [upd_same] at e
      cases e
      refine ⟨⟨oe, vs, ha, hz.1, hz.2, hd⟩, ⟨oe, ha⟩, fun h1 h2 ⟨o, v, q, r⟩ k => ⟨o, v, k o q, r⟩⟩
    · rw [upd_ne hb] at e
      exact (I.hok b u e).stay (fun c v _ q => q) (fun c q => by rw [upd_ne (ne_of_none q na)]; exact q) fun c xs q => by rw [upd_ne (ne_of_none q na)]; exact q
theorem Sky.new {B : Heap} {l : List Env} {a L : Addr} {Z : Obj → Prop} {h : Heap} (x : Sky B l a Z L h) : B.get? a = none := by
  rcases x with ⟨_, h, _⟩ | h | h
  · exact h
  · exact h.2.1
  · exact h.2.1
end
section
variable {X : Cx} {x n y : Str} {c : Value} {i j : Nat} {body : List Stmt} {np pn1 pn2 pp pos pos' : Pos} {tb : WX → TS} {Wout : WX}
theorem ps_try_keep (hs : X.stack = X.env :: X.outer) (hf : X.env.frame = some X.env.locals) (hN : X.N.Nodup) (hi : X.N[i]? = some n) (hln : X.env.kindOf n = some .local) (hj : X.N[j]? = some y) (hly : X.env.kindOf y = some .local) (hx : X.ex = []) (hc : Names X x c) (tk : Takes X Wout)
    (hdn : (n == ("__debug__" : Str)) = false) (hcn : (n == ("__classdict__" : Str)) = false) (hsw : swapsWith (.Name n pn2) (some (.Name y pn1)) pp.line X.env = pure false)
    (hown : ∀ cls b, PySem.W.exmOne X.K cls c = some b → b = true → ∃ C, cls = .ref C)
    (hb : ∀ (W : WX) (pn : List (Addr × Obj)) (xe : Value → Shared → Prop), Takes (X.tr pn xe) W → PassesOwn (model X.prog X.w) X.A X.env xe → PSs (X.tr pn xe) body (tb W)) :
    PS X (.Try body [.ExceptHandler (some (.Name x np)) (some n) [.Assign [.Name y pn1] (.Name n pn2) pp] pos'] [] [] pos) (fun De σ H => tb (wKeep X.K c i j Wout De) De σ H) := by
  refine ⟨fun pins s σ H De I h => ?_⟩
  have ok := I.ok
  have hfr : X.A.frames = some (X.env :: X.outer) := by rw [ok.frames, hs]
  have hloc : Loc X.env.scope n := .inl hln
  refine wpAny_Try_except ?_
  refine wpAny_mono ((hb (wKeep X.K c i j Wout De) (X.pn ++ pins) (fun e s₁ => wpAny (model X.prog X.w) X.A (noteFrame e X.env) (fun _ s₂ => wpAny (model X.prog X.w) X.A (setFlight e none) (fun _ s₃ =>
    wpAny (model X.prog X.w) X.A (handleBy e X.env [.ExceptHandler (some (.Name x np)) (some n) [.Assign [.Name y pn1] (.Name n pn2) pp] pos']) (SP X pins De) X.xe s₃) X.xe s₂) X.xe s₁) (fun u s' xx => ?_) PassesOwn.looking).run [] s σ H De (I.toTry _) h) (fun f s1 hsp => ?_) (fun e s1 he => he)
  · -- the catch
    obtain ⟨a, B, sI, pins', σ', H', cls, d, rfl, J', nb, up, sky, na, os, ag, b, hb1, hyes, hno⟩ := xx
    have J : Inv X pins σ' H' sI := J'.ofTry ok
    have nb : ∀ b o, sI.heap.get? b = some o → b ∉ frs X.stack → B.get? b = some o := nb
    have sky' : Sky B (X.env :: X.outer) a (Zc cls d) X.env.locals s'.heap := by rw [← hs]; exact sky
    have hBa := Sky.new sky'
    show wpAny (model X.prog X.w) X.A (noteFrame (.ref a) X.env) _ _ _
    refine Sky.land Zc.steady hfr hf sky' fun h3 fl3 up3 => ?_
    have J3 : Inv X pins σ' H' { s' with heap := h3 } := J.landed nb fl3.1 (up.trans up3) os ag
    obtain ⟨oe3, vs3, he3, hz3, hd3⟩ := fl3.there
    have notFr : ∀ {h : Heap} {o : Obj} {vs : Array Value}, h.FunFrames B (X.env :: X.outer) → h.get? a = some o → o.data = .fields vs → a ∉ frs (X.env :: X.outer) := fun {h o vs} ff e dd hm => by
      obtain ⟨_, o', e', hnf⟩ := ff.mem hm
      rw [e] at e'; cases e'
      exact hnf _ dd
    have nfr := notFr fl3.2.2.1 he3 hd3
    have hIa : sI.heap.get? a = none := by
      cases q : sI.heap.get? a with
      | none => rfl
      | some o =>
        have z := nb a o q (by rw [hs]; exact nfr)
        rw [hBa] at z; cases z
    have n0 : X.s_0.heap.get? a = none := by
      cases q : X.s_0.heap.get? a with
      | none => rfl
      | some o =>
        obtain ⟨o', z⟩ := J.base.there a o q (by rw [hx]; simp)
        rw [hIa] at z; cases z
    have np' : ∀ p ∈ X.pn ++ pins, p.1 ≠ a := fun p hp z => by
      have q := (J.pin p hp).1
      rw [z, hIa] at q; cases q
    have nL : a ≠ X.env.locals := fun z => nfr (List.mem_filterMap.mpr ⟨X.env, List.mem_cons_self, by rw [hf, z]⟩)
    have nF : a ∉ X.fs := fun hm => by
      obtain ⟨e, he, q⟩ := List.mem_filterMap.mp hm
      exact nfr (List.mem_filterMap.mpr ⟨e, List.mem_cons_of_mem _ he, q⟩)
    have S3 := J3.suite he3 hd3 na nL nF
    refine wpAny_handleBy_cons (codeAny_handlers_test ?_) (by intro q; cases q)
    have LT : PySem.W.Looks (model X.prog X.w) h3 (typeOf (.ref a)) cls := fun A Q E s k q => wpAny_typeOf_ref (k _ _ he3) (by rw [hz3.1]; exact q)
    have LM := PySem.W.exm_one (M := model X.prog X.w) (J3.kIn) LT hb1
    have test : ∀ {Q : Value → Shared → Prop} {E : Value → Shared → Prop}, Q c { s' with heap := h3 } → wpAny (model X.prog X.w) (X.A.mark (some (.ref a))) (eval (.Name x np) X.env) Q E { s' with heap := h3 } := fun {Q E} q => by
      obtain ⟨hg, hdbg, hm | ⟨hm, hv, hnn⟩⟩ := hc
      · exact ld_glob (X := X.suite a ((a, oe3) :: (X.pn ++ pins))) S3 hg hm q hdbg
      · exact ld_blt (X := X.suite a ((a, oe3) :: (X.pn ++ pins))) S3 hg hm hv q hnn hdbg
    refine test (LM.here ?_)
    cases b with
    | true =>
      obtain ⟨C, eC⟩ := hown _ _ hb1 rfl
      refine codeAny_handlers_suite_as ?_
      refine HandSPX.lands_againZ fl3 fun h4 fl4 up4 => ?_
      have J4 : Inv X pins σ' H' { s' with heap := h4 } := J.landed nb fl4.1 ((up.trans up3).trans up4) os ag
      obtain ⟨oe4, vs4, he4, hz4, hd4⟩ := fl4.there
      have S4 := J4.suite he4 hd4 na nL nF
      refine store_ok (X := X.suite a ((a, oe4) :: (X.pn ++ pins))) (v := .ref a) S4 hN hi hloc rfl (fun s5 S5 => ?_) (.inr hln)
      have hil : i < σ'.length := by rw [J.len]; exact (List.getElem?_eq_some_iff.mp hi).1
      have st := pss_cons (X := X.suite a ((a, oe4) :: (X.pn ++ pins))) (ps_set (X := X.suite a ((a, oe4) :: (X.pn ++ pins))) (pos := pp) (pos' := pn1) hN hj (.inl hly) (pe_var (X := X.suite a ((a, oe4) :: (X.pn ++ pins))) (pos := pn2) hi (.inl hln) hdn hcn) hsw (.inr hly)) pss_nil
      refine wpAny_mono (st.run [] s5 _ H' { nx := fun σ6 H6 => σ6 = ((σ'.set i (some (.ref a))).set j (some (.ref a))) ∧ H6 = H', rt := fun _ _ => False } S5 ⟨.ref a, List.getElem?_set_self hil, rfl, rfl⟩) (fun f s6 hsp => ?_) (fun _ _ z => False.elim z)
      cases f with
      | next =>
        obtain ⟨σ6, H6, S6, e6, e6'⟩ := hsp
        subst e6 e6'
        have pa := S6.pin (a, oe4) (List.mem_append_left _ List.mem_cons_self)
        have J6 : Inv X pins _ _ s6 := S6.unsuite ok
        have J6' : Inv X ((a, oe4) :: pins) ((σ'.set i (some (.ref a))).set j (some (.ref a))) H6 s6 := J6.pins_of fun p hp => by
          rcases List.mem_cons.mp hp with e | hp
          · subst e; exact pa
          · exact J6.pin p (List.mem_append_right _ hp)
        refine gone_ok J6' hN hi hln fun s7 J7 => ?_
        have p7 := J7.pin (a, oe4) (List.mem_append_right _ List.mem_cons_self)
        have J8 : Inv X pins _ _ s7 := J7.pins_of fun p hp => J7.pin p (List.mem_append_right _ (List.mem_cons_of_mem _ hp))
        have J9 := Inv.keepErr (C := C) (d := d) J8 hx n0 p7.1 (eC ▸ hz4) hd4 na nL np'
        refine ⟨_, _, J9, ?_⟩
        have e9 : (((σ'.set i (some (V.ref a))).set j (some (.ref a))).set i none) = (σ'.set j (some (.ref a))).set i none := by
          by_cases hij : i = j
          · subst hij; simp
          · rw [List.set_comm _ _ (Ne.symm hij), List.set_set, List.set_comm _ _ hij]
        rw [e9]
        exact hyes rfl a C eC na
      | brk => obtain ⟨_, _, _, z⟩ := hsp; exact z.elim
      | cont => obtain ⟨_, _, _, z⟩ := hsp; exact z.elim
      | ret u => obtain ⟨_, _, _, _, _, z⟩ := hsp; exact z.elim
    | false =>
      show wpAny _ X.A (handleBy (.ref a) X.env []) _ _ _
      refine wpAny_handleBy_nil ?_
      obtain ⟨k1, k2, k3, oe, vs, T, oT, ts', he, hz, hd, h1, hr⟩ := id fl3
      unfold PySem.passOn
      refine wpAny_bind (wpAny_field he hd h1 ?_)
      rw [if_neg (show ¬ ((Value.ref T == Value.none) = true) from by simp)]
      have fin : wpAny (model X.prog X.w) X.A (setFlight (.ref a) X.env.frame) (fun _ s4 => wpAny (model X.prog X.w) X.A (throw (.ref a) : Sem Flow) (SP X pins De) X.xe s4) X.xe { s' with heap := h3 } := by
        rw [hf]
        refine HandSPX.setFlight_upZ fl3 fun h4 hh4 up4 => wpAny_throw (tk _ _ ?_)
        exact ⟨a, B, sI, pins, σ', H', cls, d, rfl, J, nb, (up.trans up3).trans up4, .inr (.inr (by rw [hs]; exact hh4)), na, os, ag, hno rfl⟩
      first
        | exact wpAny_bind (wpAny_pure (wpAny_bind fin))
        | exact wpAny_bind fin
  · cases f with
    | next =>
      obtain ⟨σ', H', J', q⟩ := hsp
      exact wpAny_execs_nil ⟨σ', H', J'.ofTry ok, q⟩
    | brk =>
      obtain ⟨σ', H', J', q⟩ := hsp
      exact ⟨σ', H', J'.ofTry ok, q⟩
    | cont =>
      obtain ⟨σ', H', J', q⟩ := hsp
      exact ⟨σ', H', J'.ofTry ok, q⟩
    | ret u =>
      obtain ⟨v, σ', H', J', r, q⟩ := hsp
      exact ⟨v, σ', H', J'.ofTry ok, r, q⟩
end
section
variable {w : Wd} {X : Cx} {x n y : Str} {cv : Value} {i j : Nat} {body : List Stmt} {np pn1 pn2 pp pos pos' : Pos} {tb : TSD} {cok : Nat → Bool}
def dTryKeep (i j : Nat) (cok : Nat → Bool) (tb : TSD) : TSD := fun k x σ M => tb k (fun c ds σ1 M1 => if cok c = true then k.nx ((σ1.set j (some (.err c ds))).set i none) M1 else x c ds σ1 M1) σ M
theorem RepS.none {H : Hp} {ρ : List Addr} {L : Addr → Prop} {σ : Std} {σv : L2.St} (s : RepS w.toWc H ρ L σ σv) (i : Nat) : RepS w.toWc H ρ L (σ.set i none) (σv.set i none) :=
  ⟨by simp [s.len], fun j d e => by
    by_cases hj : j = i
    · subst hj
      by_cases hl : j < σ.length
      · rw [List.getElem?_set_self hl] at e; cases e
      · rw [List.getElem?_eq_none (by simpa using hl)] at e; cases e
    · rw [List.getElem?_set_ne (Ne.symm hj)] at e ⊢
      exact s.at_ j d e⟩
theorem ds_try_keep (hs : X.stack = X.env :: X.outer) (hf : X.env.frame = some X.env.locals) (hN : X.N.Nodup) (hi : X.N[i]? = some n) (hln : X.env.kindOf n = some .local) (hj : X.N[j]? = some y) (hly : X.env.kindOf y = some .local) (hx : X.ex = []) (hc : Names X x cv)
    (hdn : (n == ("__debug__" : Str)) = false) (hcn : (n == ("__classdict__" : Str)) = false) (hsw : swapsWith (.Name n pn2) (some (.Name y pn1)) pp.line X.env = pure false)
    (hown : ∀ cls b, PySem.W.exmOne X.K cls cv = some b → b = true → ∃ C, cls = .ref C) (hcok : ∀ c, PySem.W.exmOne X.K (.ref (w.cls c)) cv = some (cok c))
    (hb : ∀ (pn : List (Addr × Obj)) (xe : Value → Shared → Prop), PassesOwn (model X.prog X.w) X.A X.env xe → DSs w (X.tr pn xe) body tb) :
    DS w X (.Try body [.ExceptHandler (some (.Name x np)) (some n) [.Assign [.Name y pn1] (.Name n pn2) pp] pos'] [] [] pos) (dTryKeep i j cok tb) :=
  ⟨fun Wv tk => (ps_try_keep (tb := fun W => lS w W tb) hs hf hN hi hln hj hly hx hc (Tk.takes hf tk) hdn hcn hsw hown fun W pn xe tkw hp => (hb pn xe hp).run W (Tk.of hf tkw)).imp fun De σv H ⟨σ, ρ, M, k, xx, a, hq, e, kx⟩ => by
    refine ⟨σ, ρ, M, k, _, a, hq, e, fun H' ρ' M' c ds cl dd σ' σv' e' a' ⟨r1, vs, r2, r3, r4⟩ h => ?_⟩
    refine ⟨cok c, r1 ▸ hcok c, fun hc' aa C eC na => ?_, fun hc' => ?_⟩
    · simp only [hc', if_true] at h
      rw [r1] at eC
      obtain rfl : w.cls c = C := by cases eC; rfl
      have ef : Exs w H' ρ' M' (upd H' aa (ErrO (w.cls c) dd aa)) ρ' M' := Ext.fresh a'.m.hh na rfl
      have m2 := a'.m.fresh (o := ErrO (w.cls c) dd aa) na
      have rr : Rp w (upd H' aa (ErrO (w.cls c) dd aa)) ρ' M' (.err c ds) (.ref aa) := .err upd_same (a'.m.notLv na) r2 (r3.imp id fun ⟨d, e1, n1, h1⟩ => ⟨d, e1, n1, by rw [upd_ne (ne_of_none h1 na)]; exact h1⟩) (r4.ext ef)
      exact e.nx _ _ _ _ _ (e'.trans ef) ⟨m2, ((a'.s.ext ef).set rr j).none i⟩ h
    · simp only [hc', Bool.false_eq_true, if_false] at h
      exact kx _ _ _ _ _ _ _ _ _ e' a' ⟨r1, vs, r2, r3, r4⟩ h⟩
/-! ### try: .. except C: one statement that only returns a bool, none -/
end
end TL
namespace L2
open PySem PySem.Spec PyProof.Rows
theorem tuple_mul1 (l : Addr) (items : Array Value) (n : Nat) (dd : Option Addr) (sl : Array (Option Value)) (x : Int) (u : Tok) (c0 : (decide (x < -(2 ^ 63)) || decide (x ≥ 2 ^ 63)) = false) (c1 : (items.isEmpty || x == 1) = true) :
    Meets (Builtin.«tuple.__mul__» ⟨[.ref l, .int x u], []⟩) (fun _ R s => s.heap.get? l = some { cls := .type "tuple", dict := dd, data := .seq items n, slots := sl } ∧
      R (.ok (.ret (Value.ref l))) s) :=
  .of_wp fun prog w A R s h => by
    obtain ⟨hp, g, d, tk, os⟩ := s
    obtain ⟨hl, h⟩ := h
    have f1 := AutoSeq1.idx_int
    wp_walk using wpAny_loadPart' hl
    repeat (first
      | (refine wpAny_ite_false (decide_eq_false (by rw [c0]; exact Bool.false_ne_true)) ?_; wp_walk using wpAny_loadPart' hl)
      | (refine wpAny_ite_true (decide_eq_true c1) ?_; wp_walk using wpAny_loadPart' hl))
    exact ⟨_, rfl, h⟩
theorem tuple_mul0 (l : Addr) (items : Array Value) (n : Nat) (dd : Option Addr) (sl : Array (Option Value)) (x : Int) (u : Tok) (c0 : (decide (x < -(2 ^ 63)) || decide (x ≥ 2 ^ 63)) = false) (c1 : (items.isEmpty || x == 1) = false) (c2 : (decide (x ≤ 0) || items.isEmpty) = true) :
    Meets (Builtin.«tuple.__mul__» ⟨[.ref l, .int x u], []⟩) (fun _ R s => s.heap.get? l = some { cls := .type "tuple", dict := dd, data := .seq items n, slots := sl } ∧
      R (.ok (.ret (Value.ref s.heap.objs.size))) { s with heap := s.heap.push { cls := Value.type "tuple", data := Data.seq #[] }, toks := s.toks }) :=
  .of_wp fun prog w A R s h => by
    obtain ⟨hp, g, d, tk, os⟩ := s
    obtain ⟨hl, h⟩ := h
    have f1 := AutoSeq1.idx_int
    wp_walk using wpAny_loadPart' hl
    repeat (first
      | (refine wpAny_ite_false (decide_eq_false (by rw [c0]; exact Bool.false_ne_true)) ?_; wp_walk using wpAny_loadPart' hl)
      | (refine wpAny_ite_false (decide_eq_false (by rw [c1]; exact Bool.false_ne_true)) ?_; wp_walk using wpAny_loadPart' hl)
      | (refine wpAny_ite_true (decide_eq_true c2) ?_; wp_walk using wpAny_loadPart' hl))
    exact ⟨_, rfl, h⟩
section
variable {X : Cx}
def rRepA (K : PySem.W.Frag) : R2 := fun x y H Q => ∃ l k xs, x = .ref l ∧ y = .int k ∧ SqT K H l xs ∧ k ≤ 1000 ∧ -1000 ≤ k ∧ xs.length ≤ 1000 ∧ (xs = [] ∨ k = 1 → Q (.ref l) H) ∧ ∀ p, H p = none → Q (.ref p) (upd H p (.tup (List.replicate k.toNat xs).flatten))
theorem op_repA : OpR X (binaryOp .Mult) (rRepA X.K) := by
  intro pins s σ H x y v u Q I rx ry h
  obtain ⟨l, k, xs, rfl, rfl, hT, h2, h1, hz, q1, q⟩ := h
  have c0 : (decide (k < -(2 ^ 63)) || decide (k ≥ 2 ^ 63)) = false := by
    rw [decide_eq_false (by omega), decide_eq_false (by omega)] <;> rfl
  by_cases hone : xs = [] ∨ k = 1
  · cases rx
    obtain ⟨t, rfl⟩ := ry
    obtain ⟨its, r, ⟨⟨cls, dd, data, sl⟩, ho, hc, n, hd⟩, hs⟩ := I.tuple hT
    simp only at hc hd
    subst hc hd
    have c1 : (its.toArray.isEmpty || k == 1) = true := by
      rcases hone with e | e
      · subst e
        cases r
        rfl
      · subst e; simp
    exact wpAny_binaryOp_repeat_ref (T := "tuple") (U := "int") (by decide) ⟨_, ho, rfl⟩ (fun s' => typeIs_int s' k t) noFill_tuple_mul F.fills_int_mul F.slot_int_rmul repeat_tuple F.slot_int_index.lookup
      (call_meets F.slot_int_rmul (typeIs_int s k t) F.entry_int_rmul (F.args_int_rmul_2 _ _) (int_rmul_tuple k t l its.toArray n dd sl)
        ⟨ho, rfl, ⟨_, ho, rfl⟩, call_meets F.slot_tuple_mul ⟨_, ho, rfl⟩ F.entry_tuple_mul (F.args_tuple_mul_2 _ _) (tuple_mul1 l its.toArray n dd sl k t c0 c1) ⟨ho, .ref l, H, I, rfl, q1 hone⟩⟩)
  · have hne : xs ≠ [] := fun e => hone (.inl e)
    have hk1 : k ≠ 1 := fun e => hone (.inr e)
    by_cases h0 : k ≤ 0
    · cases rx
      obtain ⟨t, rfl⟩ := ry
      obtain ⟨its, r, ⟨⟨cls, dd, data, sl⟩, ho, hc, n, hd⟩, hs⟩ := I.tuple hT
      simp only at hc hd
      subst hc hd
      have hi : its.toArray.isEmpty = false := by
        cases r with
        | nil => exact absurd rfl hne
        | cons a b => rfl
      have c1 : (its.toArray.isEmpty || k == 1) = false := by
        rw [hi, Bool.false_or]
        exact beq_eq_false_iff_ne.mpr hk1
      have c2 : (decide (k ≤ 0) || its.toArray.isEmpty) = true := by simp [h0]
      refine wpAny_binaryOp_repeat_ref (T := "tuple") (U := "int") (by decide) ⟨_, ho, rfl⟩ (fun s' => typeIs_int s' k t) noFill_tuple_mul F.fills_int_mul F.slot_int_rmul repeat_tuple F.slot_int_index.lookup
        (call_meets F.slot_int_rmul (typeIs_int s k t) F.entry_int_rmul (F.args_int_rmul_2 _ _) (int_rmul_tuple k t l its.toArray n dd sl)
          ⟨ho, rfl, ⟨_, ho, rfl⟩, call_meets F.slot_tuple_mul ⟨_, ho, rfl⟩ F.entry_tuple_mul (F.args_tuple_mul_2 _ _) (tuple_mul0 l its.toArray n dd sl k t c0 c1 c2) ⟨ho, ?_⟩⟩)
      have e0 : k.toNat = 0 := by omega
      rw [e0] at q
      refine ⟨.ref s.heap.objs.size, _, I.laid (t' := s.toks) (o := .tup []) (fun b ob q => Heap.get?_push_of_some _ q) (Nat.le_refl _) ?_, rfl, q _ (I.hok.fresh (Nat.le_refl _))⟩
      exact ⟨Nat.zero_le _, [], .nil, IsTup.new _ _⟩
    · exact op_repT pins s σ H _ _ v u Q I rx ry ⟨l, k, xs, rfl, rfl, hT, hne, by omega, h2, hz, q⟩
/-- t[::-1] -/
theorem op_catL : OpR X (binaryOp .Add) (fun x y H Q => ∃ l b xs zs, x = .ref l ∧ y = .ref b ∧ Rd H l (.lst xs) ∧ Rd H b (.lst zs) ∧ xs.length + zs.length ≤ sizeLine ∧ ∀ p, H p = none → Q (.ref p) (upd H p (.lst (xs ++ zs)))) := by
  intro pins s σ H x y v u Q I rx ry h
  obtain ⟨l, b, xs, zs, rfl, rfl, hH, hB, hz, q⟩ := h
  cases rx
  cases ry
  obtain ⟨z, its, n, r, e⟩ := hH.ok I.hok
  obtain ⟨z2, its2, n2, r2, e2⟩ := hB.ok I.hok
  refine PySem.P.add_list e e2 ?_ (by rw [List.size_toArray, List.size_toArray, ← r.length, ← r2.length]; omega)
  have ea : its.toArray ++ its2.toArray = (its ++ its2).toArray := by simp
  rw [ea]
  exact ⟨.ref _, _, I.lnew (t' := s.toks) (r.append r2) (by rw [List.length_append]; omega), rfl, q _ I.fresh⟩
end
end L2
namespace L2
open PySem PySem.Spec PyProof.Rows
namespace HT2
section
variable {prog : Program} {w : World} {A : Around} {E : Value → Shared → Prop} {s : Shared}
theorem rev_pick (xs : List Value) : ((List.range xs.length).filterMap fun (k : Nat) => xs.toArray[(((xs.length : Nat) : Int) - 1 + (k : Int) * (-1)).toNat]?) = xs.reverse := by
  apply List.ext_getElem?
  intro i
  by_cases hi : i < xs.length
  · have e : ((List.range xs.length).filterMap fun (k : Nat) => xs.toArray[(((xs.length : Nat) : Int) - 1 + (k : Int) * (-1)).toNat]?) = (List.range xs.length).map fun k => xs[xs.length - 1 - k]?.getD Value.none := by
      have key : ∀ (l : List Nat), (∀ k ∈ l, k < xs.length) → (l.filterMap fun (k : Nat) => xs.toArray[(((xs.length : Nat) : Int) - 1 + (k : Int) * (-1)).toNat]?) = l.map fun k => xs[xs.length - 1 - k]?.getD Value.none := by
        intro l
        induction l with
        | nil => intro _; rfl
        | cons k l ih =>
          intro h
          have hk := h k (by simp)
          have e1 : (((xs.length : Nat) : Int) - 1 + (k : Int) * (-1)).toNat = xs.length - 1 - k := by omega
          have h2 : xs.length - 1 - k < xs.length := by omega
          have e3 : xs.toArray[(((xs.length : Nat) : Int) - 1 + (k : Int) * (-1)).toNat]? = some (xs[xs.length - 1 - k]'h2) := by rw [e1]; simp [h2]
          rw [List.filterMap_cons, List.map_cons, ih fun j hj => h j (by simp [hj]), e3]
          simp [h2]
      exact key _ fun k hk => List.mem_range.mp hk
    rw [e, List.getElem?_map, List.getElem?_range hi, List.getElem?_reverse hi]
    have h2 : xs.length - 1 - i < xs.length := by omega
    simp [h2]
  · have h1 : xs.reverse[i]? = none := by simp; omega
    rw [h1]
    apply List.getElem?_eq_none
    refine Nat.le_trans (List.length_filterMap_le _ _) ?_
    rw [List.length_range]; omega
theorem getItem_tuple_rev {t sl : Addr} {its : List Value} {vl vu vs : Value} {Q : Value → Shared → Prop} (ht : IsTup s.heap t its.toArray) (hs : s.heap.IsSliceOf sl vl vu vs) (pl : IsPart vl none) (pu : IsPart vu none) (ps : IsPart vs (some (-1)))
    (h : Q (.ref s.heap.objs.size) { s with heap := s.heap.push { cls := .type "tuple", data := .seq its.reverse.toArray } }) (hsz : its.length ≤ sizeLine) : wpAny (model prog w) A (getItem (.ref t) (.ref sl)) Q E s := by
  have htake : sizeOk (.seq its.reverse.toArray) := by
    show its.reverse.toArray.size ≤ sizeLine
    rw [List.size_toArray, List.length_reverse]
    exact hsz
  obtain ⟨os, hos, hcs, hds⟩ := id hs
  have hTs : s.TypeIs (.ref sl) "slice" := ⟨os, hos, hcs⟩
  unfold getItem
  try with_reducible refine wpAny_holding ?_
  first | refine wpAny_bind (wpAny_pure ?_) | skip
  refine wpAny_bind (wpAny_sequenceKey ht.typeIs (by decide) ?_)
  refine wpAny_bind (wpAny_callSpecial?_slot (name := Str.ofString "__getitem__") ht.typeIs PyProof.Rows.slot_tuple_getitem
    (wpAny_call_entry PyProof.Rows.slot_tuple_getitem ht.typeIs entry_tuple_getitem ?_ (args_tuple_getitem _ _)))
  show wpAny _ _ (Builtin.Tuple.tupleItemsOf (.ref t) >>= _) _ _ s
  refine wpAny_bind (PyProof.Rows.tupleItemsOf_ ht ?_)
  refine wpAny_bind (wpAny_typeOf hTs ?_)
  rw [if_pos (by decide)]
  have app : ∀ {Q : Int × Int × Nat → Shared → Prop} {E : Value → Shared → Prop} {A : Around}, Q (((its.length : Nat) : Int) - 1, -1, its.length) s → wpAny (model prog w) A (Builtin.Slice.sliceApplied (.ref sl) (pure (its.toArray.size : Int))) Q E s := by
    intro Q E A h
    unfold Builtin.Slice.sliceApplied Builtin.Slice.sliceFields
    refine wpAny_bind (wpAny_bind (wpAny_field hos hds (x := vl) rfl (wpAny_bind (wpAny_field hos hds (x := vu) rfl (wpAny_bind (wpAny_field hos hds (x := vs) rfl (wpAny_pure ?_)))))))
    refine wpAny_bind (HT.slicePart_ ps ?_)
    show wpAny _ _ (if ((-1 : Int) == 0) = true then _ else _) _ _ s
    rw [if_neg (by decide)]
    refine wpAny_bind (HT.slicePart_ pl (wpAny_bind (HT.slicePart_ pu (wpAny_bind (wpAny_pure ?_)))))
    show wpAny _ _ (pure (((its.toArray.size : Nat) : Int) - 1, (-1 : Int), Builtin.Slice.slicePlaces (((its.toArray.size : Nat) : Int) - 1) (-1) (-1))) _ _ s
    have e : Builtin.Slice.slicePlaces (((its.toArray.size : Nat) : Int) - 1) (-1) (-1) = its.length := by
      unfold Builtin.Slice.slicePlaces
      rw [if_neg (by decide), List.size_toArray]
      have e1 : (- -1 : Int) = 1 := by decide
      rw [e1, Int.ediv_one]
      split <;> omega
    rw [e, List.size_toArray]
    exact wpAny_pure h
  refine wpAny_bind (app ?_)
  have hno : ¬ (((((its.length : Nat) : Int) - 1) == 0 && (-1 : Int) == 1 && its.length == its.toArray.size) = true) := by
    intro q
    rw [Bool.and_eq_true, Bool.and_eq_true] at q
    exact absurd q.1.2 (by decide)
  show wpAny _ _ (if ((((its.length : Nat) : Int) - 1) == 0 && (-1 : Int) == 1 && its.length == its.toArray.size) = true then _ else _) _ _ s
  rw [if_neg hno, rev_pick]
  first
    | exact wpAny_bind (m := Builtin.Tuple.tupleExact _) (wpAny_newObj_type (wpAny_pure ⟨_, rfl, wpAny_pure h⟩) htake)
    | exact wpAny_bind (m := Builtin.Tuple.tupleExact _) (wpAny_newObj_type (wpAny_bind (wpAny_pure (wpAny_pure ⟨_, rfl, wpAny_pure h⟩))) htake)
end
end HT2
section
variable {X : Cx}
def tRevA (K : PySem.W.Frag) (te : TE) : TE := fun σ H Q => te σ H fun x H1 => ∃ a xs, x = .ref a ∧ ((SqL K H1 a xs ∧ ∀ p, H1 p = none → Q (.ref p) (upd H1 p (.lst xs.reverse))) ∨ (SqT K H1 a xs ∧ ∀ p, H1 p = none → Q (.ref p) (upd H1 p (.tup xs.reverse))))
theorem pe_revA {e : Expr} {te : TE} {k : Nat} {p1 p2 p3 pos : Pos} (he : PE X e te) : PE X (.Subscript e (.Slice none none (some (.UnaryOp .USub (.Constant (.int 1) k p1) p2)) p3) pos) (tRevA X.K te) := by
  refine ⟨fun pins s σ H Q I h => ?_⟩
  refine Subscript_ (thn (he.run pins s σ H _ I h) fun v s1 ⟨x, H1, I1, r1, q1⟩ => ?_)
  obtain ⟨a, xs, ex, q⟩ := q1
  subst ex
  cases r1
  have hst : PO X (some (.UnaryOp .USub (.Constant (.int 1) k p1) p2)) (tPart (tUn (rU fun i => .int (-i)) (tC (.int 1)))) := po_some (pe_un un_neg pe_int)
  refine wpAny_Slice (thn (po_none.run pins s1 σ H1 (fun o H2 => o = none ∧ H2 = H1) I1 ⟨rfl, rfl⟩) fun vl s2 ⟨l, H2, I2, pl, el, e2⟩ => ?_)
  subst el e2
  refine thn (po_none.run pins s2 σ H2 (fun o H3 => o = none ∧ H3 = H2) I2 ⟨rfl, rfl⟩) fun vu s3 ⟨u, H3, I3, pu, eu, e3⟩ => ?_
  subst eu e3
  refine thn (hst.run pins s3 σ H3 (fun o H4 => o = some (-1) ∧ H4 = H3) I3 ⟨1, rfl, -1, rfl, rfl, rfl⟩) fun vs s4 ⟨o, H4, I4, ps, eo, e4⟩ => ?_
  subst eo e4
  have I5 : Inv X pins σ H4 { s4 with heap := s4.heap.push { cls := .type "slice", data := .fields #[vl, vu, vs] } } := I4.kept (t' := s4.toks) fun b ob q => Heap.get?_push_of_some _ q
  rcases q with ⟨hx, q⟩ | ⟨hx, q⟩
  · obtain ⟨its, r, ht, hz⟩ := I5.list hx
    have hlen := r.length
    show wpAny (model X.prog X.w) X.A (subscriptTail e (.Slice none none (some (.UnaryOp .USub (.Constant (.int 1) k p1) p2)) p3) (.ref a) (.ref s4.heap.objs.size)) (EP X pins σ Q) X.xe { s4 with heap := s4.heap.push { cls := .type "slice", data := .fields #[vl, vu, vs] } }
    refine tail_any (ops := [.ref a, .ref s4.heap.objs.size]) ht.isList.typeIs (PySem.slot_list_getitem.lookup) ?_ (by with_unfolding_all rfl)
    refine wpAny_getItem_list_slice ht.isList (Heap.IsSliceOf.new _ vl vu vs) pl pu ps (by decide) ?_ (by rw [List.size_toArray]; omega)
    rw [PySem.W.krv_pick]
    refine ⟨.ref _, _, I5.laid (t' := s4.toks) (o := .lst xs.reverse) (fun b ob q => Heap.get?_push_of_some _ q) (Nat.le_refl _) ?_, rfl, q _ (I5.hok.fresh (Nat.le_refl _))⟩
    exact ⟨by rw [List.length_reverse]; exact hz, _, 0, r.reverse, Heap.get?_push_size _ rfl⟩
  · obtain ⟨its, r, ht, hz⟩ := I5.tuple hx
    have hlen := r.length
    show wpAny (model X.prog X.w) X.A (subscriptTail e (.Slice none none (some (.UnaryOp .USub (.Constant (.int 1) k p1) p2)) p3) (.ref a) (.ref s4.heap.objs.size)) (EP X pins σ Q) X.xe { s4 with heap := s4.heap.push { cls := .type "slice", data := .fields #[vl, vu, vs] } }
    refine tail_any (ops := [.ref a, .ref s4.heap.objs.size]) ht.typeIs (PyProof.Rows.slot_tuple_getitem.lookup) ?_ (by with_unfolding_all rfl)
    refine HT2.getItem_tuple_rev ht (Heap.IsSliceOf.new _ vl vu vs) pl pu ps ?_ (by omega)
    refine ⟨.ref _, _, I5.laid (t' := s4.toks) (o := .tup xs.reverse) (fun b ob q => Heap.get?_push_of_some _ q) (Nat.le_refl _) ?_, rfl, q _ (I5.hok.fresh (Nat.le_refl _))⟩
    exact ⟨by rw [List.length_reverse]; exact hz, _, r.reverse, IsTup.new _ _⟩
end
end L2
namespace TL
open PySem PySem.Spec PyProof.Rows L2
/-! ## rules by values -/
/-- an operator in deep values -/
def OpD (w : Wd) (X : Cx) (op : Value → Value → Sem Value) (f : D → D → Sto → QD → Prop) : Prop := ∃ r, OpR X op r ∧ VO2 w r f
def IxD (w : Wd) (X : Cx) (f : D → D → Sto → QD → Prop) : Prop := ∃ r, IxR X r ∧ VO2 w r f
def CallD (w : Wd) (X : Cx) (u : Value) (f : List D → Sto → QD → Prop) : Prop := ∃ r, CallR X u r ∧ VOn w r f
section
variable {w : Wd} {X : Cx} {H : Hp} {ρ : List Addr} {M : Sto} {q : QD} {Q : VK}
theorem OpD.mk {op : Value → Value → Sem Value} {r : R2} {f : D → D → Sto → QD → Prop} (h : OpR X op r) (v : VO2 w r f) : OpD w X op f := ⟨r, h, v⟩
theorem OpD.or {op : Value → Value → Sem Value} {f g : D → D → Sto → QD → Prop} (a : OpD w X op f) (b : OpD w X op g) : OpD w X op (fun x y M q => f x y M q ∨ g x y M q) := by
  obtain ⟨r1, h1, v1⟩ := a
  obtain ⟨r2, h2, v2⟩ := b
  exact ⟨_, h1.or h2, fun H ρ M x y u v q Q m ru rv h k => h.imp (fun h => v1 _ _ _ _ _ _ _ _ _ m ru rv h k) fun h => v2 _ _ _ _ _ _ _ _ _ m ru rv h k⟩
theorem OpD.imp {op : Value → Value → Sem Value} {f g : D → D → Sto → QD → Prop} (a : OpD w X op f) (i : ∀ x y M q, g x y M q → f x y M q) : OpD w X op g := by
  obtain ⟨r, h, v⟩ := a
  exact ⟨r, h, fun H ρ M x y u v' q Q m ru rv h k => v _ _ _ _ _ _ _ _ _ m ru rv (i _ _ _ _ h) k⟩
theorem IxD.or {f g : D → D → Sto → QD → Prop} (a : IxD w X f) (b : IxD w X g) : IxD w X (fun x y M q => f x y M q ∨ g x y M q) := by
  obtain ⟨r1, h1, v1⟩ := a
  obtain ⟨r2, h2, v2⟩ := b
  exact ⟨_, h1.or h2, fun H ρ M x y u v q Q m ru rv h k => h.imp (fun h => v1 _ _ _ _ _ _ _ _ _ m ru rv h k) fun h => v2 _ _ _ _ _ _ _ _ _ m ru rv h k⟩
theorem IxD.imp {f g : D → D → Sto → QD → Prop} (a : IxD w X f) (i : ∀ x y M q, g x y M q → f x y M q) : IxD w X g := by
  obtain ⟨r, h, v⟩ := a
  exact ⟨r, h, fun H ρ M x y u v' q Q m ru rv h k => v _ _ _ _ _ _ _ _ _ m ru rv (i _ _ _ _ h) k⟩
theorem CallD.or {u : Value} {f g : List D → Sto → QD → Prop} (a : CallD w X u f) (b : CallD w X u g) : CallD w X u (fun x M q => f x M q ∨ g x M q) := by
  obtain ⟨r1, h1, v1⟩ := a
  obtain ⟨r2, h2, v2⟩ := b
  exact ⟨_, h1.or h2, fun H ρ M x u q Q m ru h k => h.imp (fun h => v1 _ _ _ _ _ _ _ m ru h k) fun h => v2 _ _ _ _ _ _ _ m ru h k⟩
theorem CallD.imp {u : Value} {f g : List D → Sto → QD → Prop} (a : CallD w X u f) (i : ∀ x M q, g x M q → f x M q) : CallD w X u g := by
  obtain ⟨r, h, v⟩ := a
  exact ⟨r, h, fun H ρ M x u q Q m ru h k => v _ _ _ _ _ _ _ m ru (i _ _ _ h) k⟩
/-! ### how they are used -/
theorem do_bin {op : Operator} {a b : Expr} {pos : Pos} {ta tb : TED} {f : D → D → Sto → QD → Prop} (ho : OpD w X (binaryOp op) f) (ha : DE w X a ta) (hb : DE w X b tb) : DE w X (.BinOp a op b pos) (dBin f ta tb) :=
  let ⟨_, h, v⟩ := ho; de_bin h v ha hb
theorem do_cmp {op : CmpOp} {a b : Expr} {pos : Pos} {ta tb : TED} {f : D → D → Sto → QD → Prop} (ho : OpD w X (compareOp op) f) (ha : DE w X a ta) (hb : DE w X b tb) (hm : behindInMarks op b = false) : DE w X (.Compare a [op] [b] pos) (dBin f ta tb) :=
  let ⟨_, h, v⟩ := ho; de_cmp h v ha hb hm
theorem dq_cmp {op : CmpOp} {a b : Expr} {pos : Pos} {ta tb : TED} {f : D → D → Sto → QD → Prop} (ho : OpD w X (compareOp op) f) (ha : DE w X a ta) (hb : DE w X b tb) (hm : behindInMarks op b = false) : DT w X (.Compare a [op] [b] pos) (tst (dBin f ta tb)) :=
  let ⟨_, h, v⟩ := ho; dt_cmp h v ha hb hm
theorem do_ix {a b : Expr} {pos : Pos} {ta tb : TED} {f : D → D → Sto → QD → Prop} (ho : IxD w X f) (ha : DE w X a ta) (hb : DE w X b tb) (hs : PlainIx b) : DE w X (.Subscript a b pos) (dBin f ta tb) :=
  let ⟨_, h, v⟩ := ho; de_ix h v ha hb hs
/-- a < b < c -/
def dChain (f g : D → D → Sto → QD → Prop) (ta tb tc : TED) : TED := fun σ M q x => ta σ M (fun a M1 => tb σ M1 (fun b M2 => f a b M2 fun z M3 => ∃ k, z = .bl k ∧ if k = true then tc σ M3 (fun c M4 => g b c M4 q) x else q (.bl false) M3) x) x
theorem do_chain {op op' : CmpOp} {a b c : Expr} {pos : Pos} {ta tb tc : TED} {f g : D → D → Sto → QD → Prop} (ho : OpD w X (compareOp op) f) (ho' : OpD w X (compareOp op') g) (ha : DE w X a ta) (hb : DE w X b tb) (hc : DE w X c tc)
    (hm : lastMarks [op, op'] [b, c] = false) : DE w X (.Compare a [op, op'] [b, c] pos) (dChain f g ta tb tc) := by
  obtain ⟨r, h, v⟩ := ho
  obtain ⟨r', h', v'⟩ := ho'
  exact ⟨fun Wv tk => (pe_chain h h' (ha.run Wv tk) (hb.run Wv tk) (hc.run Wv tk) hm).imp fun σv H Q ⟨σ, ρ, M, q, x, a, hq, k, kx⟩ =>
    ⟨σ, ρ, M, _, x, a, hq, fun H1 ρ1 M1 d1 v1 e1 m1 r1 h1 => ⟨σ, ρ1, M1, _, x, a.ext m1 e1, h1, fun H2 ρ2 M2 d2 v2 e2 m2 r2 h2 => v _ _ _ _ _ _ _ _ _ m2 (r1.ext e2) r2 h2 fun H3 ρ3 M3 d3 v3 e3 m3 r3 ⟨b, eb, h3⟩ => by
      subst eb
      refine ⟨b, rp_bl r3, ?_⟩
      have e13 := (e1.trans e2).trans e3
      cases b with
      | false => exact k _ _ _ _ _ e13 m3 (.bl false) h3
      | true => exact ⟨σ, ρ3, M3, _, x, a.ext m3 e13, h3, fun H4 ρ4 M4 d4 v4 e4 m4 r4 h4 => v' _ _ _ _ _ _ _ _ _ m4 ((r2.ext e3).ext e4) r4 h4 (k.ext (e13.trans e4)), kx.ext e13⟩, kx.ext e1⟩, kx⟩⟩
/-- a built-in called -/
theorem do_callB {id : String} {x : Str} {e : Expr} {es : List Expr} {p pos : Pos} {t : TAD} {f : List D → Sto → QD → Prop} (hc : CallD w X (.builtin id) f) (hg : Gl X x) (hm : X.mg x = none) (hv : bootBuiltins x = some (.builtin id)) (ha : DA w X (e :: es) t) (hn : x ≠ "__name__") (hdb : (x == ("__debug__" : Str)) = false)
    (he : starEach (e :: es) X.env = (false, eval e X.env) :: starEach es X.env) (hpl : (backTo pos (starEach es X.env)).any (·.1) = false) : DE w X (.Call (.Name x p) (e :: es) [] pos) (dApp f t) := by
  obtain ⟨r, h, v⟩ := hc
  exact ⟨fun Wv tk => (pe_callB h hg hm hv (ha.run Wv tk) hn hdb he hpl).imp fun σv H Q ⟨σ, ρ, M, q, x, a, hq, k, kx⟩ => ⟨σ, ρ, M, _, x, a, hq, fun H1 ρ1 M1 ds vs e1 m1 r1 h1 => v _ _ _ _ _ _ _ m1 r1 h1 (k.ext e1), kx⟩⟩
theorem do_callTy {T : String} {x : Str} {e : Expr} {es : List Expr} {p pos : Pos} {t : TAD} {f : List D → Sto → QD → Prop} (hc : CallD w X (.type T) f) (hg : Gl X x) (hm : X.mg x = none) (hv : bootBuiltins x = some (.type T)) (ha : DA w X (e :: es) t) (hn : x ≠ "__name__") (hdb : (x == ("__debug__" : Str)) = false)
    (he : starEach (e :: es) X.env = (false, eval e X.env) :: starEach es X.env) (hpl : (backTo pos (starEach es X.env)).any (·.1) = false) : DE w X (.Call (.Name x p) (e :: es) [] pos) (dApp f t) := by
  obtain ⟨r, h, v⟩ := hc
  exact ⟨fun Wv tk => (pe_callTy h hg hm hv (ha.run Wv tk) hn hdb he hpl).imp fun σv H Q ⟨σ, ρ, M, q, x, a, hq, k, kx⟩ => ⟨σ, ρ, M, _, x, a, hq, fun H1 ρ1 M1 ds vs e1 m1 r1 h1 => v _ _ _ _ _ _ _ m1 r1 h1 (k.ext e1), kx⟩⟩
/-! ### new tuples and lists -/
theorem q_tup {ds : List D} {vs : List V} (m : RepM w H ρ M) (k : QOk w H ρ M q Q) (rs : Rps w H ρ M ds vs) (hq : q (.tup ds) M) : ∀ p, H p = none → Q (.ref p) (upd H p (.tup vs)) := fun p hp =>
  k _ _ _ _ _ (Ext.fresh m.hh hp rfl) (m.fresh hp) (.tup (.inl ⟨upd_same, m.notLv hp⟩) (rs.ext (Ext.fresh m.hh hp rfl))) hq
theorem q_lst {mu : Bool} {ds : List D} {vs : List V} (m : RepM w H ρ M) (k : QOk w H ρ M q Q) (rs : Rps w H ρ M ds vs) (hq : mkL mu q ds M) : ∀ p, H p = none → Q (.ref p) (upd H p (.lst vs)) := fun p hp => by
  unfold mkL at hq
  cases mu with
  | false =>
    rw [if_neg (by simp)] at hq
    exact k _ _ _ _ _ (Ext.fresh m.hh hp rfl) (m.fresh hp) (.lst (.inl ⟨upd_same, m.notLv hp⟩) (rs.ext (Ext.fresh m.hh hp rfl))) hq
  | true =>
    rw [if_pos rfl] at hq
    have e := Ext.made (o := .lst vs) (d := .lst ds) m hp
    refine k _ _ _ _ _ e (m.made hp ⟨vs, upd_same, rs.ext e⟩) (.obj ?_) hq
    rw [← m.len, List.getElem?_append_right (Nat.le_refl _)]
    simp
def dTup (t : TAD) : TED := fun σ M q x => t σ M (fun ds M1 => ds.length ≤ sizeLine ∧ q (.tup ds) M1) x
def dLst (mu : Bool) (t : TAD) : TED := fun σ M q x => t σ M (fun ds M1 => ds.length ≤ sizeLine ∧ mkL mu q ds M1) x
theorem do_tup {es : List Expr} {k : Nat} {pos : Pos} {t : TAD} (h : DA w X es t) : DE w X (.Tuple es k pos) (dTup t) :=
  ⟨fun Wv tk => (pe_tup (h.run Wv tk)).imp fun σv H Q ⟨σ, ρ, M, q, x, a, hq, k, kx⟩ => ⟨σ, ρ, M, _, x, a, hq, fun H1 ρ1 M1 ds vs e1 m1 r1 ⟨hz, h1⟩ => ⟨by rw [← r1.length]; exact hz, q_tup m1 (k.ext e1) r1 h1⟩, kx⟩⟩
theorem do_lst (mu : Bool) {es : List Expr} {pos : Pos} {t : TAD} (h : DA w X es t) : DE w X (.List es pos) (dLst mu t) :=
  ⟨fun Wv tk => (pe_lst (h.run Wv tk)).imp fun σv H Q ⟨σ, ρ, M, q, x, a, hq, k, kx⟩ => ⟨σ, ρ, M, _, x, a, hq, fun H1 ρ1 M1 ds vs e1 m1 r1 ⟨hz, h1⟩ => ⟨by rw [← r1.length]; exact hz, q_lst m1 (k.ext e1) r1 h1⟩, kx⟩⟩
/-- a list's items -/
def lsD (M : Sto) : D → Option (List D)
  | .lst ds => some ds
  | .obj i => match M[i]? with | some (.lst ds) => some ds | _ => none
  | _ => none
def sqD (M : Sto) : D → Option (List D)
  | .tup ds => some ds
  | .scr ns => some (ns.map .int)
  | d => lsD M d
theorem lsD_rd {d : D} {v : V} {ds : List D} (m : RepM w H ρ M) (r : Rp w H ρ M d v) (h : lsD M d = some ds) : ∃ a vs, v = .ref a ∧ H a = some (.lst vs) ∧ Rps w H ρ M ds vs := by
  cases r with
  | lst s rs =>
    cases h
    exact ⟨_, _, rfl, (s.resolve_right id).1, rs⟩
  | @obj i a ho =>
    simp only [lsD] at h
    split at h
    · rename_i ds' hm
      cases h
      obtain ⟨vs, hv, rs⟩ := m.lstAt ho hm
      exact ⟨_, vs, rfl, hv, rs⟩
    · cases h
  | _ => cases h
theorem lsD_sq {d : D} {v : V} {ds : List D} (K : PySem.W.Frag) (m : RepM w H ρ M) (r : Rp w H ρ M d v) (h : lsD M d = some ds) : ∃ a vs, v = .ref a ∧ SqL K H a vs ∧ Rps w H ρ M ds vs := by
  obtain ⟨a, vs, e, hr, rs⟩ := lsD_rd m r h
  exact ⟨a, vs, e, .inl (.inl hr), rs⟩
theorem tup_sq {v : V} {ds : List D} (hK : X.K = w.K) (r : Rp w H ρ M (.tup ds) v) : ∃ a vs, v = .ref a ∧ SqT X.K H a vs ∧ Rps w H ρ M ds vs := by
  cases r with
  | tup s rs => exact ⟨_, _, rfl, hK ▸ s.sq, rs⟩
theorem sqD_sq {d : D} {v : V} {ds : List D} (hK : X.K = w.K) (m : RepM w H ρ M) (r : Rp w H ρ M d v) (h : sqD M d = some ds) : ∃ a vs, v = .ref a ∧ (SqL X.K H a vs ∨ SqT X.K H a vs) ∧ Rps w H ρ M ds vs := by
  unfold sqD at h
  split at h
  · cases h
    obtain ⟨a, vs, e, hs, rs⟩ := tup_sq hK r
    exact ⟨a, vs, e, .inr hs, rs⟩
  · cases h
    cases r with
    | scr s => exact ⟨_, _, rfl, .inl (hK ▸ s.sq), repL_ints _⟩
  · obtain ⟨a, vs, e, hs, rs⟩ := lsD_sq X.K m r h
    exact ⟨a, vs, e, .inl hs, rs⟩
/-! ### numbers -/
def iiD (C : Int → Int → Prop) (g : Int → Int → D) : D → D → Sto → QD → Prop := fun x y M q => match x, y with
  | .int i, .int j => C i j ∧ q (g i j) M
  | _, _ => False
theorem VO2.ii {C : Int → Int → Prop} {g : Int → Int → V} {gd : Int → Int → D} (hg : ∀ H ρ L i j, Rep w.toWc H ρ L (gd i j) (g i j)) : VO2 w (rI C g) (iiD C gd) := fun H ρ M x y u v q Q m ru rv h k => by
  unfold iiD at h
  split at h
  · cases ru
    cases rv
    exact ⟨_, _, rfl, rfl, h.1, k.here m (hg _ _ _ _ _) h.2⟩
  · exact h.elim
theorem VO2.ii0 {g : Int → Int → V} {gd : Int → Int → D} (hg : ∀ H ρ L i j, Rep w.toWc H ρ L (gd i j) (g i j)) : VO2 w (rI0 g) (iiD (fun _ _ => True) gd) := fun H ρ M x y u v q Q m ru rv h k => by
  unfold iiD at h
  split at h
  · cases ru
    cases rv
    exact ⟨_, _, rfl, rfl, k.here m (hg _ _ _ _ _) h.2⟩
  · exact h.elim
theorem od_subI : OpD w X (binaryOp .Sub) (iiD (fun _ _ => True) fun i j => .int (i - j)) := ⟨_, op_sub, VO2.ii0 fun _ _ _ _ _ => .int _⟩
theorem od_fdivI : OpD w X (binaryOp .FloorDiv) (iiD CDivW fun i j => .int (i / j)) := ⟨_, op_fdivW, VO2.ii fun _ _ _ _ _ => .int _⟩
theorem od_modI : OpD w X (binaryOp .Mod) (iiD (fun _ j => 0 < j) fun i j => .int (i % j)) := ⟨_, op_mod, VO2.ii fun _ _ _ _ _ => .int _⟩
theorem od_powI : OpD w X (binaryOp .Pow) (iiD CPow fun i j => .int (i ^ j.toNat)) := ⟨_, op_pow, VO2.ii fun _ _ _ _ _ => .int _⟩
theorem od_ltI : OpD w X (compareOp .Lt) (iiD (fun _ _ => True) fun i j => .bl (decide (i < j))) := ⟨_, op_lt, VO2.ii0 fun _ _ _ _ _ => .bl _⟩
theorem od_leI : OpD w X (compareOp .LtE) (iiD (fun _ _ => True) fun i j => .bl (decide (i ≤ j))) := ⟨_, op_le, VO2.ii0 fun _ _ _ _ _ => .bl _⟩
theorem od_gtI : OpD w X (compareOp .Gt) (iiD (fun _ _ => True) fun i j => .bl (decide (j < i))) := ⟨_, op_gt, VO2.ii0 fun _ _ _ _ _ => .bl _⟩
theorem od_geI : OpD w X (compareOp .GtE) (iiD (fun _ _ => True) fun i j => .bl (decide (j ≤ i))) := ⟨_, op_ge, VO2.ii0 fun _ _ _ _ _ => .bl _⟩
/-- - i -/
def negD : D → Sto → QD → Prop := fun x M q => match x with | .int i => q (.int (-i)) M | _ => False
theorem do_neg {a : Expr} {pos : Pos} {ta : TED} (ha : DE w X a ta) : DE w X (.UnaryOp .USub a pos) (dUn negD ta) :=
  de_un un_neg (fun H ρ M x u q Q m ru h k => by
    unfold negD at h
    split at h
    · cases ru
      exact ⟨_, rfl, k.here m (.int _) h⟩
    · exact h.elim) ha
/-! ### +, * -/
def catL (mu : Bool) (x y : D) (M : Sto) (q : QD) : Prop := ∃ a b, lsD M x = some a ∧ lsD M y = some b ∧ a.length + b.length ≤ sizeLine ∧ mkL mu q (a ++ b) M
def addD (mu : Bool) : D → D → Sto → QD → Prop := fun x y M q => match x, y with
  | .int i, .int j => q (.int (i + j)) M
  | .str a, .str b => a.length + b.length ≤ sizeLine ∧ q (.str (a ++ b)) M
  | .tup a, .tup b => a.length + b.length ≤ sizeLine ∧ q (.tup (a ++ b)) M
  | x, y => catL mu x y M q
theorem od_add (mu : Bool) (hK : X.K = w.K) : OpD w X (binaryOp .Add) (addD mu) := by
  refine ((OpD.mk op_add (f := fun x y M q => ∃ i j, x = .int i ∧ y = .int j ∧ q (.int (i + j)) M) ?_).or ((OpD.mk op_add_str (f := fun x y M q => ∃ i j, x = .str i ∧ y = .str j ∧ i.length + j.length ≤ sizeLine ∧ q (.str (i ++ j)) M) ?_).or
    ((OpD.mk op_catA (f := fun x y M q => ∃ a b, x = .tup a ∧ y = .tup b ∧ a.length + b.length ≤ sizeLine ∧ q (.tup (a ++ b)) M) ?_).or (OpD.mk op_catL (f := catL mu) ?_)))).imp fun x y M q h => ?_
  · rintro H ρ M x y u v q Q m ru rv ⟨i, j, rfl, rfl, h⟩ k
    cases ru; cases rv
    exact ⟨_, _, rfl, rfl, k.here m (.int _) h⟩
  · rintro H ρ M x y u v q Q m ru rv ⟨i, j, rfl, rfl, hz, h⟩ k
    cases ru; cases rv
    exact ⟨_, _, rfl, rfl, hz, k.here m (.str _) h⟩
  · rintro H ρ M x y u v q Q m ru rv ⟨a, b, rfl, rfl, hz, h⟩ k
    cases ru with
    | tup s1 r1 =>
      cases rv with
      | tup s2 r2 =>
        refine ⟨_, _, _, _, rfl, rfl, hK ▸ s1.sq, hK ▸ s2.sq, by rw [← r1.length, ← r2.length]; exact hz, fun e => ?_, fun _ e => ?_, fun _ _ => q_tup m k (r1.append r2) h⟩
        · subst e
          cases r1
          exact k.here m (.tup s2 r2) h
        · subst e
          cases r2
          rw [List.append_nil] at h
          exact k.here m (.tup s1 r1) h
  · rintro H ρ M x y u v q Q m ru rv ⟨a, b, ha, hb, hz, h⟩ k
    obtain ⟨l1, v1, rfl, h1, r1⟩ := lsD_rd m ru ha
    obtain ⟨l2, v2, rfl, h2, r2⟩ := lsD_rd m rv hb
    exact ⟨_, _, _, _, rfl, rfl, .inl h1, .inl h2, by rw [← r1.length, ← r2.length]; exact hz, q_lst m k (r1.append r2) h⟩
  · unfold addD at h
    split at h
    · exact .inl ⟨_, _, rfl, rfl, h⟩
    · exact .inr (.inl ⟨_, _, rfl, rfl, h⟩)
    · exact .inr (.inr (.inl ⟨_, _, rfl, rfl, h⟩))
    · exact .inr (.inr (.inr h))
theorem repL_flat {ds : List D} {vs : List V} (r : Rps w H ρ M ds vs) : ∀ n : Nat, Rps w H ρ M (List.replicate n ds).flatten (List.replicate n vs).flatten
  | 0 => .nil
  | n + 1 => by rw [List.replicate_succ, List.replicate_succ, List.flatten_cons, List.flatten_cons]; exact r.append (repL_flat r n)
/-- i * j, t * k; a mutable list times k stands in mulLD -/
def mulD : D → D → Sto → QD → Prop := fun x y M q => match x, y with
  | .int i, .int j => CMulW i j ∧ q (.int (i * j)) M
  | .tup a, .int k => (k ≤ 1000 ∧ -1000 ≤ k ∧ a.length ≤ 1000) ∧ q (.tup (List.replicate k.toNat a).flatten) M
  | _, _ => False
theorem od_mul (hK : X.K = w.K) : OpD w X (binaryOp .Mult) mulD := by
  refine ((OpD.mk op_mulW (f := iiD CMulW fun i j => .int (i * j)) (VO2.ii fun _ _ _ _ _ => .int _)).or (OpD.mk op_repA (f := fun x y M q => ∃ a k, x = .tup a ∧ y = .int k ∧ (k ≤ 1000 ∧ -1000 ≤ k ∧ a.length ≤ 1000) ∧ q (.tup (List.replicate k.toNat a).flatten) M) ?_)).imp fun x y M q h => ?_
  · rintro H ρ M x y u v q Q m ru rv ⟨a, k, rfl, rfl, ⟨hz1, hz2, hz3⟩, h⟩ kq
    cases rv
    cases ru with
    | @tup l _ _ s1 r1 =>
      refine ⟨_, _, _, rfl, rfl, hK ▸ s1.sq, hz1, hz2, by rw [← r1.length]; exact hz3, fun e => ?_, q_tup m kq (repL_flat r1 _) h⟩
      have e2 : (List.replicate k.toNat a).flatten = a := by
        rcases e with e | e
        · subst e
          cases r1
          simp
        · subst e; simp
      rw [e2] at h
      exact kq.here m (.tup s1 r1) h
  · unfold mulD at h
    split at h
    · exact .inl h
    · exact .inr ⟨_, _, rfl, rfl, h⟩
    · exact h.elim
end
end TL
namespace TL
open PySem PySem.Spec PyProof.Rows L2
/-! ## data -/
/-- the data that a value stands for -/
def pd (M : Sto) : Nat → D → Option PyData
  | 0, _ => none
  | n + 1, d => match d with
    | .non => some .none
    | .bl b => some (.bool b)
    | .int i => some (.int i)
    | .str x => some (.str x)
    | .tup ds => (ds.mapM (pd M n)).map .tuple
    | .lst ds => (ds.mapM (pd M n)).map .list
    | .obj i => match M[i]? with
      | some (.lst ds) => (ds.mapM (pd M n)).map .list
      | _ => none
    | _ => none
section
variable {w : Wd} {X : Cx} {H : Hp} {ρ : List Addr} {M : Sto} {q : QD} {Q : VK}
theorem pds_dp {n : Nat} (ih : ∀ d v p, Rp w H ρ M d v → pd M n d = some p → Dp w.K H v p) : ∀ {ds : List D} {vs : List V} {ps : List PyData}, Rps w H ρ M ds vs → ds.mapM (pd M n) = some ps → DpAll w.K H vs ps
  | [], _, _, .nil, e => by
    simp at e
    subst e
    exact .nil
  | d :: ds, _, _, .cons r rs, e => by
    rw [List.mapM_cons] at e
    cases h1 : pd M n d with
    | none => rw [h1] at e; cases e
    | some p =>
      cases h2 : ds.mapM (pd M n) with
      | none => rw [h1, h2] at e; cases e
      | some ps =>
        rw [h1, h2] at e
        cases e
        exact .cons (ih _ _ _ r h1) (pds_dp ih rs h2)
theorem pd_dp (m : RepM w H ρ M) : ∀ (n : Nat) (d : D) (v : V) (p : PyData), Rp w H ρ M d v → pd M n d = some p → Dp w.K H v p
  | 0, _, _, _, _, e => by cases e
  | n + 1, d, v, p, r, e => by
    cases r with
    | non => cases e; exact .non
    | bl b => cases e; exact .bl b
    | int i => cases e; exact .int i
    | str x => cases e; exact .str x
    | @tup a vs ds s rs =>
      simp only [pd] at e
      cases h : ds.mapM (pd M n) with
      | none => rw [h] at e; cases e
      | some ps =>
        rw [h] at e
        cases e
        exact .tup s.sq (pds_dp (pd_dp m n) rs h)
    | @lst a vs ds s rs =>
      simp only [pd] at e
      cases h : ds.mapM (pd M n) with
      | none => rw [h] at e; cases e
      | some ps =>
        rw [h] at e
        cases e
        exact .lst s.sq (pds_dp (pd_dp m n) rs h)
    | @obj i a ho =>
      simp only [pd] at e
      split at e
      · rename_i ds hm
        obtain ⟨vs, hv, rs⟩ := m.lstAt ho hm
        cases h : ds.mapM (pd M n) with
        | none => rw [h] at e; cases e
        | some ps =>
          rw [h] at e
          cases e
          exact .lst (.inl (.inl hv)) (pds_dp (pd_dp m n) rs h)
      · cases e
    | _ => cases e
/-! ### ==, != -/
def eqD : D → D → Sto → QD → Prop := fun x y M q => match x, y with
  | .int i, .int j => q (.bl (i == j)) M
  | .bl i, .bl j => q (.bl (i == j)) M
  | .str i, .str j => q (.bl (i == j)) M
  | x, y => ∃ n p p', pd M n x = some p ∧ pd M n y = some p' ∧ SeqAt.shaped p = true ∧ SeqAt.shaped p' = true ∧ q (.bl (PyData.eqv p p')) M
def neD : D → D → Sto → QD → Prop := fun x y M q => eqD x y M fun d M' => ∃ b, d = .bl b ∧ q (.bl (!b)) M'
theorem od_eq (hK : X.K = w.K) (hu : X.A.units + 64 < cLine) : OpD w X (compareOp .Eq) eqD := by
  refine ((OpD.mk op_eq (f := fun x y M q => (∃ i j, x = .int i ∧ y = .int j ∧ q (.bl (i == j)) M) ∨ (∃ i j, x = .bl i ∧ y = .bl j ∧ q (.bl (i == j)) M) ∨ ∃ i j, x = .str i ∧ y = .str j ∧ q (.bl (i == j)) M) ?_).or
    (OpD.mk (op_eqD hu) (f := fun x y M q => ∃ n p p', pd M n x = some p ∧ pd M n y = some p' ∧ SeqAt.shaped p = true ∧ SeqAt.shaped p' = true ∧ q (.bl (PyData.eqv p p')) M) ?_)).imp fun x y M q h => ?_
  · rintro H ρ M x y u v q Q m ru rv h k
    rcases h with ⟨i, j, rfl, rfl, h⟩ | ⟨i, j, rfl, rfl, h⟩ | ⟨i, j, rfl, rfl, h⟩ <;> cases ru <;> cases rv
    · refine ⟨rfl, k.here m (?_ : Rep _ _ _ _ (.bl (i == j)) _) h⟩
      rw [dec_int]; exact .bl _
    · refine ⟨rfl, k.here m (?_ : Rep _ _ _ _ (.bl (i == j)) _) h⟩
      rw [dec_bl]; exact .bl _
    · refine ⟨rfl, k.here m (?_ : Rep _ _ _ _ (.bl (i == j)) _) h⟩
      have e : decide (V.str i = V.str j) = (i == j) := by
        rw [Bool.eq_iff_iff]; simp
      rw [e]; exact .bl _
  · rintro H ρ M x y u v q Q m ru rv ⟨n, p, p', e1, e2, s1, s2, h⟩ k
    exact ⟨p, p', hK ▸ pd_dp m n _ _ _ ru e1, hK ▸ pd_dp m n _ _ _ rv e2, s1, s2, k.here m (.bl _) h⟩
  · unfold eqD at h
    split at h
    · exact .inl (.inl ⟨_, _, rfl, rfl, h⟩)
    · exact .inl (.inr (.inl ⟨_, _, rfl, rfl, h⟩))
    · exact .inl (.inr (.inr ⟨_, _, rfl, rfl, h⟩))
    · exact .inr h
theorem od_ne (hK : X.K = w.K) (hu : X.A.units + 64 < cLine) : OpD w X (compareOp .NotEq) neD := by
  refine ((OpD.mk op_ne (f := fun x y M q => (∃ i j, x = .int i ∧ y = .int j ∧ q (.bl (!(i == j))) M) ∨ (∃ i j, x = .bl i ∧ y = .bl j ∧ q (.bl (!(i == j))) M) ∨ ∃ i j, x = .str i ∧ y = .str j ∧ q (.bl (!(i == j))) M) ?_).or
    (OpD.mk (op_neD hu) (f := fun x y M q => ∃ n p p', pd M n x = some p ∧ pd M n y = some p' ∧ SeqAt.shaped p = true ∧ SeqAt.shaped p' = true ∧ q (.bl (!PyData.eqv p p')) M) ?_)).imp fun x y M q h => ?_
  · rintro H ρ M x y u v q Q m ru rv h k
    rcases h with ⟨i, j, rfl, rfl, h⟩ | ⟨i, j, rfl, rfl, h⟩ | ⟨i, j, rfl, rfl, h⟩ <;> cases ru <;> cases rv
    · refine ⟨rfl, k.here m (?_ : Rep _ _ _ _ (.bl (!(i == j))) _) h⟩
      rw [dec_int]; exact .bl _
    · refine ⟨rfl, k.here m (?_ : Rep _ _ _ _ (.bl (!(i == j))) _) h⟩
      rw [dec_bl]; exact .bl _
    · refine ⟨rfl, k.here m (?_ : Rep _ _ _ _ (.bl (!(i == j))) _) h⟩
      have e : decide (V.str i = V.str j) = (i == j) := by
        rw [Bool.eq_iff_iff]; simp
      rw [e]; exact .bl _
  · rintro H ρ M x y u v q Q m ru rv ⟨n, p, p', e1, e2, s1, s2, h⟩ k
    exact ⟨p, p', hK ▸ pd_dp m n _ _ _ ru e1, hK ▸ pd_dp m n _ _ _ rv e2, s1, s2, k.here m (.bl _) h⟩
  · unfold neD eqD at h
    split at h
    · obtain ⟨b, e, h⟩ := h
      cases e
      exact .inl (.inl ⟨_, _, rfl, rfl, h⟩)
    · obtain ⟨b, e, h⟩ := h
      cases e
      exact .inl (.inr (.inl ⟨_, _, rfl, rfl, h⟩))
    · obtain ⟨b, e, h⟩ := h
      cases e
      exact .inl (.inr (.inr ⟨_, _, rfl, rfl, h⟩))
    · obtain ⟨n, p, p', e1, e2, s1, s2, b, e, h⟩ := h
      cases e
      exact .inr ⟨n, p, p', e1, e2, s1, s2, h⟩
/-! ### is, is not -/
def isD : D → D → Sto → QD → Prop := fun x y M q => match x, y with
  | .bl i, .bl j => q (.bl (i == j)) M
  | .raw _, _ => False
  | .non, .non => q (.bl true) M
  | _, .non => q (.bl false) M
  | _, _ => False
def isNotD : D → D → Sto → QD → Prop := fun x y M q => isD x y M fun d M' => ∃ b, d = .bl b ∧ q (.bl (!b)) M'
theorem isN_of {x : D} {v : V} (h : x ≠ .non) (hr : ∀ u, x ≠ .raw u) (r : Rp w H ρ M x v) : v ≠ .non := by
  cases r with
  | non => exact absurd rfl h
  | raw => exact absurd rfl (hr _)
  | _ => intro e; cases e
theorem od_is : OpD w X (compareOp .Is) isD := by
  refine ((OpD.mk op_isBl (f := fun x y M q => ∃ i j, x = .bl i ∧ y = .bl j ∧ q (.bl (i == j)) M) ?_).or (OpD.mk op_isN (f := fun x y M q => y = .non ∧ (∀ u, x ≠ .raw u) ∧ ∃ b, (b = true ↔ x = .non) ∧ q (.bl b) M) ?_)).imp fun x y M q h => ?_
  · rintro H ρ M x y u v q Q m ru rv ⟨i, j, rfl, rfl, h⟩ k
    cases ru; cases rv
    refine ⟨_, _, rfl, rfl, k.here m (?_ : Rep _ _ _ _ (.bl (i == j)) _) h⟩
    have e : decide (i = j) = (i == j) := by cases i <;> cases j <;> rfl
    rw [e]; exact .bl _
  · rintro H ρ M x y u v q Q m ru rv ⟨rfl, hr, b, hb, h⟩ k
    cases rv
    refine ⟨rfl, k.here m (?_ : Rep _ _ _ _ (.bl b) _) h⟩
    have e : decide (u = V.non) = b := by
      cases b with
      | true =>
        have := hb.mp rfl
        subst this
        cases ru
        simp
      | false =>
        have hn : x ≠ .non := fun e => by have := hb.mpr e; cases this
        simp [isN_of hn hr ru]
    rw [e]; exact .bl _
  · unfold isD at h
    split at h
    · exact .inl ⟨_, _, rfl, rfl, h⟩
    · exact h.elim
    · exact .inr ⟨rfl, (fun u e => by cases e), true, by simp, h⟩
    · rename_i h1 h2
      exact .inr ⟨rfl, (fun u e => h1 u e), false, ⟨(fun e => by cases e), fun e => (h2 e).elim⟩, h⟩
    · exact h.elim
theorem od_isNot : OpD w X (compareOp .IsNot) isNotD := by
  refine ((OpD.mk op_notBl (f := fun x y M q => ∃ i j, x = .bl i ∧ y = .bl j ∧ q (.bl (!(i == j))) M) ?_).or (OpD.mk op_notN (f := fun x y M q => y = .non ∧ (∀ u, x ≠ .raw u) ∧ ∃ b, (b = true ↔ x = .non) ∧ q (.bl (!b)) M) ?_)).imp fun x y M q h => ?_
  · rintro H ρ M x y u v q Q m ru rv ⟨i, j, rfl, rfl, h⟩ k
    cases ru; cases rv
    refine ⟨_, _, rfl, rfl, k.here m (?_ : Rep _ _ _ _ (.bl (!(i == j))) _) h⟩
    have e : decide (i = j) = (i == j) := by cases i <;> cases j <;> rfl
    rw [e]; exact .bl _
  · rintro H ρ M x y u v q Q m ru rv ⟨rfl, hr, b, hb, h⟩ k
    cases rv
    refine ⟨rfl, k.here m (?_ : Rep _ _ _ _ (.bl (!b)) _) h⟩
    have e : decide (u = V.non) = b := by
      cases b with
      | true =>
        have := hb.mp rfl
        subst this
        cases ru
        simp
      | false =>
        have hn : x ≠ .non := fun e => by have := hb.mpr e; cases this
        simp [isN_of hn hr ru]
    rw [e]; exact .bl _
  · unfold isNotD isD at h
    split at h
    · obtain ⟨b, e, h⟩ := h
      cases e
      exact .inl ⟨_, _, rfl, rfl, h⟩
    · exact h.elim
    · obtain ⟨b, e, h⟩ := h
      cases e
      exact .inr ⟨rfl, (fun u e => by cases e), true, by simp, h⟩
    · rename_i h1 h2
      obtain ⟨b, e, h⟩ := h
      cases e
      exact .inr ⟨rfl, (fun u e => h1 u e), false, ⟨(fun e => by cases e), fun e => (h2 e).elim⟩, h⟩
    · exact h.elim
end
end TL
namespace TL
open PySem PySem.Spec PyProof.Rows L2
section
variable {w : Wd} {X : Cx} {H : Hp} {ρ : List Addr} {M : Sto} {q : QD} {Q : VK}
/-! ### x[i] -/
theorem atI_rep {ds : List D} {vs : List V} {i : Int} {d : D} (r : Rps w H ρ M ds vs) (h : atI ds i = some d) : ∃ v, atI vs i = some v ∧ Rp w H ρ M d v := by
  unfold atI at h ⊢
  rw [← r.length]
  cases e : ixN ds.length i with
  | none => rw [e] at h; cases h
  | some j =>
    rw [e] at h
    obtain ⟨v, hv, rv⟩ := r.get (show ds[j]? = some d from h)
    exact ⟨v, hv, rv⟩
def ixD : D → D → Sto → QD → Prop := fun x y M q => match x, y with
  | .str z, .int i => z.length ≤ sizeLine ∧ ∃ c, atI z.cps.toList i = some c ∧ q (.str ⟨#[c]⟩) M
  | x, .int i => ∃ ds d, sqD M x = some ds ∧ atI ds i = some d ∧ q d M
  | _, _ => False
theorem xd_seq (hK : X.K = w.K) : IxD w X ixD := by
  refine ⟨_, ix_seq, fun H ρ M x y u v q Q m ru rv h k => ?_⟩
  unfold ixD at h
  split at h
  · cases ru; cases rv
    obtain ⟨hz, c, hc, h⟩ := h
    exact .inr (.inr ⟨_, _, c, rfl, rfl, hz, hc, k.here m (.str _) h⟩)
  · cases rv
    obtain ⟨ds, d, hs, hd, h⟩ := h
    obtain ⟨a, vs, rfl, hh, rs⟩ := sqD_sq (X := X) hK m ru hs
    obtain ⟨e, he, re⟩ := atI_rep rs hd
    rcases hh with hh | hh
    · exact .inl ⟨_, _, _, e, rfl, rfl, hh, he, k.here m re h⟩
    · exact .inr (.inl ⟨_, _, _, e, rfl, rfl, hh, he, k.here m re h⟩)
  · exact h.elim
/-! ### len, abs, int -/
def c1D (f : D → Sto → QD → Prop) : List D → Sto → QD → Prop := fun xs M q => match xs with | [x] => f x M q | _ => False
def c2D (f : D → D → Sto → QD → Prop) : List D → Sto → QD → Prop := fun xs M q => match xs with | [x, y] => f x y M q | _ => False
theorem VOn.c1 {r : List V → Hp → VK → Prop} {f : D → Sto → QD → Prop} (h : ∀ H ρ M x u q Q, RepM w H ρ M → Rp w H ρ M x u → f x M q → QOk w H ρ M q Q → r [u] H Q) : VOn w r (c1D f) := fun H ρ M xs us q Q m rs hh k => by
  unfold c1D at hh
  split at hh
  · cases rs with
    | cons a b =>
      cases b
      exact h _ _ _ _ _ _ _ m a hh k
  · exact hh.elim
theorem VOn.c2 {r : List V → Hp → VK → Prop} {f : D → D → Sto → QD → Prop} (h : ∀ H ρ M x y u v q Q, RepM w H ρ M → Rp w H ρ M x u → Rp w H ρ M y v → f x y M q → QOk w H ρ M q Q → r [u, v] H Q) : VOn w r (c2D f) := fun H ρ M xs us q Q m rs hh k => by
  unfold c2D at hh
  split at hh
  · cases rs with
    | cons a b =>
      cases b with
      | cons a2 b2 =>
        cases b2
        exact h _ _ _ _ _ _ _ _ _ m a a2 hh k
  · exact hh.elim
def lenD : D → Sto → QD → Prop := fun x M q => match x with
  | .str z => z.length ≤ sizeLine ∧ q (.int z.length) M
  | .obj i => (match M[i]? with
    | some (.lst ds) => q (.int ds.length) M
    | some (.dk ks _) => q (.int ks.length) M
    | some (.dt ks _) => q (.int ks.length) M
    | _ => False)
  | .tup ds => q (.int ds.length) M
  | .scr ns => q (.int ns.length) M
  | .lst ds => q (.int ds.length) M
  | .dk ks _ => q (.int ks.length) M
  | .dt ks _ => q (.int ks.length) M
  | _ => False
def absD : D → Sto → QD → Prop := fun x M q => match x with | .int i => q (.int (if i < 0 then -i else i)) M | _ => False
theorem cd_abs : CallD w X (.builtin "abs") (c1D absD) := ⟨_, call_abs, VOn.c1 fun H ρ M x u q Q m ru h k => by
  unfold absD at h
  split at h
  · cases ru
    exact ⟨_, rfl, k.here m (.int _) h⟩
  · exact h.elim⟩
def intD : D → Sto → QD → Prop := fun x M q => match x with | .int i => q (.int i) M | .bl b => q (.int (if b then 1 else 0)) M | _ => False
theorem cd_int : CallD w X (.type "int") (c1D intD) := ⟨_, call_int1, VOn.c1 fun H ρ M x u q Q m ru h k => by
  unfold intD at h
  split at h
  · cases ru
    exact .inl ⟨_, rfl, k.here m (.int _) h⟩
  · cases ru
    exact .inr ⟨_, rfl, k.here m (.int _) h⟩
  · exact h.elim⟩
def max2D : D → D → Sto → QD → Prop := iiD (fun _ _ => True) fun i j => .int (if j > i then j else i)
def min2D : D → D → Sto → QD → Prop := iiD (fun _ _ => True) fun i j => .int (if j < i then j else i)
theorem ints_of {ds : List D} {ns : List Int} (e : ds = ns.map D.int) {vs : List V} (r : Rps w H ρ M ds vs) : vs = ns.map V.int := by
  subst e
  induction ns generalizing vs with
  | nil => cases r; rfl
  | cons n ns ih =>
    cases r with
    | cons a b =>
      cases a
      rw [ih b]; rfl
theorem bls_of {ds : List D} {ns : List Bool} (e : ds = ns.map D.bl) {vs : List V} (r : Rps w H ρ M ds vs) : vs = ns.map V.bl := by
  subst e
  induction ns generalizing vs with
  | nil => cases r; rfl
  | cons n ns ih =>
    cases r with
    | cons a b =>
      cases a
      rw [ih b]; rfl
/-! ### all, any, sum, min, max of a list -/
def allD : D → Sto → QD → Prop := fun x M q => ∃ bs : List Bool, lsD M x = some (bs.map D.bl) ∧ q (.bl (bs.all id)) M
def anyD : D → Sto → QD → Prop := fun x M q => ∃ bs : List Bool, lsD M x = some (bs.map D.bl) ∧ q (.bl (bs.any id)) M
def sumD : D → Sto → QD → Prop := fun x M q => ∃ ns : List Int, lsD M x = some (ns.map D.int) ∧ q (.int ns.sum) M
def maxD : D → Sto → QD → Prop := fun x M q => ∃ ns : List Int, lsD M x = some (ns.map D.int) ∧ 0 < ns.length ∧ ∀ m, m ∈ ns → (∀ y, y ∈ ns → y ≤ m) → q (.int m) M
def minD : D → Sto → QD → Prop := fun x M q => ∃ ns : List Int, lsD M x = some (ns.map D.int) ∧ 0 < ns.length ∧ ∀ m, m ∈ ns → (∀ y, y ∈ ns → m ≤ y) → q (.int m) M
theorem cd_all (hc : X.calm = true) : CallD w X (.builtin "all") (c1D allD) := ⟨_, cr_all hc, VOn.c1 fun H ρ M x u q Q m ru ⟨bs, hb, h⟩ k => by
  obtain ⟨a, vs, rfl, hs, rs⟩ := lsD_sq X.K m ru hb
  exact ⟨a, bs, rfl, bls_of rfl rs ▸ hs, k.here m (.bl _) h⟩⟩
theorem cd_any (hc : X.calm = true) : CallD w X (.builtin "any") (c1D anyD) := ⟨_, cr_any hc, VOn.c1 fun H ρ M x u q Q m ru ⟨bs, hb, h⟩ k => by
  obtain ⟨a, vs, rfl, hs, rs⟩ := lsD_sq X.K m ru hb
  exact ⟨a, bs, rfl, bls_of rfl rs ▸ hs, k.here m (.bl _) h⟩⟩
theorem cd_sum (hc : X.calm = true) : CallD w X (.builtin "sum") (c1D sumD) := ⟨_, cr_sum hc, VOn.c1 fun H ρ M x u q Q m ru ⟨bs, hb, h⟩ k => by
  obtain ⟨a, vs, rfl, hs, rs⟩ := lsD_sq X.K m ru hb
  exact ⟨a, bs, rfl, ints_of rfl rs ▸ hs, k.here m (.int _) h⟩⟩
theorem cd_max (hc : X.calm = true) : CallD w X (.builtin "max") (fun xs M q => c1D maxD xs M q ∨ c2D max2D xs M q) :=
  CallD.or ⟨_, cr_max hc, VOn.c1 fun H ρ M x u q Q m ru ⟨bs, hb, hl, h⟩ k => by
    obtain ⟨a, vs, rfl, hs, rs⟩ := lsD_sq X.K m ru hb
    exact ⟨a, bs, rfl, ints_of rfl rs ▸ hs, hl, fun i h1 h2 => k.here m (.int _) (h i h1 h2)⟩⟩
  ⟨_, call_max2 hc, VOn.c2 fun H ρ M x y u v q Q m ru rv h k => by
    unfold max2D iiD at h
    split at h
    · cases ru; cases rv
      exact ⟨_, _, rfl, k.here m (.int _) h.2⟩
    · exact h.elim⟩
theorem cd_min (hc : X.calm = true) : CallD w X (.builtin "min") (fun xs M q => c1D minD xs M q ∨ c2D min2D xs M q) :=
  CallD.or ⟨_, cr_min hc, VOn.c1 fun H ρ M x u q Q m ru ⟨bs, hb, hl, h⟩ k => by
    obtain ⟨a, vs, rfl, hs, rs⟩ := lsD_sq X.K m ru hb
    exact ⟨a, bs, rfl, ints_of rfl rs ▸ hs, hl, fun i h1 h2 => k.here m (.int _) (h i h1 h2)⟩⟩
  ⟨_, call_min2 hc, VOn.c2 fun H ρ M x y u v q Q m ru rv h k => by
    unfold min2D iiD at h
    split at h
    · cases ru; cases rv
      exact ⟨_, _, rfl, k.here m (.int _) h.2⟩
    · exact h.elim⟩
/-! ### tuple(x), list(x) -/
def tupOfD : D → Sto → QD → Prop := fun x M q => ∃ ds, sqD M x = some ds ∧ q (.tup ds) M
theorem cd_tup (hK : X.K = w.K) : CallD w X (.type "tuple") (c1D tupOfD) := ⟨_, call_tuple_of, VOn.c1 fun H ρ M x u q Q m ru ⟨ds, hd, h⟩ k => by
  unfold sqD at hd
  split at hd
  · cases hd
    obtain ⟨a, vs, rfl, hs, rs⟩ := tup_sq (X := X) hK ru
    exact ⟨a, vs, rfl, .inr ⟨hs, k.here m ru h⟩⟩
  · cases hd
    cases ru with
    | scr s =>
      exact ⟨_, _, rfl, .inl ⟨hK ▸ s.sq, q_tup m k (repL_ints _) h⟩⟩
  · obtain ⟨a, vs, rfl, hs, rs⟩ := lsD_sq X.K m ru hd
    exact ⟨a, vs, rfl, .inl ⟨hs, q_tup m k rs h⟩⟩⟩
def lstOfD (mu : Bool) : D → Sto → QD → Prop := fun x M q => ∃ ds, sqD M x = some ds ∧ mkL mu q ds M
theorem cd_lst (mu : Bool) (hK : X.K = w.K) : CallD w X (.type "list") (c1D (lstOfD mu)) := ⟨_, call_list_of, VOn.c1 fun H ρ M x u q Q m ru ⟨ds, hd, h⟩ k => by
  obtain ⟨a, vs, rfl, hs, rs⟩ := sqD_sq (X := X) hK m ru hd
  exact ⟨a, vs, rfl, hs, q_lst m k rs h⟩⟩
/-! ### t < u of tuples of ints -/
def ltD : D → D → Sto → QD → Prop := fun x y M q => match x, y with
  | .int i, .int j => q (.bl (decide (i < j))) M
  | .tup a, .tup b => ∃ ns ms : List Int, a = ns.map D.int ∧ b = ms.map D.int ∧ q (.bl (HT.lexLt ns ms)) M
  | _, _ => False
theorem od_lt (hK : X.K = w.K) (hu : X.A.units < cLine) : OpD w X (compareOp .Lt) ltD := by
  refine (od_ltI.or (OpD.mk (op_ltT hu) (f := fun x y M q => ∃ ns ms : List Int, x = .tup (ns.map D.int) ∧ y = .tup (ms.map D.int) ∧ q (.bl (HT.lexLt ns ms)) M) ?_)).imp fun x y M q h => ?_
  · rintro H ρ M x y u v q Q m ru rv ⟨ns, ms, rfl, rfl, h⟩ k
    obtain ⟨a, vs, rfl, ha, ra⟩ := tup_sq (X := X) hK ru
    obtain ⟨b, us, rfl, hb, rb⟩ := tup_sq (X := X) hK rv
    exact ⟨a, b, ns, ms, rfl, rfl, ints_of rfl ra ▸ ha, ints_of rfl rb ▸ hb, k.here m (.bl _) h⟩
  · unfold ltD at h
    split at h
    · exact .inl ⟨trivial, h⟩
    · obtain ⟨ns, ms, rfl, rfl, h⟩ := h
      exact .inr ⟨ns, ms, rfl, rfl, h⟩
    · exact h.elim
end
end TL
namespace TL
open PySem PySem.Spec PyProof.Rows L2
section
variable {w : Wd} {X : Cx} {H : Hp} {ρ : List Addr} {M : Sto} {q : QD} {Q : VK}
/-! ### len -/
theorem call_lenT2 : CallR X (.builtin "len") (fun xs H Q => ∃ (p : Addr) (kvs : List (List Key × V)), xs = [.ref p] ∧ H p = some (.dT kvs) ∧ Q (.int ((kvs.length : Nat) : Int)) H) := call_len_dT
theorem zip_len {α β : Type} {a : List α} {b : List β} (h : a.length = b.length) : (a.zip b).length = a.length := by simp [h]
theorem cd_len (hK : X.K = w.K) : CallD w X (.builtin "len") (c1D lenD) := by
  refine ((CallD.or ⟨_, call_len, VOn.c1 (f := fun x M q => (∃ z, x = .str z ∧ z.length ≤ sizeLine ∧ q (.int z.length) M) ∨ ∃ ds, sqD M x = some ds ∧ q (.int ds.length) M) ?_⟩ (CallD.or ⟨_, call_lenD, VOn.c1 (f := fun x M q => ∃ ks ds, (x = .dk ks ds ∨ ∃ i, x = .obj i ∧ M[i]? = some (.dk ks ds)) ∧ q (.int ks.length) M) ?_⟩
    ⟨_, call_lenT2, VOn.c1 (f := fun x M q => ∃ ks ds, (x = .dt ks ds ∨ ∃ i, x = .obj i ∧ M[i]? = some (.dt ks ds)) ∧ q (.int ks.length) M) ?_⟩))).imp fun xs M q h => ?_
  · rintro H ρ M x u q Q m ru (⟨z, rfl, hz, h⟩ | ⟨ds, hd, h⟩) k
    · cases ru
      exact ⟨_, z.length, rfl, ⟨hz, rfl⟩, k.here m (.int _) h⟩
    · obtain ⟨a, vs, rfl, hs, rs⟩ := sqD_sq (X := X) hK m ru hd
      refine ⟨_, ds.length, rfl, ?_, k.here m (.int _) h⟩
      show (∃ xs, SqL X.K H a xs ∧ ds.length = xs.length) ∨ ∃ xs, SqT X.K H a xs ∧ ds.length = xs.length
      exact hs.imp (fun hs => ⟨vs, hs, rs.length⟩) fun hs => ⟨vs, hs, rs.length⟩
  · rintro H ρ M x u q Q m ru ⟨ks, ds, (rfl | ⟨i, rfl, hm⟩), h⟩ k
    · cases ru with
      | dk s l n r => exact ⟨_, _, rfl, s, k.here m (by rw [zip_len l]; exact .int _) h⟩
    · cases ru with
      | obj ho =>
        obtain ⟨vs, s, l, r⟩ := m.obj i _ _ ho hm (by simp)
        exact ⟨_, _, rfl, s, k.here m (by rw [zip_len l]; exact .int _) h⟩
  · rintro H ρ M x u q Q m ru ⟨ks, ds, (rfl | ⟨i, rfl, hm⟩), h⟩ k
    · cases ru with
      | dt s l n r => exact ⟨_, _, rfl, s, k.here m (by rw [zip_len l]; exact .int _) h⟩
    · cases ru with
      | obj ho =>
        obtain ⟨vs, s, l, r⟩ := m.obj i _ _ ho hm (by simp)
        exact ⟨_, _, rfl, s, k.here m (by rw [zip_len l]; exact .int _) h⟩
  · unfold c1D at h ⊢
    split at h
    · rename_i x
      unfold lenD at h
      split at h
      · exact .inl (.inl ⟨_, rfl, h.1, h.2⟩)
      · rename_i i
        split at h
        · rename_i ds hm
          exact .inl (.inr ⟨ds, by simp [sqD, lsD, hm], h⟩)
        · rename_i ks ds hm
          exact .inr (.inl ⟨ks, ds, .inr ⟨i, rfl, hm⟩, h⟩)
        · rename_i ks ds hm
          exact .inr (.inr ⟨ks, ds, .inr ⟨i, rfl, hm⟩, h⟩)
        · exact h.elim
      · exact .inl (.inr ⟨_, rfl, h⟩)
      · exact .inl (.inr ⟨_, rfl, by rw [List.length_map]; exact h⟩)
      · exact .inl (.inr ⟨_, rfl, h⟩)
      · exact .inr (.inl ⟨_, _, .inl rfl, h⟩)
      · exact .inr (.inr ⟨_, _, .inl rfl, h⟩)
      · exact h.elim
    · exact h.elim
/-! ### isinstance -/
def tyD (M : Sto) : D → Option String
  | .non => some "NoneType"
  | .bl _ => some "bool"
  | .int _ => some "int"
  | .str _ => some "str"
  | .tup _ => some "tuple"
  | .lst _ => some "list"
  | .dk _ _ => some "dict"
  | .dt _ _ => some "dict"
  | .obj i => match M[i]? with
    | some (.lst _) => some "list"
    | some (.dk _ _) => some "dict"
    | some (.dt _ _) => some "dict"
    | _ => none
  | _ => none
theorem tyD_ty {x : D} {u : V} {t : String} (K : PySem.W.Frag) (m : RepM w H ρ M) (r : Rp w H ρ M x u) (h : tyD M x = some t) : TyX K H u (.type t) := by
  cases r with
  | non => cases h; exact .base .non
  | bl b => cases h; exact .base (.bl b)
  | int i => cases h; exact .base (.int i)
  | str z => cases h; exact .base (.str z)
  | tup s rs => cases h; exact .base (.tup (s.resolve_right id).1)
  | lst s rs =>
    cases h
    exact .base (.lst (s.resolve_right id).1)
  | dk s l n rs => cases h; exact .base (.dK s)
  | dt s l n rs => cases h; exact .base (.dT s)
  | @obj i a ho =>
    simp only [tyD] at h
    split at h
    · rename_i ds hm
      cases h
      obtain ⟨vs, hv, _⟩ := m.obj i a _ ho hm (by simp)
      exact .base (.lst hv)
    · rename_i ks ds hm
      cases h
      obtain ⟨vs, hv, _⟩ := m.obj i a _ ho hm (by simp)
      exact .base (.dK hv)
    · rename_i ks ds hm
      cases h
      obtain ⟨vs, hv, _⟩ := m.obj i a _ ho hm (by simp)
      exact .base (.dT hv)
    · cases h
  | _ => cases h
def tyNames : List String := ["NoneType", "bool", "int", "str", "tuple", "list", "dict"]
def bsub (t n : String) : Bool := t == n || (t == "bool" && n == "int")
theorem kitB_tys : ∀ t ∈ tyNames, ∀ n ∈ tyNames, kitB t n = some (bsub t n) := by
  have h : (tyNames.all fun t => tyNames.all fun n => kitB t n == some (bsub t n)) = true := by decide +kernel
  intro t ht n hn
  have h1 := List.all_eq_true.mp h t ht
  have h2 := List.all_eq_true.mp h1 n hn
  exact eq_of_beq h2
theorem tyD_name {x : D} {t : String} (h : tyD M x = some t) : t ∈ tyNames := by
  unfold tyD at h
  split at h <;> first | (cases h; done) | (cases h; decide) | skip
  split at h <;> first | (cases h; done) | (cases h; decide)
/-- what own error classes must be, to be asked of -/
structure ErrC (K : PySem.W.Frag) (C : Addr) : Prop where
  hcl : (PySem.W.clsIn K C).isSome = true
  ga : PySem.W.findIn K (.ref C) "__getattribute__" = some (some (.builtin "BaseException.__getattribute__"))
  gg : PySem.W.findIn K (.ref C) "__getattr__" = some none
  exC : PySem.W.subIn K (.ref C) (.type "BaseException") = some true
  hdC : PySem.W.hasDictIn K C = true
  ha : PySem.W.findIn K (.ref C) "__class__" = some (some (.builtin "object.__class__"))
  hn : PySem.W.specialIn K (.builtin "object.__class__") "__get__" = some (some (.builtin "getset_descriptor.__get__"))
  ht : PySem.W.takesIn K (.builtin "object.__class__") = some true
  hm : PySem.W.mroIn K C (.type "object") = some true
def isiD (sub : Nat → Nat → Bool) : D → D → Sto → QD → Prop := fun x c M q => match c with
  | .raw (.ty n) => n ∈ tyNames ∧ ∃ t, tyD M x = some t ∧ q (.bl (bsub t n)) M
  | .cls k => (match x with
    | .err c' _ => q (.bl (sub c' k)) M
    | x => ∃ t, tyD M x = some t ∧ q (.bl false) M)
  | _ => False
theorem Rep.inst {c : Nat} {ds : List D} {a : Addr} {pins : List (Addr × Obj)} {σ : L2.St} {s : Shared} (I : Inv X pins σ H s) {v : V} (r : Rp w H ρ M (.err c ds) v) : ∃ a ox od, v = .ref a ∧ PySem.W.InstAt s.heap a ox (w.cls c) od := by
  cases r with
  | @err _ a d vs _ h n l f rs =>
    obtain ⟨⟨oe, fv, he, hc, hd, hdat⟩, _, _⟩ := I.hok a _ h
    have nc : PySem.W.notCls oe = true := by unfold PySem.W.notCls; rw [hdat] <;> rfl
    rcases f with ⟨rfl, e⟩ | ⟨dd, e, n1, h1⟩
    · exact ⟨a, oe, none, rfl, he, hc, nc, by rw [hd, e]; exact True.intro⟩
    · obtain ⟨mA, hns, hr⟩ := (show ObjOk X.prog X.w H s.heap dd (.xd ((w.fld c).zip vs)) from I.hok dd _ h1)
      obtain ⟨od, ho, hl⟩ := lookIn_ns hns
      exact ⟨a, oe, some od, rfl, he, hc, nc, by rw [hd, e]; exact ho⟩
/-- isinstance of an own error -/
def rIsiE (w : Wd) (sub : Nat → Nat → Bool) : List V → Hp → VK → Prop := fun xs H Q => ∃ ρ M c ds v k, Rp w H ρ M (.err c ds) v ∧ xs = [v, .ref (w.cls k)] ∧ Q (.bl (sub c k)) H
theorem cr_isiE (sub : Nat → Nat → Bool) (hE : ∀ c, ErrC X.K (w.cls c)) (hs : ∀ c k, PySem.W.kitOne X.K (.ref (w.cls c)) (.ref (w.cls k)) = some (sub c k)) : CallR X (.builtin "isinstance") (rIsiE w sub) := by
  rintro pins s σ H xs us Q I r ⟨ρ, M, c, ds, v, k, rv, rfl, q⟩
  obtain ⟨a, ox, od, rfl, J⟩ := Rep.inst (a := 0) I rv
  obtain ⟨u1, u2, rfl, r1, r2⟩ := vals2 r
  obtain rfl : u1 = Value.ref a := r1
  obtain rfl : u2 = Value.ref (w.cls k) := r2
  have E := hE c
  exact PySem.W.kia_one (PySem.W.kitx_exc E.hcl E.ga E.gg E.exC E.ha E.hn E.ht E.hm) I.kIn J (hs c k) (fun z => nomatch z) fun tk => ⟨.bl (sub c k), H, I.kept (t' := tk) fun _ _ z => z, rfl, q⟩
theorem cd_isi (sub : Nat → Nat → Bool) (hE : ∀ c, ErrC X.K (w.cls c)) (hs : ∀ c k, PySem.W.kitOne X.K (.ref (w.cls c)) (.ref (w.cls k)) = some (sub c k)) (hn : ∀ t ∈ tyNames, ∀ k, PySem.W.kitOne X.K (.type t) (.ref (w.cls k)) = some false) :
    CallD w X (.builtin "isinstance") (c2D (isiD sub)) := by
  refine ((CallD.or ⟨_, call_isi, VOn.c2 (f := fun x c M q => ∃ t b, tyD M x = some t ∧ q (.bl b) M ∧ ((∃ n, c = .raw (.ty n) ∧ n ∈ tyNames ∧ b = bsub t n) ∨ ∃ k, c = .cls k ∧ b = false)) ?_⟩
    ⟨_, cr_isiE sub hE hs, VOn.c2 (f := fun x c M q => ∃ c' ds k, x = .err c' ds ∧ c = .cls k ∧ q (.bl (sub c' k)) M) ?_⟩)).imp fun xs M q h => ?_
  · rintro H ρ M x c u v q Q m ru rv ⟨t, b, ht, h, hc⟩ k
    have ty := tyD_ty X.K m ru ht
    rcases hc with ⟨n, rfl, hm, rfl⟩ | ⟨j, rfl, rfl⟩
    · cases rv
      exact ⟨_, _, _, _, _, rfl, .ty n, ty, kit_ty (kitB_tys t (tyD_name ht) n hm), k.here m (.bl _) h⟩
    · cases rv
      exact ⟨_, _, _, _, _, rfl, .own _, ty, hn t (tyD_name ht) j, k.here m (.bl _) h⟩
  · rintro H ρ M x c u v q Q m ru rv ⟨c', ds, j, rfl, rfl, h⟩ k
    cases rv
    exact ⟨ρ, M, c', ds, u, j, ru, rfl, k.here m (.bl _) h⟩
  · unfold c2D at h ⊢
    split at h
    · rename_i x c
      unfold isiD at h
      split at h
      · obtain ⟨hm, t, ht, h⟩ := h
        exact .inl ⟨t, _, ht, h, .inl ⟨_, rfl, hm, rfl⟩⟩
      · split at h
        · exact .inr ⟨_, _, _, rfl, rfl, h⟩
        · obtain ⟨t, ht, h⟩ := h
          exact .inl ⟨t, false, ht, h, .inr ⟨_, rfl, rfl⟩⟩
      · exact h.elim
    · exact h.elim
/-! ### err.f -/
def fldD (w : Wc) (f : Str) : D → Sto → QD → Prop := fun x M q => match x with
  | .err c [d] => w.fld c = [f] ∧ q d M
  | _ => False
theorem do_fld {e : Expr} {f : Str} {pos : Pos} {t : TED} (hK : X.K = w.K) (hE : ∀ c, ErrC X.K (w.cls c)) (hno : ∀ c, w.fld c = [f] → PySem.W.findIn X.K (.ref (w.cls c)) f = some none) (he : DE w X e t) (hb : attributeBase e f X.env (eval e X.env) = eval e X.env) : DE w X (.Attribute e f pos) (dUn (fldD w.toWc f) t) := by
  refine ⟨fun Wv tk => ⟨fun pins s σv H Q I ⟨σ, ρ, M, q, xx, a, hq, k, kx⟩ => ?_⟩⟩
  refine attr_of hb (thn ((he.run Wv tk).run pins s σv H (fun v H1 => ∃ ρ1 M1 d, Exs w H ρ M H1 ρ1 M1 ∧ RepM w H1 ρ1 M1 ∧ Rp w H1 ρ1 M1 d v ∧ fldD w.toWc f d M1 q) I ⟨σ, ρ, M, _, xx, a, hq, fun H1 ρ1 M1 d v e1 m1 r1 h1 => ⟨ρ1, M1, d, e1, m1, r1, h1⟩, kx⟩) fun u s1 ⟨v, H1, I1, rv, ρ1, M1, d, e1, m1, r1, h1⟩ => ?_)
  unfold fldD at h1
  split at h1
  · rename_i c d1
    obtain ⟨hf, hq1⟩ := h1
    obtain ⟨a, ox, od, ev, J⟩ := Rep.inst (a := 0) I1 r1
    subst ev
    obtain rfl : u = Value.ref a := rv
    have E := hE c
    cases r1 with
    | @err _ _ dd0 vs _ h n l fx rs =>
      cases rs with
      | @cons _ v1 _ _ r2 r3 =>
        cases r3
        rcases fx with ⟨z, _⟩ | ⟨dd, e, n1, h2⟩
        · cases z
        · rw [hf] at h2
          have hx : ObjOk X.prog X.w H1 s1.heap dd (.xd [(f, v1)]) := I1.hok dd _ h2
          obtain ⟨mA, hns, hr⟩ := hx
          obtain ⟨od', ho, hl⟩ := lookIn_ns hns
          have lk : List.lookup f [(f, v1)] = some v1 := by simp [List.lookup]
          obtain ⟨u, hu, ru⟩ := RelO.some_of (v := v1) (o := mA f) (by rw [← lk]; exact hr f)
          have J2 : PySem.W.InstAt s1.heap a ox (w.cls c) (some od') := by
            obtain ⟨⟨oe, fv, he, hc, hd, hdat⟩, _, _⟩ := I1.hok a _ h
            have eo : oe = ox := Option.some.inj (he.symm.trans J.at_)
            subst eo
            exact ⟨he, hc, J.no, by rw [hd, e]; exact ho⟩
          exact HandSPX.exc_get I1.kIn J2 E.ga E.gg E.exC (PySem.W.findObj_own E.hdC (hno c hf) rfl (by rw [hl, hu])) (handed_of ru) ⟨v1, H1, I1.tok _, ru, k _ _ _ _ _ e1 m1 r2 hq1⟩
  · exact h1.elim
end
end TL
namespace TL
open PySem PySem.Spec PyProof.Rows L2
/-! ## dicts: keys beside values -/
section
variable {κ α : Type} [DecidableEq κ]
def lkp : List κ → List α → κ → Option α
  | k' :: ks, d :: ds, k => if k' = k then some d else lkp ks ds k
  | _, _, _ => none
def putKs (ks : List κ) (k : κ) : List κ := if k ∈ ks then ks else ks ++ [k]
def putVs (ks : List κ) (ds : List α) (k : κ) (d : α) : List α := if k ∈ ks then List.zipWith (fun k' x => if k' = k then d else x) ks ds else ds ++ [d]
theorem putKs_len (ks : List κ) (ds : List α) (k : κ) (d : α) (h : ks.length = ds.length) : (putKs ks k).length = (putVs ks ds k d).length := by
  unfold putKs putVs
  split <;> simp [h]
end
theorem valV_zip {κ : Type} [DecidableEq κ] (k : κ) : ∀ (ks : List κ) (vs : List V), valV (ks.zip vs) k = lkp ks vs k
  | [], _ => by simp [lkp, valV]
  | _ :: _, [] => by simp [lkp, valV]
  | k' :: ks, v :: vs => by
    rw [List.zip_cons_cons]
    by_cases h : k' = k
    · rw [valV_pos h, lkp, if_pos h]
    · rw [valV_neg h, lkp, if_neg h, valV_zip k ks vs]
theorem zip_any {κ : Type} [DecidableEq κ] (k : κ) : ∀ (ks : List κ) (vs : List V), ks.length = vs.length → (((ks.zip vs).any fun kv => decide (kv.1 = k)) = true ↔ k ∈ ks)
  | [], _, _ => by simp
  | _ :: _, [], h => by simp at h
  | k' :: ks, v :: vs, h => by
    rw [List.zip_cons_cons, List.any_cons, Bool.or_eq_true, zip_any k ks vs (by simpa using h), List.mem_cons]
    simp only [decide_eq_true_eq]
    exact ⟨fun q => q.imp Eq.symm id, fun q => q.imp Eq.symm id⟩
theorem zip_map {κ : Type} [DecidableEq κ] (k : κ) (y : V) : ∀ (ks : List κ) (vs : List V), (ks.zip vs).map (fun kv => if kv.1 = k then (kv.1, y) else kv) = ks.zip (List.zipWith (fun k' x => if k' = k then y else x) ks vs)
  | [], _ => by simp
  | _ :: _, [] => by simp
  | k' :: ks, v :: vs => by
    rw [List.zip_cons_cons, List.map_cons, zip_map k y ks vs, List.zipWith_cons_cons, List.zip_cons_cons]
    congr 1
    split <;> rfl
theorem putK_zip {κ : Type} [DecidableEq κ] (k : κ) (y : V) (ks : List κ) (vs : List V) (h : ks.length = vs.length) : putK (ks.zip vs) k y = (putKs ks k).zip (putVs ks vs k y) := by
  unfold putK putKs putVs
  by_cases hk : k ∈ ks
  · rw [if_pos ((zip_any k ks vs h).mpr hk), if_pos hk, if_pos hk, zip_map]
  · rw [if_neg (fun z => hk ((zip_any k ks vs h).mp z)), if_neg hk, if_neg hk, List.zip_append h]
    rfl
section
variable {w : Wd} {X : Cx} {H : Hp} {ρ : List Addr} {M : Sto} {q : QD} {Q : VK}
theorem lkp_rep {κ : Type} [DecidableEq κ] {k : κ} : ∀ {ks : List κ} {ds : List D} {vs : List V} {d : D}, Rps w H ρ M ds vs → lkp ks ds k = some d → ∃ v, lkp ks vs k = some v ∧ Rp w H ρ M d v
  | [], _, _, _, _, h => by simp [lkp] at h
  | _ :: _, _, _, _, .nil, h => by simp [lkp] at h
  | k' :: ks, _, _, d, .cons r rs, h => by
    rw [lkp] at h ⊢
    by_cases e : k' = k
    · rw [if_pos e] at h ⊢
      cases h
      exact ⟨_, rfl, r⟩
    · rw [if_neg e] at h ⊢
      exact lkp_rep rs h
theorem lkp_none {κ : Type} [DecidableEq κ] {k : κ} : ∀ {ks : List κ} {ds : List D} {vs : List V}, Rps w H ρ M ds vs → lkp ks ds k = none → lkp ks vs k = none
  | [], _, _, _, h => by simp [lkp]
  | _ :: _, _, _, .nil, h => by simp [lkp]
  | k' :: ks, _, _, .cons r rs, h => by
    rw [lkp] at h ⊢
    by_cases e : k' = k
    · rw [if_pos e] at h; cases h
    · rw [if_neg e] at h ⊢
      exact lkp_none rs h
theorem zipW_rep {κ : Type} [DecidableEq κ] {k : κ} {d : D} {y : V} (ry : Rp w H ρ M d y) : ∀ {ks : List κ} {ds : List D} {vs : List V}, Rps w H ρ M ds vs →
    Rps w H ρ M (List.zipWith (fun k' x => if k' = k then d else x) ks ds) (List.zipWith (fun k' x => if k' = k then y else x) ks vs)
  | [], _, _, _ => by rw [List.zipWith_nil_left, List.zipWith_nil_left]; exact .nil
  | _ :: _, _, _, .nil => by rw [List.zipWith_nil_right, List.zipWith_nil_right]; exact .nil
  | k' :: ks, _, _, .cons r rs => by
    rw [List.zipWith_cons_cons, List.zipWith_cons_cons]
    refine .cons ?_ (zipW_rep ry rs)
    split
    · exact ry
    · exact r
theorem putVs_rep {κ : Type} [DecidableEq κ] {ks : List κ} {k : κ} {d : D} {y : V} {ds : List D} {vs : List V} (ry : Rp w H ρ M d y) (r : Rps w H ρ M ds vs) : Rps w H ρ M (putVs ks ds k d) (putVs ks vs k y) := by
  unfold putVs
  split
  · exact zipW_rep ry r
  · exact r.snoc ry
/-! ### keys -/
def kD : D → Option Key
  | .int i => some (.inl i)
  | .str x => some (.inr x)
  | _ => none
def tkD : D → Option (List Key)
  | .tup ds => ds.mapM kD
  | _ => none
theorem kD_v {d : D} {v : V} {k : Key} (r : Rp w H ρ M d v) (h : kD d = some k) : v = kV k := by
  unfold kD at h
  split at h
  · cases h; cases r; rfl
  · cases h; cases r; rfl
  · cases h
theorem kDs_v : ∀ {ds : List D} {vs : List V} {ks : List Key}, Rps w H ρ M ds vs → ds.mapM kD = some ks → vs = ks.map kV
  | [], _, _, .nil, h => by
    simp at h
    subst h
    rfl
  | d :: ds, _, _, .cons r rs, h => by
    rw [List.mapM_cons] at h
    cases h1 : kD d with
    | none => rw [h1] at h; cases h
    | some k =>
      cases h2 : ds.mapM kD with
      | none => rw [h1, h2] at h; cases h
      | some ks =>
        rw [h1, h2] at h
        cases h
        rw [kD_v r h1, kDs_v rs h2]
        rfl
theorem tkD_v {d : D} {v : V} {k : List Key} (r : Rp w H ρ M d v) (h : tkD d = some k) : ∃ b, v = .ref b ∧ H b = some (.tup (k.map kV)) := by
  unfold tkD at h
  split at h
  · cases r with
    | tup s rs => exact ⟨_, rfl, kDs_v rs h ▸ (s.resolve_right id).1⟩
  · cases h
def dkOf (M : Sto) : D → Option (List Key × List D)
  | .dk ks ds => some (ks, ds)
  | .obj i => match M[i]? with | some (.dk ks ds) => some (ks, ds) | _ => none
  | _ => none
def dtOf (M : Sto) : D → Option (List (List Key) × List D)
  | .dt ks ds => some (ks, ds)
  | .obj i => match M[i]? with | some (.dt ks ds) => some (ks, ds) | _ => none
  | _ => none
theorem dkOf_v {d : D} {v : V} {ks : List Key} {ds : List D} (m : RepM w H ρ M) (r : Rp w H ρ M d v) (h : dkOf M d = some (ks, ds)) : ∃ a vs, v = .ref a ∧ H a = some (.dK (ks.zip vs)) ∧ ks.length = vs.length ∧ Rps w H ρ M ds vs := by
  cases r with
  | dk s l n rs => cases h; exact ⟨_, _, rfl, s, l, rs⟩
  | @obj i a ho =>
    simp only [dkOf] at h
    split at h
    · rename_i ks' ds' hm
      cases h
      obtain ⟨vs, s, l, rs⟩ := m.obj i a _ ho hm (by simp)
      exact ⟨a, vs, rfl, s, l, rs⟩
    · cases h
  | _ => cases h
theorem dtOf_v {d : D} {v : V} {ks : List (List Key)} {ds : List D} (m : RepM w H ρ M) (r : Rp w H ρ M d v) (h : dtOf M d = some (ks, ds)) : ∃ a vs, v = .ref a ∧ H a = some (.dT (ks.zip vs)) ∧ ks.length = vs.length ∧ Rps w H ρ M ds vs := by
  cases r with
  | dt s l n rs => cases h; exact ⟨_, _, rfl, s, l, rs⟩
  | @obj i a ho =>
    simp only [dtOf] at h
    split at h
    · rename_i ks' ds' hm
      cases h
      obtain ⟨vs, s, l, rs⟩ := m.obj i a _ ho hm (by simp)
      exact ⟨a, vs, rfl, s, l, rs⟩
    · cases h
  | _ => cases h
/-- what the dict x holds at y -/
def dget (M : Sto) (x y : D) : Option (Option D) :=
  match dkOf M x with
  | some (ks, ds) => (kD y).map fun k => lkp ks ds k
  | none => match dtOf M x with
    | some (ks, ds) => (tkD y).map fun k => lkp ks ds k
    | none => none
def gRel (w : Wd) (H : Hp) (ρ : List Addr) (M : Sto) : Option D → Option V → Prop
  | some d, o' => ∃ z, o' = some z ∧ Rp w H ρ M d z
  | none, o' => o' = none
theorem dget_v {x y : D} {u v : V} {o : Option D} (m : RepM w H ρ M) (ru : Rp w H ρ M x u) (rv : Rp w H ρ M y v) (h : dget M x y = some o) : ∃ a o', u = .ref a ∧ DGet H a v o' ∧ gRel w H ρ M o o' := by
  unfold dget at h
  split at h
  · rename_i ks ds hd
    obtain ⟨a, vs, rfl, s, l, rs⟩ := dkOf_v m ru hd
    cases hk : kD y with
    | none => rw [hk] at h; cases h
    | some k =>
      rw [hk] at h
      cases h
      rw [kD_v rv hk]
      refine ⟨a, _, rfl, .k s, ?_⟩
      rw [valV_zip]
      show gRel w H ρ M (lkp ks ds k) _
      cases ho : lkp ks ds k with
      | none => exact lkp_none rs ho
      | some d => exact lkp_rep rs ho
  · split at h
    · rename_i ks ds hd
      obtain ⟨a, vs, rfl, s, l, rs⟩ := dtOf_v m ru hd
      cases hk : tkD y with
      | none => rw [hk] at h; cases h
      | some k =>
        rw [hk] at h
        cases h
        obtain ⟨b, rfl, hb⟩ := tkD_v rv hk
        refine ⟨a, _, rfl, .t s hb, ?_⟩
        rw [valV_zip]
        show gRel w H ρ M (lkp ks ds k) _
        cases ho : lkp ks ds k with
        | none => exact lkp_none rs ho
        | some d => exact lkp_rep rs ho
    · cases h
/-! ### d[k], k in d -/
def rDG : R2 := fun x y H Q => ∃ a v, x = .ref a ∧ DGet H a y (some v) ∧ Q v H
theorem ix_dget (hu : X.A.units + 1 < cLine) : IxR X rDG := by
  intro value slice pins s σ H x y v u Q I rx ry h hs
  obtain ⟨a, z, rfl, g, q⟩ := h
  obtain rfl : v = Value.ref a := rx
  refine tail_any (ops := [.ref a, u]) (dict_typeIs I g) PySem.F.slot_dict_getitem.lookup (d_getItem hu I g ry fun w' s3 I3 rw' => ⟨z, H, I3, rw', q⟩) hs
theorem xd_all (hK : X.K = w.K) (hu : X.A.units + 1 < cLine) : IxD w X (fun x y M q => ixD x y M q ∨ ∃ d, dget M x y = some (some d) ∧ q d M) := by
  refine (xd_seq hK).or ⟨_, ix_dget hu, fun H ρ M x y u v q Q m ru rv ⟨d, hd, h⟩ k => ?_⟩
  obtain ⟨a, o', rfl, g, z, rfl, rz⟩ := dget_v m ru rv hd
  exact ⟨a, z, rfl, g, k.here m rz h⟩
def rDI : R2 := fun y x H Q => ∃ a o, x = .ref a ∧ DGet H a y o ∧ Q (.bl o.isSome) H
def rDN : R2 := fun y x H Q => ∃ a o, x = .ref a ∧ DGet H a y o ∧ Q (.bl (!o.isSome)) H
theorem op_dIn (hu : X.A.units + 1 < cLine) : OpR X (compareOp .In) rDI := by
  intro pins s σ H y x iv u Q I ry rx ⟨a, o, ex, g, q⟩
  subst ex
  obtain rfl : u = Value.ref a := rx
  exact d_in hu I g ry fun s3 I3 => ⟨.bl o.isSome, H, I3, rfl, q⟩
theorem op_dNotIn (hu : X.A.units + 1 < cLine) : OpR X (compareOp .NotIn) rDN := by
  intro pins s σ H y x iv u Q I ry rx ⟨a, o, ex, g, q⟩
  subst ex
  obtain rfl : u = Value.ref a := rx
  exact d_notIn hu I g ry fun s3 I3 => ⟨.bl (!o.isSome), H, I3, rfl, q⟩
/-- flat data -/
def fD : D → Option V
  | .non => some .non
  | .bl b => some (.bl b)
  | .int i => some (.int i)
  | .str x => some (.str x)
  | _ => none
theorem fD_v {d : D} {v u : V} (r : Rp w H ρ M d v) (h : fD d = some u) : v = u ∧ flatV u = true := by
  unfold fD at h
  split at h <;> first | (cases h; cases r; exact ⟨rfl, rfl⟩) | cases h
theorem fDs_v : ∀ {ds : List D} {vs us : List V}, Rps w H ρ M ds vs → ds.mapM fD = some us → vs = us ∧ us.all flatV = true
  | [], _, _, .nil, h => by
    simp at h
    subst h
    exact ⟨rfl, rfl⟩
  | d :: ds, _, _, .cons r rs, h => by
    rw [List.mapM_cons] at h
    cases h1 : fD d with
    | none => rw [h1] at h; cases h
    | some k =>
      cases h2 : ds.mapM fD with
      | none => rw [h1, h2] at h; cases h
      | some ks =>
        rw [h1, h2] at h
        cases h
        obtain ⟨e1, f1⟩ := fD_v r h1
        obtain ⟨e2, f2⟩ := fDs_v rs h2
        rw [e1, e2]
        exact ⟨rfl, by rw [List.all_cons, f1, f2]; rfl⟩
def inD : D → D → Sto → QD → Prop := fun y x M q =>
  (∃ o, dget M x y = some o ∧ q (.bl o.isSome) M) ∨ (∃ ds v vs, sqD M x = some ds ∧ fD y = some v ∧ ds.mapM fD = some vs ∧ q (.bl (inV v vs)) M) ∨
    ∃ n ds p ps, lsD M x = some ds ∧ pd M n y = some p ∧ ds.mapM (pd M n) = some ps ∧ SeqAt.shaped p = true ∧ SeqAt.shaped (.list ps) = true ∧ q (.bl (ps.any fun z => PyData.eqv z p)) M
def notInD : D → D → Sto → QD → Prop := fun y x M q => inD y x M fun d M' => ∃ b, d = .bl b ∧ q (.bl (!b)) M'
theorem od_in (hK : X.K = w.K) (hu : X.A.units + 65 < cLine) : OpD w X (compareOp .In) inD := by
  refine (OpD.mk (op_dIn (by omega)) ?_).or ((OpD.mk op_in_seq ?_).or (OpD.mk (op_inD hu) ?_))
  · rintro H ρ M y x v u q Q m rv ru ⟨o, hd, h⟩ k
    obtain ⟨a, o', rfl, g, ho⟩ := dget_v m ru rv hd
    refine ⟨a, o', rfl, g, ?_⟩
    have e : o'.isSome = o.isSome := by
      cases o with
      | none => rw [show o' = none from ho]; rfl
      | some d => obtain ⟨z, e, _⟩ := ho; rw [e]; rfl
    rw [e]
    exact k.here m (.bl _) h
  · rintro H ρ M y x v u q Q m rv ru ⟨ds, z, zs, hs, hy, hz, h⟩ k
    obtain ⟨a, vs, rfl, hh, rs⟩ := sqD_sq (X := X) hK m ru hs
    obtain ⟨e1, f1⟩ := fD_v rv hy
    obtain ⟨e2, f2⟩ := fDs_v rs hz
    exact ⟨a, vs, rfl, hh, e1 ▸ f1, e2 ▸ f2, k.here m (by rw [e1, e2]; exact .bl _) h⟩
  · rintro H ρ M y x v u q Q m rv ru ⟨n, ds, p, ps, hs, hy, hz, s1, s2, h⟩ k
    obtain ⟨a, vs, rfl, hh, rs⟩ := lsD_sq X.K m ru hs
    exact ⟨p, ps, hK ▸ pd_dp m n _ _ _ rv hy, .lst hh (hK ▸ pds_dp (pd_dp m n) rs hz), s1, s2, k.here m (.bl _) h⟩
theorem od_notIn (hK : X.K = w.K) (hu : X.A.units + 65 < cLine) : OpD w X (compareOp .NotIn) notInD := by
  refine ((OpD.mk (op_dNotIn (by omega)) (f := fun y x M q => ∃ o, dget M x y = some o ∧ q (.bl (!o.isSome)) M) ?_).or ((OpD.mk op_notIn_seq (f := fun y x M q => ∃ ds v vs, sqD M x = some ds ∧ fD y = some v ∧ ds.mapM fD = some vs ∧ q (.bl (!inV v vs)) M) ?_).or
    (OpD.mk (op_notInD hu) (f := fun y x M q => ∃ n ds p ps, lsD M x = some ds ∧ pd M n y = some p ∧ ds.mapM (pd M n) = some ps ∧ SeqAt.shaped p = true ∧ SeqAt.shaped (.list ps) = true ∧ q (.bl (!ps.any fun z => PyData.eqv z p)) M) ?_))).imp fun y x M q h => ?_
  · rintro H ρ M y x v u q Q m rv ru ⟨o, hd, h⟩ k
    obtain ⟨a, o', rfl, g, ho⟩ := dget_v m ru rv hd
    refine ⟨a, o', rfl, g, ?_⟩
    have e : o'.isSome = o.isSome := by
      cases o with
      | none => rw [show o' = none from ho]; rfl
      | some d => obtain ⟨z, e, _⟩ := ho; rw [e]; rfl
    rw [e]
    exact k.here m (.bl _) h
  · rintro H ρ M y x v u q Q m rv ru ⟨ds, z, zs, hs, hy, hz, h⟩ k
    obtain ⟨a, vs, rfl, hh, rs⟩ := sqD_sq (X := X) hK m ru hs
    obtain ⟨e1, f1⟩ := fD_v rv hy
    obtain ⟨e2, f2⟩ := fDs_v rs hz
    exact ⟨a, vs, rfl, hh, e1 ▸ f1, e2 ▸ f2, k.here m (by rw [e1, e2]; exact .bl _) h⟩
  · rintro H ρ M y x v u q Q m rv ru ⟨n, ds, p, ps, hs, hy, hz, s1, s2, h⟩ k
    obtain ⟨a, vs, rfl, hh, rs⟩ := lsD_sq X.K m ru hs
    exact ⟨p, ps, hK ▸ pd_dp m n _ _ _ rv hy, .lst hh (hK ▸ pds_dp (pd_dp m n) rs hz), s1, s2, k.here m (.bl _) h⟩
  · unfold notInD inD at h
    rcases h with ⟨o, hd, b, e, h⟩ | ⟨ds, v, vs, h1, h2, h3, b, e, h⟩ | ⟨n, ds, p, ps, h1, h2, h3, h4, h5, b, e, h⟩
    · cases e
      exact .inl ⟨o, hd, h⟩
    · cases e
      exact .inr (.inl ⟨ds, v, vs, h1, h2, h3, h⟩)
    · cases e
      exact .inr (.inr ⟨n, ds, p, ps, h1, h2, h3, h4, h5, h⟩)
/-! ### d.get(k, x) -/
def isDic (M : Sto) (x : D) : Prop := (dkOf M x).isSome = true ∨ (dtOf M x).isSome = true
def dGet2 (td ty tx : TED) : TED := fun σ M q x => td σ M (fun d M1 => isDic M1 d ∧ ty σ M1 (fun y M2 => tx σ M2 (fun z M3 => ∃ o, dget M3 d y = some o ∧ q (o.getD z) M3) x) x) x
theorem isDic_v {x : D} {u : V} (m : RepM w H ρ M) (ru : Rp w H ρ M x u) (h : isDic M x) : ∃ a, u = .ref a ∧ IsD H a := by
  rcases h with h | h
  · obtain ⟨⟨ks, ds⟩, hd⟩ := Option.isSome_iff_exists.mp h
    obtain ⟨a, vs, rfl, s, _⟩ := dkOf_v m ru hd
    exact ⟨a, rfl, .inl ⟨_, .inl s⟩⟩
  · obtain ⟨⟨ks, ds⟩, hd⟩ := Option.isSome_iff_exists.mp h
    obtain ⟨a, vs, rfl, s, _⟩ := dtOf_v m ru hd
    exact ⟨a, rfl, .inr ⟨_, .inl s⟩⟩
theorem do_get2 {o e f : Expr} {apos cpos : Pos} {td ty tx : TED} (hu : X.A.units + 1 < cLine) (ho : DE w X o td) (he : DE w X e ty) (hf : DE w X f tx) (mm : M2 X o "get" apos e f cpos) : DE w X (.Call (.Attribute o "get" apos) [e, f] [] cpos) (dGet2 td ty tx) :=
  ⟨fun Wv tk => (pe_dget2 hu (ho.run Wv tk) (he.run Wv tk) (hf.run Wv tk) mm).imp fun σv H Q ⟨σ, ρ, M, q, x, a, hq, k, kx⟩ =>
    ⟨σ, ρ, M, _, x, a, hq, fun H1 ρ1 M1 d v e1 m1 r1 ⟨hd, h1⟩ => by
      obtain ⟨b, rfl, hD⟩ := isDic_v m1 r1 hd
      refine ⟨b, rfl, hD, σ, ρ1, M1, _, x, a.ext m1 e1, h1, fun H2 ρ2 M2 d2 v2 e2 m2 r2 h2 => ⟨σ, ρ2, M2, _, x, (a.ext m1 e1).ext m2 e2, h2, fun H3 ρ3 M3 d3 v3 e3 m3 r3 ⟨o, hg, h3⟩ => ?_, kx.ext (e1.trans e2)⟩, kx.ext e1⟩
      obtain ⟨b', o', e, g, ho⟩ := dget_v m3 ((r1.ext e2).ext e3) (r2.ext e3) hg
      cases e
      refine ⟨o', g, k _ _ _ _ _ ((e1.trans e2).trans e3) m3 (?_ : Rp w H3 ρ3 M3 (o.getD d3) _) h3⟩
      cases o with
      | none => rw [show o' = none from ho]; exact r3
      | some d4 => obtain ⟨z, e, rz⟩ := ho; rw [e]; exact rz, kx⟩⟩
/-! ### d[k] = v -/
/-- the store behind d[y] = v -/
def dput (M : Sto) (x y d : D) : Option Sto := match x with
  | .obj i => (match M[i]? with
    | some (.dk ks ds) => (kD y).bind fun k => if ks.length < sizeLine then some (M.set i (.dk (putKs ks k) (putVs ks ds k d))) else none
    | some (.dt ks ds) => (tkD y).bind fun k => if ks.length < sizeLine then some (M.set i (.dt (putKs ks k) (putVs ks ds k d))) else none
    | _ => none)
  | _ => none
theorem dput_v {x y d : D} {u v z : V} {M' : Sto} (m : RepM w H ρ M) (ru : Rp w H ρ M x u) (rv : Rp w H ρ M y v) (rz : Rp w H ρ M d z) (h : dput M x y d = some M') : ∃ a H', u = .ref a ∧ DPut H a v z H' ∧ Exs w H ρ M H' ρ M' ∧ RepM w H' ρ M' := by
  unfold dput at h
  split at h
  · rename_i i
    cases ru with
    | @obj _ a ho =>
      split at h
      · rename_i ks ds hm
        cases hk : kD y with
        | none => rw [hk] at h; cases h
        | some k =>
          rw [hk, Option.bind_some] at h
          split at h
          · rename_i hz
            cases h
            obtain ⟨vs, s, l, rs⟩ := m.obj i a _ ho hm (by simp)
            rw [kD_v rv hk]
            have e : Exs w H ρ M (upd H a (.dK (putK (ks.zip vs) k z))) ρ (M.set i (.dk (putKs ks k) (putVs ks ds k d))) := Ext.wrote m ho hm (by simp)
            refine ⟨a, _, rfl, .k s (by rw [zip_len l]; exact hz), e, m.wrote ho hm (by simp) ⟨putVs ks vs k z, ?_, putKs_len _ _ _ _ l, putVs_rep (rz.ext e) (rs.ext e)⟩⟩
            rw [upd_same, putK_zip _ _ _ _ l]
          · cases h
      · rename_i ks ds hm
        cases hk : tkD y with
        | none => rw [hk] at h; cases h
        | some k =>
          rw [hk, Option.bind_some] at h
          split at h
          · rename_i hz
            cases h
            obtain ⟨vs, s, l, rs⟩ := m.obj i a _ ho hm (by simp)
            obtain ⟨b, rfl, hb⟩ := tkD_v rv hk
            have e : Exs w H ρ M (upd H a (.dT (putK (ks.zip vs) k z))) ρ (M.set i (.dt (putKs ks k) (putVs ks ds k d))) := Ext.wrote m ho hm (by simp)
            refine ⟨a, _, rfl, .t s hb (by rw [zip_len l]; exact hz), e, m.wrote ho hm (by simp) ⟨putVs ks vs k z, ?_, putKs_len _ _ _ _ l, putVs_rep (rz.ext e) (rs.ext e)⟩⟩
            rw [upd_same, putK_zip _ _ _ _ l]
          · cases h
      · cases h
  · cases h
def dPut (td ty tv : TED) : TSD := fun k x σ M => tv σ M (fun v M1 => td σ M1 (fun d M2 => ty σ M2 (fun y M3 => ∃ M4, dput M3 d y v = some M4 ∧ k.nx σ M4) x) x) x
theorem ds_dput {o i value : Expr} {pos pos' : Pos} {td ty tv : TED} (hu : X.A.units + 1 < cLine) (ho : DE w X o td) (hi : DE w X i ty) (hv : DE w X value tv) (hs : swapsWith value (some (.Subscript o i pos')) pos.line X.env = pure false) :
    DS w X (.Assign [.Subscript o i pos'] value pos) (dPut td ty tv) :=
  ⟨fun Wv tk => (ps_dput hu (ho.run Wv tk) (hi.run Wv tk) (hv.run Wv tk) hs).imp fun De σv H ⟨σ, ρ, M, k, x, a, hq, e, kx⟩ =>
    ⟨σ, ρ, M, _, x, a, hq, fun H1 ρ1 M1 d v e1 m1 r1 h1 => ⟨σ, ρ1, M1, _, x, a.ext m1 e1, h1, fun H2 ρ2 M2 d2 v2 e2 m2 r2 h2 => ⟨σ, ρ2, M2, _, x, (a.ext m1 e1).ext m2 e2, h2, fun H3 ρ3 M3 d3 v3 e3 m3 r3 ⟨M4, hp, h3⟩ => by
      obtain ⟨b, H4, eb, hd, e4, m4⟩ := dput_v m3 (r2.ext e3) r3 ((r1.ext e2).ext e3) hp
      have ee := ((e1.trans e2).trans e3).trans e4
      exact ⟨b, H4, eb, hd, e.nx _ _ _ _ _ ee (a.ext m4 ee) h3⟩, kx.ext (e1.trans e2)⟩, kx.ext e1⟩, kx⟩⟩
/-! ### {} -/
def dNewD (mu tk : Bool) : TED := fun _ M q _ => let c : D := if tk = true then .dt [] [] else .dk [] []; if mu = true then q (.obj M.length) (M ++ [c]) else q c M
theorem do_dict0 (mu tk : Bool) {pos : Pos} : DE w X (.Dict [] [] pos) (dNewD mu tk) := by
  have key : ∀ (o : HO) (c : D) (H : Hp) (ρ : List Addr) (M : Sto) (q : QD) (Q : VK), RepM w H ρ M → QOk w H ρ M q Q → (∀ p H ρ L, H p = some o → RepC w.toWc H ρ L p c) → (if mu = true then q (.obj M.length) (M ++ [c]) else q c M) → ∀ p, H p = none → Q (.ref p) (upd H p o) := by
    intro o c H ρ M q Q m k hc hq p hp
    cases mu with
    | true =>
      rw [if_pos rfl] at hq
      refine k _ _ _ _ _ (Ext.made (o := o) (d := c) m hp) (m.made hp (hc _ _ _ _ upd_same)) (.obj ?_) hq
      rw [← m.len, List.getElem?_append_right (Nat.le_refl _)]
      simp
    | false =>
      rw [if_neg (by simp)] at hq
      exact k _ _ _ _ _ (Ext.fresh (o := o) m.hh hp rfl) (m.fresh hp) (RepC.froze (w := w) (hc _ _ _ _ upd_same) (m.notLv hp)) hq
  cases tk with
  | false => exact ⟨fun Wv tk => pe_dnewK.imp fun σv H Q ⟨σ, ρ, M, q, x, a, hq, k, kx⟩ => key _ (.dk [] []) _ _ _ _ _ a.m k (fun p H ρ L h => ⟨[], h, rfl, .nil⟩) hq⟩
  | true => exact ⟨fun Wv tk => pe_dnewT.imp fun σv H Q ⟨σ, ρ, M, q, x, a, hq, k, kx⟩ => key _ (.dt [] []) _ _ _ _ _ a.m k (fun p H ρ L h => ⟨[], h, rfl, .nil⟩) hq⟩
end
end TL
namespace L2
open PySem PySem.Spec PyProof.Rows
section
variable {X : Cx}
/-- sorted rows: what is asked of them -/
def SortOk (bs : List PyData) : Prop := PySem.W.AllAlike bs ∧ PySem.W.Sortable bs ∧ bs.length ≤ sizeLine ∧ ∀ d ∈ bs, d.depth ≤ 64
def sortedBy {α : Type} (f : α → PyData) (l : List α) : List α := l.mergeSort (PySem.W.dataLe false f)
theorem each_of_vals {bs : List (V × PyData)} : ∀ {us : List Value}, Vals (bs.map (·.1)) us → PySem.W.EachIs (fun u (b : V × PyData) => RelV b.1 u) us bs := by
  induction bs with
  | nil => intro us r; cases r; exact .nil
  | cons b bs ih =>
    intro us r
    rw [List.map_cons] at r
    cases r with
    | cons r1 r2 => exact .cons r1 (ih r2)
theorem vals_of_each {bs : List (V × PyData)} : ∀ {us : List Value}, PySem.W.EachIs (fun u (b : V × PyData) => RelV b.1 u) us bs → Vals (bs.map (·.1)) us := by
  intro us h
  induction h with
  | nil => exact .nil
  | cons h t ih => exact .cons h ih
theorem each_reads {pins : List (Addr × Obj)} {σ : St} {H : Hp} {s : Shared} (I : Inv X pins σ H s) {bs : List (V × PyData)} (hd : ∀ p ∈ bs, Dp X.K H p.1 p.2) : ∀ {us : List Value}, Vals (bs.map (·.1)) us → PySem.W.EachIs (fun u (b : V × PyData) => ∃ as, Reads s.heap u b.2 as) us bs := by
  induction bs with
  | nil => intro us r; cases r; exact .nil
  | cons b bs ih =>
    intro us r
    rw [List.map_cons] at r
    cases r with
    | cons r1 r2 => exact .cons (Dp.reads I b.2 b.1 _ (hd b (by simp)) r1) (ih (fun p hp => hd p (by simp [hp])) r2)
def rSortL (K : PySem.W.Frag) : List V → Hp → VK → Prop := fun xs H Q => ∃ (a : Addr) (bs : List (V × PyData)), xs = [.ref a] ∧ SqL K H a (bs.map (·.1)) ∧ (∀ p ∈ bs, Dp K H p.1 p.2) ∧ SortOk (bs.map (·.2)) ∧
  ∀ p, H p = none → Q (.ref p) (upd H p (.lst ((sortedBy (·.2) bs).map (·.1))))
theorem cr_sortL (hu : X.A.units + 70 < cLine) : CallR X (.builtin "sorted") (rSortL X.K) := by
  rintro pins s σ H xs us Q I r ⟨a, bs, rfl, hs, hd, ⟨h1, h2, h3, h4⟩, q⟩
  rw [Vals.ref1 r]
  obtain ⟨its, rv, hl, hz⟩ := I.list hs
  have hL : bs.length ≤ sizeLine := by simpa using h3
  refine PySem.W.sorted_data (vs := its) (bs := bs) (enc := (·.2)) hl.isList (each_of_vals rv) (each_reads I hd rv) h1 h2 hL (fun b hb => ?_) fun out hol ho => ?_
  · have := h4 b.2 (List.mem_map_of_mem hb)
    omega
  · obtain ⟨c, hc⟩ := PyProof.Rows.sortedAll_at s.heap its out.toArray
    have hlen : ((sortedBy (fun b : V × PyData => b.2) bs).map (·.1)).length ≤ sizeLine := by
      rw [List.length_map, sortedBy, List.length_mergeSort]; exact hL
    refine ⟨.ref (s.heap.objs.size + 1), upd H (s.heap.objs.size + 1) (.lst ((sortedBy (·.2) bs).map (·.1))), I.laid (t' := s.toks) (fun b o e => PyProof.Rows.sortedAll_old e) (Nat.le_succ _) ?_, rfl, q _ (I.hok.fresh (Nat.le_succ _))⟩
    exact ⟨hlen, out, c, vals_of_each ho, hc⟩
mutual
theorem reads_lt {h : Heap} : ∀ {v : Value} {d : PyData} {as : List Addr}, Reads h v d as → ∀ a ∈ as, a < h.objs.size
  | _, _, _, .none => by simp
  | _, _, _, .bool b => by simp
  | _, _, _, .int i t => by simp
  | _, _, _, .str x t => by simp
  | _, _, _, .list h1 h2 h3 h4 => fun a hm => (List.mem_cons.mp hm).elim (fun e => e ▸ Heap.lt_size h1) (readsAll_lt h4 a)
  | _, _, _, .tuple h1 h2 h3 h4 => readsAll_lt h4
  | _, _, _, .dict h1 h2 h3 h4 h5 => fun a hm => by
    rcases List.mem_append.mp hm with hm | hm
    · exact (List.mem_cons.mp hm).elim (fun e => e ▸ Heap.lt_size h1) (readsAll_lt h4 a)
    · exact readsAll_lt h5 a hm
theorem readsAll_lt {h : Heap} : ∀ {vs : List Value} {ds : List PyData} {as : List Addr}, ReadsAll h vs ds as → ∀ a ∈ as, a < h.objs.size
  | _, _, _, .nil => by simp
  | _, _, _, .cons h1 h2 => fun a hm => (List.mem_append.mp hm).elim (reads_lt h1 a) (readsAll_lt h2 a)
end
def kP : Key → PyData
  | .inl i => .int i
  | .inr x => .str x
theorem kP_dp {K : PySem.W.Frag} {H : Hp} : ∀ (k : Key), Dp K H (kV k) (kP k)
  | .inl i => .int i
  | .inr x => .str x
theorem kPs_dp {K : PySem.W.Frag} {H : Hp} : ∀ (ks : List Key), DpAll K H (ks.map kV) (ks.map kP)
  | [] => .nil
  | k :: ks => .cons (kP_dp k) (kPs_dp ks)
/-- sorted of a source that is no list: its items known -/
theorem sortedSrc {pins : List (Addr × Obj)} {σ : St} {H : Hp} {s : Shared} {T : String} {u d : Addr} {n : Nat} {P : Nat → Value → Prop} {OK : Heap → Prop} {Q : VK} (hu : X.A.units + 70 < cLine) (hc : X.calm = true) (I : Inv X pins σ H s) (S : PySem.W.KdlSrc X.prog X.w T u d n P OK) (hok : OK s.heap) (hn : n ≤ sizeLine)
    (bs : List (V × PyData)) (hd : ∀ p ∈ bs, Dp X.K H p.1 p.2) (hs : SortOk (bs.map (·.2))) (hbn : bs.length = n) (hit : ∀ j v, P j v → j < n → ∃ b, bs[j]? = some b ∧ RelV b.1 v) (q : ∀ p, H p = none → Q (.ref p) (upd H p (.lst ((sortedBy (·.2) bs).map (·.1))))) :
    wpAny (model X.prog X.w) X.A (call (.builtin "sorted") [.ref u]) (EP X pins σ Q) X.xe s := by
  obtain ⟨h1, h2, h3, h4⟩ := hs
  have hL : bs.length ≤ sizeLine := by simpa using h3
  refine Calls.call_function_entry PyProof.Rows.kind_sorted PyProof.Rows.plain_sorted PyProof.Rows.entry_sorted (PyProof.Rows.args_sorted1 _) ?_
  unfold Builtin.«sorted»
  refine wpAny_bind (m := checkCount "sorted" 1 1 _) (wpAny_pure ?_)
  refine wpAny_bind (PySem.W.kdu_collect (A := X.A.in1) S (I.ok.hd hc) hok hn fun h' tk acc hk hacc => ?_)
  have hal : acc.toList.length = bs.length := by rw [Array.length_toList, hacc.1, hbn]
  have rv : Vals (bs.map (·.1)) acc.toList := by
    refine vals_of_at (by rw [List.length_map, hal]) fun j x w h1 h2 => ?_
    have hj : j < n := by
      have := (List.getElem?_eq_some_iff.mp h2).1
      omega
    obtain ⟨b, hb, rb⟩ := hit j w (hacc.2 j w (by rw [← Array.getElem?_toList]; exact h2)) hj
    rw [List.getElem?_map, hb] at h1
    cases h1
    exact rb
  have I1 : Inv X pins σ H { s with heap := h', toks := tk } := I.kept hk
  refine wpAny_bind (wpAny_newList ?_ (by rw [hal]; exact hL))
  have hoL : (h'.push (seqObj "list" acc.toList.toArray 0)).get? h'.objs.size = some (seqObj "list" acc.toList.toArray 0) := Heap.get?_push_size _ rfl
  have I2 : Inv X pins σ H { s with heap := h'.push (seqObj "list" acc.toList.toArray 0), toks := tk } := I1.kept (t' := tk) fun b o e => Heap.get?_push_of_some _ e
  show wpAny _ _ _ _ _ { s with heap := h'.push (seqObj "list" acc.toList.toArray 0), toks := tk }
  have er : PySem.W.EachIs (fun u (b : V × PyData) => ∃ as, Reads (h'.push (seqObj "list" acc.toList.toArray 0)) u b.2 as ∧ h'.objs.size ∉ as) acc.toList bs := by
    refine (each_reads I1 hd rv).mono fun u b ⟨as, ra⟩ => ⟨as, PyProof.Rows.Reads.keeps (fun b o e => Heap.get?_push_of_some _ e) ra, fun hm => ?_⟩
    exact absurd (reads_lt ra _ hm) (Nat.lt_irrefl _)
  refine wpAny_bind (wpAny_holding (PySem.W.list_sort_data (s := { s with heap := h'.push (seqObj "list" acc.toList.toArray 0), toks := tk }) (vs := acc.toList) (bs := bs) (enc := (·.2)) hoL (each_of_vals rv) er h1 h2 hL (fun b hb => ?_) fun out hol ho => ?_))
  · have := h4 b.2 (List.mem_map_of_mem hb)
    show X.A.units + 1 + 1 + _ < cLine
    omega
  · obtain ⟨c, hcc⟩ := PyProof.Rows.sortedHeap_at (vs := acc.toList) (out := out.toArray) hoL
    have hlen : ((sortedBy (fun b : V × PyData => b.2) bs).map (·.1)).length ≤ sizeLine := by
      rw [List.length_map, sortedBy, List.length_mergeSort]; exact hL
    refine wpAny_pure ⟨_, rfl, .ref h'.objs.size, upd H h'.objs.size (.lst ((sortedBy (·.2) bs).map (·.1))), I1.laid (t' := tk) (fun b u e => ?_) (Nat.le_refl _) ⟨hlen, out, c, vals_of_each ho, hcc⟩, rfl, q _ (I1.hok.fresh (Nat.le_refl _))⟩
    have hb : b < h'.objs.size := Heap.lt_size e
    rw [PyProof.Rows.sortedHeap_old (Nat.ne_of_lt hb) (by rw [size_push']; exact Nat.lt_succ_of_lt hb)]
    exact Heap.get?_push_of_some _ e
/-- sorted(d), d a dict with tuple keys: kb are its keys, as they stand -/
def rSortDT : List V → Hp → VK → Prop := fun xs H Q => ∃ (d : Addr) (kvs : List (List Key × V)), xs = [.ref d] ∧ H d = some (.dT kvs) ∧ SortOk (kvs.map fun p => PyData.tuple (p.1.map kP)) ∧
  ∀ (p : Addr) (bs : List (V × PyData)), H p = none → Paired (fun (kv : List Key × V) (b : V × PyData) => ∃ c : Addr, b.1 = .ref c ∧ H c = some (.tup (kv.1.map kV)) ∧ b.2 = PyData.tuple (kv.1.map kP)) kvs bs →
    Q (.ref p) (upd H p (.lst ((sortedBy (·.2) bs).map (·.1))))
theorem kt_pair {H : Hp} {kvs : List (List Key × V)} {ks : List (List Key × Addr × Value)} (pr : KT H kvs ks) :
    Paired (fun (kv : List Key × V) (b : V × PyData) => ∃ c : Addr, b.1 = .ref c ∧ H c = some (.tup (kv.1.map kV)) ∧ b.2 = PyData.tuple (kv.1.map kP)) kvs (ks.map fun x => (V.ref x.2.1, PyData.tuple (x.1.map kP))) := by
  unfold KT at pr
  induction pr with
  | nil => exact .nil
  | cons h t ih => exact .cons ⟨_, rfl, h.2.1, by rw [h.1]⟩ ih
theorem pair_dp {K : PySem.W.Frag} {H : Hp} {kvs : List (List Key × V)} {bs : List (V × PyData)} (pb : Paired (fun (kv : List Key × V) (b : V × PyData) => ∃ c : Addr, b.1 = .ref c ∧ H c = some (.tup (kv.1.map kV)) ∧ b.2 = PyData.tuple (kv.1.map kP)) kvs bs) :
    (∀ p ∈ bs, Dp K H p.1 p.2) ∧ bs.map (·.2) = kvs.map fun p => PyData.tuple (p.1.map kP) := by
  induction pb with
  | nil => exact ⟨(fun p hp => nomatch hp), rfl⟩
  | cons h t ih =>
    obtain ⟨c, e1, e2, e3⟩ := h
    refine ⟨fun p hp => ?_, by rw [List.map_cons, List.map_cons, ih.2, e3]⟩
    rcases List.mem_cons.mp hp with e | hp
    · subst e
      rw [e1, e3]
      exact .tup (.inl (.inl e2)) (kPs_dp _)
    · exact ih.1 p hp
theorem cr_sortDT (hu : X.A.units + 70 < cLine) (hc : X.calm = true) : CallR X (.builtin "sorted") rSortDT := by
  rintro pins s σ H xs us Q I r ⟨d, kvs, rfl, hd, hs, q⟩
  rw [Vals.ref1 r]
  obtain ⟨z, hsm, ks, pr, o, es, ep, ho, hx, hdt, he, hn⟩ := (show ObjOk X.prog X.w H s.heap d (.dT kvs) from I.hok d _ hd)
  have l1 : es.size = ks.length := size_of_entries he
  have l2 : kvs.length = ks.length := Paired.length pr
  have pb := kt_pair pr
  have h2 := pair_dp (K := X.K) pb
  refine sortedSrc hu hc I (kdl_raw hsm hx hdt) ho (by omega) _ h2.1 (by rw [h2.2]; exact hs) (by rw [List.length_map]; omega) (fun j v hp hj => ?_) fun p hp => q p _ hp pb
  obtain ⟨en, hen, hv⟩ := hp
  have qe := entry_at he j
  rw [hen] at qe
  cases hb : ks[j]? with
  | none =>
    rw [hb] at qe
    exact nomatch (show some en = none from qe)
  | some b =>
    rw [hb] at qe
    have e2 : en = entryOfKey (tupleKind (mixKind X.prog X.w)) b := Option.some.inj qe
    refine ⟨(V.ref b.2.1, PyData.tuple (b.1.map kP)), by rw [List.getElem?_map, hb]; rfl, ?_⟩
    rw [hv, e2]
    rfl
end
end L2
namespace TL
open PySem PySem.Spec PyProof.Rows L2
section
variable {w : Wd} {X : Cx} {H : Hp} {ρ : List Addr} {M : Sto} {q : QD} {Q : VK}
/-! ### sorted -/
def keyD : Key → D
  | .inl i => .int i
  | .inr x => .str x
def tkeyD (k : List Key) : D := .tup (k.map keyD)
def tkeyP (k : List Key) : PyData := .tuple (k.map kP)
def sortD (mu : Bool) : D → Sto → QD → Prop := fun x M q =>
  (∃ (n : Nat) (bs : List (D × PyData)), lsD M x = some (bs.map (·.1)) ∧ (∀ p ∈ bs, pd M n p.1 = some p.2) ∧ SortOk (bs.map (·.2)) ∧ mkL mu q ((sortedBy (·.2) bs).map (·.1)) M) ∨
  ∃ ks ds, dtOf M x = some (ks, ds) ∧ SortOk (ks.map tkeyP) ∧ mkL mu q ((sortedBy tkeyP ks).map tkeyD) M
theorem sortedBy_map {α β : Type} {f : α → PyData} {g : β → PyData} {h : α → β} (e : ∀ a, f a = g (h a)) (l : List α) : (sortedBy f l).map h = sortedBy g (l.map h) := by
  unfold sortedBy
  refine List.map_mergeSort fun a _ b _ => ?_
  unfold PySem.W.dataLe PySem.W.sortLe
  simp only [e]
theorem sortedBy_mem {α : Type} {f : α → PyData} {l : List α} {a : α} (h : a ∈ sortedBy f l) : a ∈ l := List.mem_mergeSort.mp h
theorem repL_of {α : Type} {f : α → D} {g : α → V} : ∀ {l : List α}, (∀ a ∈ l, Rp w H ρ M (f a) (g a)) → Rps w H ρ M (l.map f) (l.map g)
  | [], _ => .nil
  | a :: l, h => .cons (h a (by simp)) (repL_of fun b hb => h b (by simp [hb]))
theorem trip_of {n : Nat} (m : RepM w H ρ M) : ∀ {bs : List (D × PyData)} {vs : List V}, Rps w H ρ M (bs.map (·.1)) vs → (∀ p ∈ bs, pd M n p.1 = some p.2) → ∃ ts : List (D × V × PyData), ts.map (fun t => (t.1, t.2.2)) = bs ∧ ts.map (·.2.1) = vs ∧ ∀ t ∈ ts, Rp w H ρ M t.1 t.2.1 ∧ Dp w.K H t.2.1 t.2.2
  | [], _, r, _ => by cases r; exact ⟨[], rfl, rfl, by simp⟩
  | b :: bs, _, r, h => by
    rw [List.map_cons] at r
    cases r with
    | @cons _ v _ vs r1 r2 =>
      obtain ⟨ts, e1, e2, h3⟩ := trip_of m r2 fun p hp => h p (by simp [hp])
      refine ⟨(b.1, v, b.2) :: ts, by rw [List.map_cons, e1], by rw [List.map_cons, e2], fun t ht => ?_⟩
      rcases List.mem_cons.mp ht with e | ht
      · subst e
        exact ⟨r1, pd_dp m n _ _ _ r1 (h b (by simp))⟩
      · exact h3 t ht
theorem paired_zip {kvs : List (List Key × V)} {bs : List (V × PyData)} (pb : Paired (fun (kv : List Key × V) (b : V × PyData) => ∃ c : Addr, b.1 = .ref c ∧ H c = some (.tup (kv.1.map kV)) ∧ b.2 = PyData.tuple (kv.1.map kP)) kvs bs) :
    ∃ ts : List (List Key × V), ts.map (·.1) = kvs.map (·.1) ∧ ts.map (fun t => (t.2, tkeyP t.1)) = bs ∧ ∀ t ∈ ts, ∃ c : Addr, t.2 = .ref c ∧ H c = some (.tup (t.1.map kV)) := by
  induction pb with
  | nil => exact ⟨[], rfl, rfl, by simp⟩
  | @cons kv b _ _ h t ih =>
    obtain ⟨ts, e1, e2, h3⟩ := ih
    obtain ⟨c, q1, q2, q3⟩ := h
    refine ⟨(kv.1, b.1) :: ts, by rw [List.map_cons, List.map_cons, e1], ?_, fun t ht => ?_⟩
    · rw [List.map_cons, e2]
      congr 1
      show (b.1, tkeyP kv.1) = b
      unfold tkeyP
      rw [← q3]
    · rcases List.mem_cons.mp ht with e | ht
      · subst e; exact ⟨c, q1, q2⟩
      · exact h3 t ht
theorem kV_rep : ∀ (ks : List Key), Rps w H ρ M (ks.map keyD) (ks.map kV)
  | [] => .nil
  | .inl i :: ks => .cons (.int i) (kV_rep ks)
  | .inr x :: ks => .cons (.str x) (kV_rep ks)
theorem cd_sorted (mu : Bool) (hK : X.K = w.K) (hu : X.A.units + 70 < cLine) (hc : X.calm = true) : CallD w X (.builtin "sorted") (c1D (sortD mu)) := by
  refine (CallD.or ⟨_, cr_sortL hu, VOn.c1 (f := fun x M q => ∃ (n : Nat) (bs : List (D × PyData)), lsD M x = some (bs.map (·.1)) ∧ (∀ p ∈ bs, pd M n p.1 = some p.2) ∧ SortOk (bs.map (·.2)) ∧ mkL mu q ((sortedBy (·.2) bs).map (·.1)) M) ?_⟩
    ⟨_, cr_sortDT hu hc, VOn.c1 (f := fun x M q => ∃ ks ds, dtOf M x = some (ks, ds) ∧ SortOk (ks.map tkeyP) ∧ mkL mu q ((sortedBy tkeyP ks).map tkeyD) M) ?_⟩).imp fun xs M q h => ?_
  · rintro H ρ M x u q Q m ru ⟨n, bs, h1, h2, h3, h⟩ k
    obtain ⟨a, vs, rfl, hs, rs⟩ := lsD_sq X.K m ru h1
    obtain ⟨ts, e1, e2, h4⟩ := trip_of m rs h2
    refine ⟨a, ts.map (·.2), rfl, ?_, fun p hp => ?_, ?_, ?_⟩
    · have e : (ts.map (·.2)).map (·.1) = vs := by rw [List.map_map]; exact e2
      rw [e]; exact hs
    · obtain ⟨t, ht, rfl⟩ := List.mem_map.mp hp
      exact hK ▸ (h4 t ht).2
    · have e : (ts.map (·.2)).map (·.2) = bs.map (·.2) := by rw [← e1, List.map_map, List.map_map]; rfl
      rw [e]; exact h3
    · have ed : (sortedBy (·.2) bs).map (·.1) = (sortedBy (fun t : D × V × PyData => t.2.2) ts).map (·.1) := by
        rw [← e1, ← sortedBy_map (f := fun t : D × V × PyData => t.2.2) (g := (·.2)) (h := fun t => (t.1, t.2.2)) (fun _ => rfl), List.map_map]
        rfl
      have ev : (sortedBy (·.2) (ts.map (·.2))).map (·.1) = (sortedBy (fun t : D × V × PyData => t.2.2) ts).map (·.2.1) := by
        rw [← sortedBy_map (f := fun t : D × V × PyData => t.2.2) (g := (·.2)) (h := (·.2)) (fun _ => rfl), List.map_map]
        rfl
      rw [ev]
      rw [ed] at h
      exact q_lst m k (repL_of fun t ht => (h4 t (sortedBy_mem ht)).1) h
  · rintro H ρ M x u q Q m ru ⟨ks, ds, h1, h2, h⟩ k
    obtain ⟨a, vs, rfl, s, l, rs⟩ := dtOf_v m ru h1
    have el : (ks.zip vs).map (·.1) = ks := by rw [List.map_fst_zip]; omega
    refine ⟨a, _, rfl, s, ?_, fun p bs hp pb => ?_⟩
    · have e : (ks.zip vs).map (fun p => PyData.tuple (p.1.map kP)) = ks.map tkeyP := by
        conv => rhs; rw [← el, List.map_map]
        rfl
      rw [e]; exact h2
    · obtain ⟨ts, e1, e2, h4⟩ := paired_zip pb
      rw [el] at e1
      have ed : (sortedBy tkeyP ks).map tkeyD = (sortedBy (fun t : List Key × V => tkeyP t.1) ts).map (fun t => tkeyD t.1) := by
        rw [← e1, ← sortedBy_map (f := fun t : List Key × V => tkeyP t.1) (g := tkeyP) (h := (·.1)) (fun _ => rfl), List.map_map]
        rfl
      have ev : (sortedBy (·.2) bs).map (·.1) = (sortedBy (fun t : List Key × V => tkeyP t.1) ts).map (·.2) := by
        rw [← e2, ← sortedBy_map (f := fun t : List Key × V => tkeyP t.1) (g := (·.2)) (h := fun t => (t.2, tkeyP t.1)) (fun _ => rfl), List.map_map]
        rfl
      rw [ev]
      rw [ed] at h
      refine q_lst m k (repL_of fun t ht => ?_) h p hp
      obtain ⟨c, q1, q2⟩ := h4 t (sortedBy_mem ht)
      rw [q1]
      exact .tup (.inl ⟨q2, m.tupNot q2⟩) (kV_rep _)
  · unfold c1D at h ⊢
    split at h
    · exact h
    · exact h.elim
/-! ### repr -/
def reprD : D → Sto → QD → Prop := fun x M q => ∃ n p, pd M n x = some p ∧ p.showable = true ∧ p.hasDict = false ∧ p.depth ≤ 60 ∧ p.shown.length ≤ sizeLine ∧ q (.str p.shown) M
def rRepr (K : PySem.W.Frag) : List V → Hp → VK → Prop := fun xs H Q => ∃ x p, xs = [x] ∧ Dp K H x p ∧ p.showable = true ∧ p.hasDict = false ∧ p.depth ≤ 60 ∧ p.shown.length ≤ sizeLine ∧ Q (.str p.shown) H
theorem cr_repr (hg : X.A.guards = some []) (hu : X.A.units + 70 < cLine) : CallR X (.builtin "repr") (rRepr X.K) := by
  rintro pins s σ H xs us Q I r ⟨x, p, rfl, hp, h1, h2, h3, h4, q⟩
  obtain ⟨u, rfl, rx⟩ := vals1 r
  have fin : ∀ tk, EP X pins σ Q (.str p.shown tk) { s with toks := s.toks + 1 } := fun tk => ⟨.str p.shown, H, I.tok _, ⟨_, rfl⟩, q⟩
  have big : ∀ {a : Addr}, u = .ref a → wpAny (model X.prog X.w) X.A (call (.builtin "repr") [.ref a]) (EP X pins σ Q) X.xe s := fun {a} e => by
    subst e
    obtain ⟨as, ra⟩ := Dp.reads I p x _ hp rx
    exact repr_of_reads' ra h1 (fun z => by rw [h2] at z; cases z) hg (by omega) (fun _ _ e => e) (fun h' u tk hk => ⟨.str p.shown, H, I.kept (t' := tk) hk, ⟨_, rfl⟩, q⟩) h4
  cases hp with
  | non => cases rx; exact PySem.P.repr_of_none (fin _)
  | bl b => cases rx; exact PySem.P.repr_of_bool (fin _)
  | int i => obtain ⟨t, rfl⟩ := rx; exact PySem.P.repr_of_int (by simpa [PyData.showable] using h1) (fin _)
  | str z => obtain ⟨t, rfl⟩ := rx; exact PySem.P.repr_of_str (fin _) h4
  | lst hs ha => obtain rfl : u = .ref _ := rx; exact big rfl
  | tup hs ha => obtain rfl : u = .ref _ := rx; exact big rfl
theorem cd_repr (hK : X.K = w.K) (hg : X.A.guards = some []) (hu : X.A.units + 70 < cLine) : CallD w X (.builtin "repr") (c1D reprD) := ⟨_, cr_repr hg hu, VOn.c1 fun H ρ M x u q Q m ru ⟨n, p, h1, h2, h3, h4, h5, h⟩ k =>
  ⟨u, p, rfl, hK ▸ pd_dp m n _ _ _ ru h1, h2, h3, h4, h5, k.here m (.str _) h⟩⟩
end
end TL
namespace TL
open PySem PySem.Spec PyProof.Rows L2
section
variable {w : Wd} {X : Cx} {H : Hp} {ρ : List Addr} {M : Sto} {q : QD} {Q : VK}
/-! ### methods -/
def MtD (w : Wd) (X : Cx) (id : String) (f : D → List D → Sto → QD → Prop) : Prop := ∃ r, MtR X id r ∧ ∀ H ρ M x xs u us q Q, RepM w H ρ M → Rp w H ρ M x u → Rps w H ρ M xs us → f x xs M q → QOk w H ρ M q Q → r u us H Q
theorem MtD.or {id : String} {f g : D → List D → Sto → QD → Prop} (a : MtD w X id f) (b : MtD w X id g) : MtD w X id (fun x xs M q => f x xs M q ∨ g x xs M q) := by
  obtain ⟨r1, h1, v1⟩ := a
  obtain ⟨r2, h2, v2⟩ := b
  exact ⟨_, h1.or h2, fun H ρ M x xs u us q Q m ru rs h k => h.imp (fun h => v1 _ _ _ _ _ _ _ _ _ m ru rs h k) fun h => v2 _ _ _ _ _ _ _ _ _ m ru rs h k⟩
theorem MtD.imp {id : String} {f g : D → List D → Sto → QD → Prop} (a : MtD w X id f) (i : ∀ x xs M q, g x xs M q → f x xs M q) : MtD w X id g := by
  obtain ⟨r, h, v⟩ := a
  exact ⟨r, h, fun H ρ M x xs u us q Q m ru rs hh k => v _ _ _ _ _ _ _ _ _ m ru rs (i _ _ _ _ hh) k⟩
/-- the receiver's type -/
def recD (T : String) (M : Sto) (d : D) : Prop := (T = "list" ∧ (lsD M d).isSome = true) ∨ (T = "dict" ∧ isDic M d)
theorem recD_ty {T : String} {d : D} {v : V} (m : RepM w H ρ M) (r : Rp w H ρ M d v) (h : recD T M d) : tyV X.K T v H := by
  rcases h with ⟨rfl, h⟩ | ⟨rfl, h⟩
  · obtain ⟨ds, hd⟩ := Option.isSome_iff_exists.mp h
    obtain ⟨a, vs, rfl, hs, _⟩ := lsD_sq X.K m r hd
    exact .inl ⟨rfl, vs, hs⟩
  · rcases h with h | h
    · obtain ⟨⟨ks, ds⟩, hd⟩ := Option.isSome_iff_exists.mp h
      obtain ⟨a, vs, rfl, s, _⟩ := dkOf_v m r hd
      exact .inr (.inr (.inl ⟨rfl, .inl ⟨_, s⟩⟩))
    · obtain ⟨⟨ks, ds⟩, hd⟩ := Option.isSome_iff_exists.mp h
      obtain ⟨a, vs, rfl, s, _⟩ := dtOf_v m r hd
      exact .inr (.inr (.inl ⟨rfl, .inr ⟨_, s⟩⟩))
def dMt (T : String) (f : D → List D → Sto → QD → Prop) (to : TED) (ta : TAD) : TED := fun σ M q x => to σ M (fun d M1 => recD T M1 d ∧ ta σ M1 (fun ds M2 => f d ds M2 q) x) x
theorem do_mt {T id : String} {name : Str} {o e : Expr} {es : List Expr} {apos cpos : Pos} {to : TED} {ta : TAD} {f : D → List D → Sto → QD → Prop} (pa : PlainAttrs T) (slot : Slot T name id) (hty : typeOf (.builtin id) = pure (.type "method_descriptor")) (hm : MtD w X id f) (ho : DE w X o to) (ha : DA w X (e :: es) ta)
    (hbase : attributeBase o name X.env (eval o X.env) = eval o X.env)
    (hfew : ((backTo cpos (starEach (e :: es) X.env)).all (fun x => !x.1) && (backToKw cpos (keywordEach [] X.env)).all (fun x => x.1.isSome)
      && decide ((e :: es).length + ([] : List Keyword).length + (if ([] : List Keyword).isEmpty then 0 else 1) < 30)) = true)
    (hline : (apos.endLine == cpos.line) = true) (hs : starEach (e :: es) X.env = (false, eval e X.env) :: starEach es X.env) (hplain : (backTo cpos (starEach es X.env)).any (·.1) = false) :
    DE w X (.Call (.Attribute o name apos) (e :: es) [] cpos) (dMt T f to ta) := by
  obtain ⟨r, hr, v⟩ := hm
  exact ⟨fun Wv tk => (pe_bm pa slot hty hr (ho.run Wv tk) (ha.run Wv tk) hbase hfew hline hs hplain).imp fun σv H Q ⟨σ, ρ, M, q, x, a, hq, k, kx⟩ =>
    ⟨σ, ρ, M, _, x, a, hq, fun H1 ρ1 M1 d u e1 m1 r1 ⟨ty, h1⟩ => ⟨recD_ty m1 r1 ty, σ, ρ1, M1, _, x, a.ext m1 e1, h1, fun H2 ρ2 M2 ds us e2 m2 r2 h2 => v _ _ _ _ _ _ _ _ _ m2 (r1.ext e2) r2 h2 (k.ext (e1.trans e2)), kx.ext e1⟩, kx⟩⟩
theorem do_mt0 {T id : String} {name : Str} {o : Expr} {apos cpos : Pos} {to : TED} {f : D → List D → Sto → QD → Prop} (pa : PlainAttrs T) (slot : Slot T name id) (hty : typeOf (.builtin id) = pure (.type "method_descriptor")) (hm : MtD w X id f) (ho : DE w X o to)
    (hbase : attributeBase o name X.env (eval o X.env) = eval o X.env) (hline : (apos.endLine == cpos.line) = true) : DE w X (.Call (.Attribute o name apos) [] [] cpos) (dMt T f to dNil) := by
  obtain ⟨r, hr, v⟩ := hm
  exact ⟨fun Wv tk => (pe_bm0 pa slot hty hr (ho.run Wv tk) hbase hline).imp fun σv H Q ⟨σ, ρ, M, q, x, a, hq, k, kx⟩ =>
    ⟨σ, ρ, M, _, x, a, hq, fun H1 ρ1 M1 d u e1 m1 r1 ⟨ty, h1⟩ => ⟨recD_ty m1 r1 ty, v _ _ _ _ _ _ _ _ _ m1 r1 .nil h1 (k.ext e1)⟩, kx⟩⟩
/-- the mutable list at a place is another one -/
def lput (M : Sto) (x : D) (g : List D → Option (List D)) : Option Sto := match x with
  | .obj i => (match M[i]? with
    | some (.lst ds) => (g ds).map fun ds' => M.set i (.lst ds')
    | _ => none)
  | _ => none
theorem q_write {i : Nat} {a : Addr} {ds ds' : List D} {vs' : List V} {d : D} {v : V} (m : RepM w H ρ M) (ho : ρ[i]? = some a) (hm : M[i]? = some (.lst ds)) (k : QOk w H ρ M q Q) (rs : Rps w H ρ M ds' vs') (rd : Rp w H ρ M d v) (hq : q d (M.set i (.lst ds'))) : Q v (upd H a (.lst vs')) := by
  have e : Exs w H ρ M (upd H a (.lst vs')) ρ (M.set i (.lst ds')) := Ext.wrote m ho hm (by simp)
  exact k _ _ _ _ _ e (m.wrote ho hm (by simp) ⟨vs', upd_same, rs.ext e⟩) (rd.ext e) hq
def appD : D → List D → Sto → QD → Prop := fun x xs M q => match x, xs with
  | .obj i, [y] => ∃ ds, M[i]? = some (.lst ds) ∧ ds.length < sizeLine ∧ q .non (M.set i (.lst (ds ++ [y])))
  | _, _ => False
theorem md_append : MtD w X "list.append" appD := ⟨_, mt_append, fun H ρ M x xs u us q Q m ru rs h k => by
  unfold appD at h
  split at h
  · obtain ⟨ds, hm, hz, h⟩ := h
    cases ru with
    | @obj i a ho =>
      cases rs with
      | cons r1 r2 =>
        cases r2
        obtain ⟨vs, hv, r3⟩ := m.lstAt ho hm
        exact ⟨a, vs, _, rfl, rfl, hv, by rw [← r3.length]; exact hz, q_write m ho hm k (r3.snoc r1) .non h⟩
  · exact h.elim⟩
def extD : D → List D → Sto → QD → Prop := fun x xs M q => match x, xs with
  | .obj i, [y] => ∃ ds es, M[i]? = some (.lst ds) ∧ lsD M y = some es ∧ ds.length + es.length ≤ sizeLine ∧ q .non (M.set i (.lst (ds ++ es)))
  | _, _ => False
theorem md_extend : MtD w X "list.extend" extD := ⟨_, mt_extend, fun H ρ M x xs u us q Q m ru rs h k => by
  unfold extD at h
  split at h
  · obtain ⟨ds, es, hm, he, hz, h⟩ := h
    cases ru with
    | @obj i a ho =>
      cases rs with
      | cons r1 r2 =>
        cases r2
        obtain ⟨vs, hv, r3⟩ := m.lstAt ho hm
        obtain ⟨b, zs, rfl, hb, r4⟩ := lsD_rd m r1 he
        exact ⟨a, b, vs, zs, rfl, rfl, hv, hb, by rw [← r3.length, ← r4.length]; exact hz, q_write m ho hm k (r3.append r4) .non h⟩
  · exact h.elim⟩
theorem RepL.dropLast {ds : List D} {vs : List V} (r : Rps w H ρ M ds vs) : Rps w H ρ M ds.dropLast vs.dropLast := by
  rw [List.dropLast_eq_take, List.dropLast_eq_take, ← r.length]
  exact RepL.take _ r
def popD : D → List D → Sto → QD → Prop := fun x xs M q => match x, xs with
  | .obj i, [] => ∃ ds d, M[i]? = some (.lst ds) ∧ ds[ds.length - 1]? = some d ∧ q d (M.set i (.lst ds.dropLast))
  | .obj i, [.int j] => ∃ ds d k, M[i]? = some (.lst ds) ∧ (-(2 ^ 63) ≤ j ∧ j < 2 ^ 63) ∧ seqIndex? j ds.length = some k ∧ ds[k]? = some d ∧ q d (M.set i (.lst (ds.eraseIdx k)))
  | _, _ => False
theorem md_pop : MtD w X "list.pop" popD := by
  refine (MtD.or (f := fun x xs M q => ∃ i ds d, x = .obj i ∧ xs = [] ∧ M[i]? = some (.lst ds) ∧ ds[ds.length - 1]? = some d ∧ q d (M.set i (.lst ds.dropLast))) ⟨_, mt_pop, ?_⟩
    (g := fun x xs M q => ∃ i j ds d k, x = .obj i ∧ xs = [.int j] ∧ M[i]? = some (.lst ds) ∧ (-(2 ^ 63) ≤ j ∧ j < 2 ^ 63) ∧ seqIndex? j ds.length = some k ∧ ds[k]? = some d ∧ q d (M.set i (.lst (ds.eraseIdx k)))) ⟨_, mt_popAt, ?_⟩).imp fun x xs M q h => ?_
  · rintro H ρ M x xs u us q Q m ru rs ⟨i, ds, d, rfl, rfl, hm, hd, h⟩ k
    cases ru with
    | @obj i a ho =>
      cases rs
      obtain ⟨vs, hv, r3⟩ := m.lstAt ho hm
      obtain ⟨v, hv2, rv⟩ := r3.get hd
      exact ⟨a, vs, v, rfl, rfl, hv, by rw [← r3.length]; exact hv2, q_write m ho hm k (RepL.dropLast r3) rv h⟩
  · rintro H ρ M x xs u us q Q m ru rs ⟨i, j, ds, d, n, rfl, rfl, hm, hj, hn, hd, h⟩ k
    cases ru with
    | @obj i a ho =>
      cases rs with
      | cons r1 r2 =>
        cases r2
        cases r1
        obtain ⟨vs, hv, r3⟩ := m.lstAt ho hm
        obtain ⟨v, hv2, rv⟩ := r3.get hd
        exact ⟨a, vs, j, n, v, rfl, rfl, hv, hj.1, hj.2, by rw [← r3.length]; exact hn, hv2, q_write m ho hm k (RepL.eraseIdx n r3) rv h⟩
  · unfold popD at h
    split at h
    · obtain ⟨ds, d, h1, h2, h⟩ := h
      exact .inl ⟨_, ds, d, rfl, rfl, h1, h2, h⟩
    · obtain ⟨ds, d, k, h1, h2, h3, h4, h⟩ := h
      exact .inr ⟨_, _, ds, d, k, rfl, rfl, h1, h2, h3, h4, h⟩
    · exact h.elim
/-! ### slices -/
abbrev TOD := Std → Sto → (Option Int → Sto → Prop) → XD → Prop
structure DO (w : Wd) (X : Cx) (e : Option Expr) (t : TOD) : Prop where
  run : ∀ Wv, Tk X Wv → PO X e (fun σv H Q => ∃ σ ρ M q x, At w H ρ M σ σv ∧ t σ M q x ∧ (∀ H' ρ' M' o, Exs w H ρ M H' ρ' M' → RepM w H' ρ' M' → q o M' → Q o H') ∧ XOk w H ρ M x Wv)
def dNoP : TOD := fun _ M q _ => q none M
def dPart (t : TED) : TOD := fun σ M q x => t σ M (fun d M1 => ∃ i, d = .int i ∧ q (some i) M1) x
theorem _root_.L2.PO.imp {X : Cx} {e : Option Expr} {t t' : TO} (h : PO X e t) (i : ∀ σ H Q, t' σ H Q → t σ H Q) : PO X e t' := ⟨fun pins s σ H Q I q => h.run pins s σ H Q I (i _ _ _ q)⟩
theorem dp_none : DO w X none dNoP := ⟨fun Wv tk => po_none.imp fun σv H Q ⟨σ, ρ, M, q, x, a, hq, k, kx⟩ => k _ _ _ _ .refl a.m hq⟩
theorem dp_some {e : Expr} {t : TED} (h : DE w X e t) : DO w X (some e) (dPart t) := ⟨fun Wv tk => (po_some (h.run Wv tk)).imp fun σv H Q ⟨σ, ρ, M, q, x, a, hq, k, kx⟩ => ⟨σ, ρ, M, _, x, a, hq, fun H1 ρ1 M1 d v e1 m1 r1 ⟨i, e, h1⟩ => by
  subst e
  exact ⟨i, rp_int r1, k _ _ _ _ e1 m1 h1⟩, kx⟩⟩
def cutD (ds : List D) (lo hi : Option Int) : List D := (ds.drop (HT.sIx ds.length 0 lo)).take (HT.sIx ds.length ds.length hi - HT.sIx ds.length 0 lo)
def dSlice (mu : Bool) (te : TED) (tl th : TOD) : TED := fun σ M q x => te σ M (fun d M1 => tl σ M1 (fun l M2 => th σ M2 (fun u M3 => (∃ ds, d = .tup ds ∧ q (.tup (cutD ds l u)) M3) ∨ (∃ ds, lsD M3 d = some ds ∧ mkL mu q (cutD ds l u) M3) ∨ ∃ z, d = .str z ∧ z.length ≤ sizeLine ∧ q (.str (cutS z l u)) M3) x) x) x
theorem cut_rep {ds : List D} {vs : List V} (r : Rps w H ρ M ds vs) (lo hi : Option Int) : Rps w H ρ M (cutD ds lo hi) (cutV vs lo hi) := by
  unfold cutD cutV
  rw [← r.length]
  exact (r.drop _).take _
theorem do_slice (mu : Bool) {e : Expr} {lo hi : Option Expr} {p2 pos : Pos} {te : TED} {tl th : TOD} (hK : X.K = w.K) (he : DE w X e te) (hl : DO w X lo tl) (hh : DO w X hi th) : DE w X (.Subscript e (.Slice lo hi none p2) pos) (dSlice mu te tl th) :=
  ⟨fun Wv tk => (pe_slice (sl_tupA.or (sl_list.or sl_str)) (he.run Wv tk) (hl.run Wv tk) (hh.run Wv tk)).imp fun σv H Q ⟨σ, ρ, M, q, x, a, hq, k, kx⟩ =>
    ⟨σ, ρ, M, _, x, a, hq, fun H1 ρ1 M1 d v e1 m1 r1 h1 => ⟨σ, ρ1, M1, _, x, a.ext m1 e1, h1, fun H2 ρ2 M2 l e2 m2 h2 => ⟨σ, ρ2, M2, _, x, (a.ext m1 e1).ext m2 e2, h2, fun H3 ρ3 M3 u e3 m3 h3 => by
      have e13 := (e1.trans e2).trans e3
      have r3 := (r1.ext e2).ext e3
      rcases h3 with ⟨ds, rfl, h⟩ | ⟨ds, hd, h⟩ | ⟨z, rfl, hz, h⟩
      · obtain ⟨b, vs, rfl, hs, rs⟩ := tup_sq (X := X) hK r3
        refine .inl ⟨b, vs, rfl, hs, fun hw => ?_, fun _ => q_tup m3 (k.ext e13) (cut_rep rs l u) h⟩
        have e : cutD ds l u = ds := by
          rw [← rs.length] at hw
          unfold cutD
          rw [hw.1, hw.2]
          simp
        rw [e] at h
        exact k _ _ _ _ _ e13 m3 r3 h
      · obtain ⟨b, vs, rfl, hs, rs⟩ := lsD_sq X.K m3 r3 hd
        exact .inr (.inl ⟨b, vs, rfl, hs, q_lst m3 (k.ext e13) (cut_rep rs l u) h⟩)
      · cases r3
        exact .inr (.inr ⟨z, rfl, hz, k _ _ _ _ _ e13 m3 (.str _) h⟩), kx.ext (e1.trans e2)⟩, kx.ext e1⟩, kx⟩⟩
/-- x[::-1] -/
def dRev (mu : Bool) (te : TED) : TED := fun σ M q x => te σ M (fun d M1 => (∃ ds, d = .tup ds ∧ q (.tup ds.reverse) M1) ∨ ∃ ds, lsD M1 d = some ds ∧ mkL mu q ds.reverse M1) x
theorem do_rev (mu : Bool) {e : Expr} {te : TED} {k : Nat} {p1 p2 p3 pos : Pos} (hK : X.K = w.K) (he : DE w X e te) : DE w X (.Subscript e (.Slice none none (some (.UnaryOp .USub (.Constant (.int 1) k p1) p2)) p3) pos) (dRev mu te) :=
  ⟨fun Wv tk => (pe_revA (he.run Wv tk)).imp fun σv H Q ⟨σ, ρ, M, q, x, a, hq, k, kx⟩ =>
    ⟨σ, ρ, M, _, x, a, hq, fun H1 ρ1 M1 d v e1 m1 r1 h1 => by
      rcases h1 with ⟨ds, rfl, h⟩ | ⟨ds, hd, h⟩
      · obtain ⟨b, vs, rfl, hs, rs⟩ := tup_sq (X := X) hK r1
        exact ⟨b, vs, rfl, .inr ⟨hs, q_tup m1 (k.ext e1) rs.reverse h⟩⟩
      · obtain ⟨b, vs, rfl, hs, rs⟩ := lsD_sq X.K m1 r1 hd
        exact ⟨b, vs, rfl, .inl ⟨hs, q_lst m1 (k.ext e1) rs.reverse h⟩⟩, kx⟩⟩
end
end TL
namespace L2
open PySem PySem.Spec PyProof.Rows
section
variable {X : Cx}
/-- {k: v}, k a tuple -/
def tDispT (tk tv : TE) : TE := fun σ H Q => ∀ p, H p = none → tk σ (upd H p (.dT [])) fun x H1 => tv σ H1 fun y H2 => H2 p = some (.dT []) ∧ ∃ (b : Addr) (k : List Key), x = .ref b ∧ H2 b = some (.tup (k.map kV)) ∧ Q (.ref p) (upd H2 p (.dT [(k, y)]))
theorem pe_dispT {k v : Expr} {tk tv : TE} {pos : Pos} (hu : X.A.units + 1 < cLine) (hk : PE X k tk) (hv : PE X v tv) : PE X (.Dict [some k] [v] pos) (tDispT tk tv) := by
  refine ⟨fun pins s σ H Q I q => ?_⟩
  have hn := I.hok.fresh (Nat.le_refl s.heap.objs.size)
  have I1 := I.laid (a := s.heap.objs.size) (o := .dT []) (h' := s.heap.push { cls := .type "dict", data := .dict #[] }) (t' := s.toks) (fun _ _ q => Heap.get?_push_of_some _ q) (Nat.le_refl _) (dt_empty s.heap I.big)
  have hp : pairTrees [some k] [v] X.env pos = [(eval k X.env, do let x ← eval v X.env; standAt pos; pure x)] := rfl
  rw [arm_eval_Dict, zip_pairTrees [some k] [v] X.env pos rfl rfl, dictDisplay_pairs _ (by rw [hp]; simp) (by rw [hp]; simp)]
  refine wpAny_bind (wpAny_standAt (wpAny_bind ?_))
  unfold subDict
  refine wpAny_bind (wpAny_alloc (wpAny_bind (wpAny_holding ?_)))
  rw [if_pos (by rw [hp]; simp)]
  refine wpAny_bind (pairTrees_cons_walk (thn (hk.run pins _ σ _ _ I1 (q _ hn)) fun kv s1 ⟨x, H1, I1', rx, q1⟩ => thn (hv.run pins s1 σ H1 _ I1' q1) fun vv s2 ⟨y, H2, I2, ry, e, b, kk, ex, eb, q2⟩ => pairTrees_nil_walk ?_))
  subst ex
  obtain rfl : kv = Value.ref b := rx
  refine wpAny_holding ?_
  obtain ⟨z, hd, xs, rel, dd⟩ := dt_of I2.hok e
  cases rel
  rw [List.forIn_cons]
  refine wpAny_bind (wpAny_bind (wpAny_bind (wpAny_dictSet_heap (knd := tupleKind (mixKind X.prog X.w)) (by show X.A.units < cLine; omega) (key_of I2.hok eb) dd (fun h' dd' hs => wpAny_pure ?_) (by simp))))
  dsimp only
  rw [List.forIn_nil]
  refine wpAny_pure (wpAny_pure (wpAny_pure (wpAny_pure ?_)))
  obtain ⟨o', es, ep, hq, h2, h3, h4, _, h5⟩ := dd'
  refine ⟨.ref s.heap.objs.size, upd H2 s.heap.objs.size (.dT [(kk, y)]), d_write I2 (by rw [e]; exact True.intro) hs ⟨o', hq⟩ ⟨by rw [sizeLine_eq]; show 1 ≤ _; omega, hd, _, ?_, o', es, ep, hq, h2, h3, h4, h5⟩, rfl, q2⟩
  refine .cons ⟨rfl, ?_, ry⟩ .nil
  rw [upd_ne (ne_of eb e (fun z => nomatch z))]
  exact eb
end
end L2
namespace TL
open PySem PySem.Spec PyProof.Rows L2
section
variable {w : Wd} {X : Cx} {H : Hp} {ρ : List Addr} {M : Sto} {q : QD} {Q : VK}
/-! ### displays of dicts -/
def mkD (mu : Bool) (q : QD) (c : D) (M : Sto) : Prop := if mu = true then q (.obj M.length) (M ++ [c]) else q c M
theorem mkD_fin {mu : Bool} {H1 H' : Hp} {ρ1 ρ' : List Addr} {M1 M' : Sto} {p : Addr} {o : HO} {c : D} (m1 : RepM w H1 ρ1 M1) (hp : H1 p = none) (k : QOk w H1 ρ1 M1 q Q) (e : Exs w H1 ρ1 M1 H' ρ' M') (m : RepM (hidD w p) H' ρ' M') (ho : isMu (some o))
    (hc : ∀ H ρ L, H p = some o → (∀ H2 ρ2 L2, Ext w H' ρ' (Lv (hidD w p) ρ' M') H2 ρ2 L2 → (H = H2 ∧ ρ = ρ2 ∧ L = L2) → RepC w.toWc H ρ L p c)) (h : mkD mu q c M') : Q (.ref p) (upd H' p o) := by
  have nw : ¬ w.hid p := fun h => (m1.hid p h).2 hp
  have mg := m.grow nw ho
  have eg := ext_grow (o := o) m nw
  have e2 : Exs w H1 ρ1 M1 (upd H' p o) ρ' M' := Ext.grow hp nw e
  unfold mkD at h
  cases mu with
  | true =>
    rw [if_pos rfl] at h
    have ea := ext_adopt (d := c) mg
    refine k _ _ _ _ _ (e2.adopt (d := c) hp mg) (mg.adopt nw (hc _ _ _ upd_same _ _ _ (eg.trans ea) ⟨rfl, rfl, rfl⟩)) (.obj ?_) h
    rw [← m.len, List.getElem?_append_right (Nat.le_refl _)]
    simp
  | false =>
    rw [if_neg (by simp)] at h
    have eu : Ext w (upd H' p o) ρ' (Lv (hidD w p) ρ' M') (upd H' p o) ρ' (Lv w ρ' M') := Ext.same fun _ z => lv_unhid z
    refine k _ _ _ _ _ e2 mg.unhide (RepC.froze (w := w) (hc _ _ _ upd_same _ _ _ (eg.trans eu) ⟨rfl, rfl, rfl⟩) fun z => ?_) h
    rcases z with z | z
    · exact nw z
    · exact m.hidIn.1 (Lo.mem z)
def dDispT (mu : Bool) (tk tv : TED) : TED := fun σ M q x => tk σ M (fun a M1 => tv σ M1 (fun b M2 => ∃ k, tkD a = some k ∧ mkD mu q (.dt [k] [b]) M2) x) x
theorem xok_hid {σ : Std} {σv : L2.St} {H1 : Hp} {ρ1 : List Addr} {M1 : Sto} {p : Addr} {x : XD} {Wv : WX} (kx : XOk w H1 ρ1 M1 x Wv) (a1 : At w H1 ρ1 M1 σ σv) (hp : H1 p = none) {Hj : Hp} {ρj : List Addr} {Mj : Sto} (ej : Exs w H1 ρ1 M1 Hj ρj Mj) :
    XOk (hidD w p) Hj ρj Mj (fun c ds _ M => x c ds σ M) fun cl d _ H' => Wv cl d σv H' := fun H5 ρ5 M5 c ds cl dd σ5 σv5 e5 a5 ⟨r1, us5, r2, r3, r4⟩ h5 =>
  kx _ _ _ _ _ _ _ _ _ (ej.unhide hp e5) (a1.ext a5.m.unhide (ej.unhide hp e5)) ⟨r1, us5, r2, r3.imp id fun ⟨q1, q2, q3, q4⟩ => ⟨q1, q2, fun z => q3 (lv_unhid z), q4⟩, r4.ext (Ext.same (w := w) fun _ z => lv_unhid z)⟩ h5
theorem PE.keepsX {X : Cx} {Wv : WX} (tk : Tk X Wv) : Tk X Wv := tk
/-- an expression raises at its own slots -/
theorem at_hid {σ : Std} {σv : L2.St} {H1 : Hp} {ρ1 : List Addr} {M1 : Sto} {p : Addr} {o : HO} (a1 : At w H1 ρ1 M1 σ σv) (hp : H1 p = none) (ho : isMu (some o)) : At (hidD w p) (upd H1 p o) ρ1 M1 σ σv :=
  ⟨a1.m.hide hp ho, a1.s.ext (ext_hide a1.m hp)⟩
theorem exs_hid {H1 : Hp} {ρ1 : List Addr} {M1 : Sto} {p : Addr} {o : HO} (m : RepM w H1 ρ1 M1) (hp : H1 p = none) : Exs w H1 ρ1 M1 (upd H1 p o) ρ1 M1 := Ext.fresh m.hh hp rfl
def dPairs : List (TED × TED) → Std → Sto → (List (D × D) → Sto → Prop) → XD → Prop
  | [], _, M, q, _ => q [] M
  | (tk, tv) :: r, σ, M, q, x => tk σ M (fun a M1 => tv σ M1 (fun b M2 => dPairs r σ M2 (fun ps M3 => q ((a, b) :: ps) M3) x) x) x
/-- {k: v, ..}, keys ints and texts, no two alike -/
def dDispK (mu : Bool) (trs : List (TED × TED)) : TED := fun σ M q x => dPairs trs σ M (fun ps M1 => ∃ ks : List Key, (ps.map (·.1)).mapM kD = some ks ∧ ks.Nodup ∧ ks.length ≤ 15 ∧ mkD mu q (.dk ks (ps.map (·.2))) M1) x
theorem putK_snoc {kvs : List (Key × V)} {k : Key} (v : V) (h : k ∉ kvs.map (·.1)) : putK kvs k v = kvs ++ [(k, v)] := by
  unfold putK
  rw [if_neg]
  intro z
  rw [List.any_eq_true] at z
  obtain ⟨p, hp, e⟩ := z
  exact h (List.mem_map.mpr ⟨p, hp, of_decide_eq_true e⟩)
theorem mergeK_nodup : ∀ (more kvs : List (Key × V)), ((kvs ++ more).map (·.1)).Nodup → mergeK kvs more = kvs ++ more
  | [], kvs, _ => by simp [mergeK]
  | p :: r, kvs, h => by
    have h1 : p.1 ∉ kvs.map (·.1) := fun z => by
      rw [List.map_append, List.map_cons, List.nodup_append] at h
      exact h.2.2 _ z _ (by simp) rfl
    show mergeK (putK kvs p.1 p.2) r = _
    rw [putK_snoc _ h1, mergeK_nodup r (kvs ++ [p]) (by rw [List.append_assoc]; exact h), List.append_assoc]
    rfl
structure DPs (w : Wd) (X : Cx) (pos : Pos) (keys : List (Option Expr)) (values : List Expr) (trs : List (TED × TED)) : Prop where
  run : ∀ Wv, Tk X Wv → PPs X pos keys values (trs.map fun t => ((fun σ H Q => ∃ hd, lE (whd w hd) Wv t.1 σ H Q), (fun σ H Q => ∃ hd, lE (whd w hd) Wv t.2 σ H Q)))
theorem dps_nil {pos : Pos} : DPs w X pos [] [] [] := ⟨fun Wv tk => pps_nil⟩
theorem dps_cons {pos : Pos} {k v : Expr} {ks : List (Option Expr)} {vs : List Expr} {tk tv : TED} {trs : List (TED × TED)} (hk : ∀ hd, DE (whd w hd) X k tk) (hv : ∀ hd, DE (whd w hd) X v tv) (hr : DPs w X pos ks vs trs) : DPs w X pos (some k :: ks) (v :: vs) ((tk, tv) :: trs) :=
  ⟨fun Wv tkk => pps_cons (pe_ex fun hd => (hk hd).run Wv tkk) (pe_ex fun hd => (hv hd).run Wv tkk) (hr.run Wv tkk)⟩
theorem pairs_run {w' : Wd} {Wv : WX} {σ : Std} {σv : L2.St} {x : XD} : ∀ (trs : List (TED × TED)) {H : Hp} {ρ : List Addr} {M : Sto} {q : List (D × D) → Sto → Prop} {Q : List (V × V) → Hp → Prop}, At w' H ρ M σ σv → dPairs trs σ M q x → XOk w' H ρ M x Wv →
    (∀ H' ρ' M' ps vs, Exs w' H ρ M H' ρ' M' → RepM w' H' ρ' M' → Rps w' H' ρ' M' (ps.map (·.1)) (vs.map (·.1)) → Rps w' H' ρ' M' (ps.map (·.2)) (vs.map (·.2)) → q ps M' → Q vs H') →
    tPairs (trs.map fun t => ((fun σ H Q => ∃ hd, lE (whd w' hd) Wv t.1 σ H Q), (fun σ H Q => ∃ hd, lE (whd w' hd) Wv t.2 σ H Q))) σv H Q
  | [], H, ρ, M, q, Q, a, h, kx, fin => fin H ρ M [] [] .refl a.m .nil .nil h
  | (tk, tv) :: trs, H, ρ, M, q, Q, a, h, kx, fin => by
    refine ⟨w'.hid, σ, ρ, M, _, x, a, h, fun H1 ρ1 M1 d v e1 m1 r1 h1 => ?_, kx⟩
    refine ⟨w'.hid, σ, ρ1, M1, _, x, a.ext m1 e1, h1, fun H2 ρ2 M2 d2 v2 e2 m2 r2 h2 => ?_, kx.ext e1⟩
    refine pairs_run trs (a.ext m2 (e1.trans e2)) h2 (kx.ext (e1.trans e2)) fun H3 ρ3 M3 ps vs e3 m3 r3 r4 h3 => ?_
    exact fin H3 ρ3 M3 ((d, d2) :: ps) ((v, v2) :: vs) ((e1.trans e2).trans e3) m3 (.cons ((r1.ext e2).ext e3) r3) (.cons (r2.ext e3) r4) h3
theorem zip_map2 {ps : List (V × V)} : ∀ {ks : List Key}, ps.map (·.1) = ks.map kV → ps = (ks.zip (ps.map (·.2))).map fun kv => (kV kv.1, kv.2) := by
  induction ps with
  | nil => intro ks h; simp
  | cons p ps ih =>
    intro ks h
    cases ks with
    | nil => simp at h
    | cons k ks =>
      simp only [List.map_cons, List.cons.injEq] at h
      rw [List.map_cons, List.zip_cons_cons, List.map_cons, ← ih h.2, ← h.1]
theorem do_dispK (mu : Bool) {pos : Pos} {keys : List (Option Expr)} {values : List Expr} {trs : List (TED × TED)} (h : DPs w X pos keys values trs) (hall : keys.all (·.isSome) = true) (hl : keys.length = values.length) (h0 : keys ≠ []) (h15 : keys.length ≤ 15) : DE w X (.Dict keys values pos) (dDispK mu trs) :=
  ⟨fun Wv tk => ⟨fun pins s σv H Q I ⟨σ, ρ, M, q, x, a, hq, k, kx⟩ => by
    refine (pe_disp (h.run _ (tk.imp (W' := fun cls d σ' H' => Wv cls d σ' H') fun _ _ _ _ z => z)) hall hl h0 h15).run pins s σv H Q I fun p hp => ?_
    have ho : isMu (some (HO.dK [])) := trivial
    have key := pairs_run (w' := hidD w p) (Wv := Wv) (σ := σ) (σv := σv) (x := x) trs (H := upd H p (.dK [])) (ρ := ρ) (M := M) (at_hid a hp ho) hq (Q := fun ps H2 => H2 p = some (.dK []) ∧ ∃ kvs : List (Key × V), ps = kvs.map (fun kv => (kV kv.1, kv.2)) ∧ kvs.length ≤ 15 ∧ Q (.ref p) (upd H2 p (.dK (mergeK [] kvs)))) ?_ ?_
    · exact key
    · intro H5 ρ5 M5 c ds cl dd σ5 σv5 e5 a5 ⟨r1, us5, r2, r3, r4⟩ h5
      have e0 : Exs w H ρ M (upd H p (.dK [])) ρ M := exs_hid a.m hp
      exact kx _ _ _ _ _ _ _ _ _ (e0.unhide hp e5) ⟨a5.m.unhide, a5.s.ext (Ext.same (w := w) fun _ z => lv_unhid z)⟩ ⟨r1, us5, r2, r3.imp id fun ⟨q1, q2, q3, q4⟩ => ⟨q1, q2, fun z => q3 (lv_unhid z), q4⟩, r4.ext (Ext.same (w := w) fun _ z => lv_unhid z)⟩ h5
    · intro H2 ρ2 M2 ps vs e2 m2 rk rv ⟨ks, hks, hn, hz, hm⟩
      have e0 : Exs w H ρ M (upd H p (.dK [])) ρ M := exs_hid a.m hp
      have ek := kDs_v rk hks
      have l1 : ks.length = (vs.map (·.2)).length := by
        have := congrArg List.length ek
        simpa using this.symm
      refine ⟨(e2.hid p (.inr rfl)).trans upd_same, ks.zip (vs.map (·.2)), zip_map2 ek, by rw [zip_len l1]; exact hz, ?_⟩
      rw [mergeK_nodup _ [] (by rw [List.nil_append, List.map_fst_zip (by omega)]; exact hn), List.nil_append]
      exact mkD_fin a.m hp k (e0.unhide hp e2) m2 trivial (fun H ρ L hh H3 ρ3 L3 e3 e => by
        obtain ⟨rfl, rfl, rfl⟩ := e
        exact ⟨_, hh, l1, rv.ext e3⟩) hm⟩⟩
theorem do_dispT (mu : Bool) {pos : Pos} {k v : Expr} {tk tv : TED} (hu : X.A.units + 1 < cLine) (hk : ∀ hd, DE (whd w hd) X k tk) (hv : ∀ hd, DE (whd w hd) X v tv) : DE w X (.Dict [some k] [v] pos) (dDispT mu tk tv) :=
  ⟨fun Wv tkk => ⟨fun pins s σv H Q I ⟨σ, ρ, M, q, x, a, hq, kq, kx⟩ => by
    refine (pe_dispT hu (pe_ex fun hd => (hk hd).run Wv tkk) (pe_ex fun hd => (hv hd).run Wv tkk)).run pins s σv H Q I fun p hp => ?_
    have ho : isMu (some (HO.dT [])) := trivial
    have e0 : Exs w H ρ M (upd H p (.dT [])) ρ M := exs_hid a.m hp
    have a0 : At (hidD w p) (upd H p (.dT [])) ρ M σ σv := at_hid a hp ho
    have kx0 : XOk (hidD w p) (upd H p (.dT [])) ρ M x Wv := by
      intro H5 ρ5 M5 c ds cl dd σ5 σv5 e5 a5 ⟨r1, us5, r2, r3, r4⟩ h5
      exact kx _ _ _ _ _ _ _ _ _ (e0.unhide hp e5) ⟨a5.m.unhide, a5.s.ext (Ext.same (w := w) fun _ z => lv_unhid z)⟩ ⟨r1, us5, r2, r3.imp id fun ⟨q1, q2, q3, q4⟩ => ⟨q1, q2, fun z => q3 (lv_unhid z), q4⟩, r4.ext (Ext.same (w := w) fun _ z => lv_unhid z)⟩ h5
    refine ⟨(hidD w p).hid, σ, ρ, M, _, x, a0, hq, fun H1 ρ1 M1 d1 v1 e1 m1 r1 h1 => ?_, kx0⟩
    refine ⟨(hidD w p).hid, σ, ρ1, M1, _, x, a0.ext m1 e1, h1, fun H2 ρ2 M2 d2 v2 e2 m2 r2 ⟨kk, hkk, hm⟩ => ?_, kx0.ext e1⟩
    have e1 : Exs (hidD w p) (upd H p (.dT [])) ρ M H1 ρ1 M1 := e1
    have e2 : Exs (hidD w p) H1 ρ1 M1 H2 ρ2 M2 := e2
    have e12 := e1.trans e2
    obtain ⟨b, rfl, hb⟩ := tkD_v (r1.ext e2) hkk
    refine ⟨(e12.hid p (.inr rfl)).trans upd_same, b, kk, rfl, hb, ?_⟩
    exact mkD_fin (o := .dT [(kk, v2)]) a.m hp kq (e0.unhide hp e12) m2 trivial (fun H ρ L hh H3 ρ3 L3 e3 e => by
      obtain ⟨rfl, rfl, rfl⟩ := e
      exact ⟨[v2], hh, rfl, .cons (r2.ext e3) .nil⟩) hm⟩⟩
/-! ### o[i] = v as a target -/
def setOf (M : Sto) (x y d : D) : Option Sto := match dput M x y d with
  | some M' => some M'
  | none => match y with
    | .int k => lput M x fun ds => (ixN ds.length k).map fun j => ds.set j d
    | _ => none
theorem set_v {x y d : D} {u v z : V} {M' : Sto} (m : RepM w H ρ M) (ru : Rp w H ρ M x u) (rv : Rp w H ρ M y v) (rz : Rp w H ρ M d z) (h : setOf M x y d = some M') {R : Hp → Prop} (hR : ∀ H', Exs w H ρ M H' ρ M' → RepM w H' ρ M' → R H') : rSetL u v z H R ∨ rSetD u v z H R := by
  unfold setOf at h
  split at h
  · rename_i M1 h1
    cases h
    obtain ⟨a, H', e, hd, e1, m1⟩ := dput_v m ru rv rz h1
    exact .inr ⟨a, H', e, hd, hR H' e1 m1⟩
  · split at h
    · rename_i k hk0
      unfold lput at h
      split at h
      · rename_i i
        cases ru with
        | @obj _ a ho =>
          split at h
          · rename_i ds hm
            dsimp only at h
            cases hj : ixN ds.length k with
            | none => rw [hj] at h; cases h
            | some j =>
              rw [hj] at h
              cases h
              cases rv
              obtain ⟨vs, hv, r3⟩ := m.lstAt ho hm
              have e : Exs w H ρ M (upd H a (.lst (vs.set j z))) ρ (M.set i (.lst (ds.set j d))) := Ext.wrote m ho hm (by simp)
              exact .inl ⟨a, vs, k, j, rfl, rfl, hv, by rw [← r3.length]; exact hj, hR _ e (m.wrote ho hm (by simp) ⟨_, upd_same, (RepL.set rz j r3).ext e⟩)⟩
          · cases h
      · cases h
    · cases h
theorem pset_or {t t' : TSet} (h : PSet X t) (h' : PSet X t') : PSet X (fun o i v H Q => t o i v H Q ∨ t' o i v H Q) := by
  intro pins s σ H o i v ov iv u Q I r1 r2 r3 q
  rcases q with q | q
  · exact h pins s σ H o i v ov iv u Q I r1 r2 r3 q
  · exact h' pins s σ H o i v ov iv u Q I r1 r2 r3 q
def dgSub (to ti : TED) : TGD := fun d σ M q x => to σ M (fun a M1 => ti σ M1 (fun b M2 => ∃ M3, setOf M2 a b d = some M3 ∧ q σ M3) x) x
theorem dg_sub {o i : Expr} {pos : Pos} {to ti : TED} (hu : X.A.units + 1 < cLine) (ho : DE w X o to) (hi : DE w X i ti)
    (ha : ∀ v, assign (.Subscript o i pos) X.env v = (do
      let ov ← holding [v] (eval o X.env)
      let iv ← holding [v, ov] (eval i X.env)
      standAt pos
      holding [v, ov, iv] (setItem ov iv v)
      release [v, ov, iv] [])) : DG w X (.Subscript o i pos) [] (dgSub to ti) :=
  ⟨fun Wv tk => (pg_sub (ho.run Wv tk) (hi.run Wv tk) (pset_or set_list (set_dict hu)) ha).imp fun v σv H Q ⟨d, σ, ρ, M, q, x, a, r, hq, k, kx⟩ =>
    ⟨σ, ρ, M, _, x, a, hq, fun H1 ρ1 M1 d1 v1 e1 m1 r1 h1 => ⟨σ, ρ1, M1, _, x, a.ext m1 e1, h1, fun H2 ρ2 M2 d2 v2 e2 m2 r2 ⟨M3, hs, h3⟩ =>
      set_v m2 (r1.ext e2) r2 ((r.ext e1).ext e2) hs fun H' e3 m3 => k _ _ _ _ _ ((e1.trans e2).trans e3) (a.ext m3 ((e1.trans e2).trans e3)) h3 .refl, kx.ext e1⟩, kx⟩⟩
end
end TL
namespace TL
open PySem PySem.Spec PyProof.Rows L2 LamX
/-! ## a lambda without parameters, handed on and called where nothing has changed -/
/-- what a call of the closure at f needs, in any state that has the abstract heap H still -/
structure Clo (P : Program) (W : World) (K : PySem.W.Frag) (mg : Str → Option Value) (base : Heap) (k : Nat) (outer : List Env) (s : Shared) (H : Hp) (f : Addr) (R : VK → XK → Prop) : Prop where
  obj : ∃ oc od fd osl, s.heap.get? f = some ⟨oc, od, .func fd, osl⟩
  fn : H f = none
  fr : f ∉ frs outer
  mono : ∀ (Q Q' : VK) (Ex Ex' : XK), (∀ v H, Q v H → Q' v H) → (∀ c d H, Ex c d H → Ex' c d H) → R Q Ex → R Q' Ex'
  run : ∀ (A : Around) (outer' : List Env) (s1 : Shared) (Q : VK) (Ex : XK), Room k A → A.guards = some [] → Env0 P W K mg base A outer' s1 H → Un (frs outer) [] H H s.heap s1.heap → R Q Ex →
    codeAny (model P W) A (.call (.ref f) ⟨[], []⟩) (CR (L2.CX P W) outer' P W H s1 Q Ex) s1
/-- the lambda is made: the table of the maker's code object may grow, all else stays -/
structure LamMade (T : List (Addr × Str)) (H H1 : Hp) : Prop where
  ext : ExtN H H1
  has : ∀ b, H b ≠ none → H1 b ≠ none
  tabs : Tabs T H1
section
variable {X : Cx} {pins : List (Addr × Obj)} {σ : L2.St} {H : Hp} {s : Shared}
theorem lam_new {T : List (Addr × Str)} {c P : Addr} {params : Arguments} {body : Expr} {scope : Scope} {pos : Pos} {E : Value → Shared → Prop} {Q : Value → Shared → Prop} (I : Inv X pins σ H s) (TB : TabB X.base X.mg c P) (hcode : X.env.code = .ref c)
    (hm : (P, X.env.qual ++ "<lambda>") ∈ T) (hu : ∀ p ∈ T, p.1 = P → p.2 = X.env.qual ++ "<lambda>") (hT : Tabs T H) (hdef : defaultsOf params X.env = ([], [])) (hfree : ∀ y ∈ scope.names, y.2 = .free → ∃ c, X.env.cells.lookup y.1 = some c)
    (h : ∀ (f c' : Addr) (pm ctv : Value) (H1 : Hp) (s' : Shared), s.heap.objs.size ≤ f → Inv X pins σ H1 s' → LamMade T H H1 →
      s'.heap.get? f = some (PySem.W.kla_obj "<lambda>" (X.env.qual ++ "<lambda>") params body scope (cloFrom X.env.cells scope.names []) pm c' ctv) → H1 f = none → f ∉ frs X.stack → H1 c' = some (CodeO c' (X.env.qual ++ "<lambda>")) → Q (.ref f) s') :
    wpAny (model X.prog X.w) X.A (eval (.Lambda params body scope pos) X.env) Q E s := by
  have nofr : ∀ f, s.heap.objs.size ≤ f → f ∉ frs X.stack := fun f hf z => by
    rcases List.mem_cons.mp (I.stkSub _ z) with e | e
    · exact absurd I.lt (by rw [← e]; exact Nat.not_lt.mpr hf)
    · exact I.nofs hf e
  obtain ⟨ps, hP, ht, ha⟩ := hT _ hm
  have hP' : s.heap.get? P = some { cls := .none, data := .fields ps } := I.hok P _ hP
  refine PySem.W.kla_eval hdef ?_
  cases hc : codeAmong pos ps.toList with
  | some cv =>
    obtain ⟨c', rfl, hco⟩ := ha pos cv hc
    refine PySem.W.kla_makeFunctionHit (mg := X.mg) (c := c) (P := P) (ps := ps) (closure_ok hfree) I.ok.glob (I.mod.glob.keeps I.bk) hcode (TB.code.keeps I.bk) hP' ht hc (TB.bm.keeps I.bk) fun ctv h' tk hx hsz => ?_
    exact h h'.objs.size c' _ ctv H _ hsz (I.kept (t' := tk) fun b o e => Heap.get?_push_of_some _ (hx b o e)) ⟨ExtN.refl H, fun _ h => h, hT⟩ (Heap.get?_push_size _ rfl) (I.hok.fresh hsz) (nofr _ hsz) hco
  | none =>
    refine PySem.W.kla_makeFunction (mg := X.mg) (c := c) (P := P) (ps := ps) (closure_ok hfree) I.ok.glob (I.mod.glob.keeps I.bk) hcode (TB.code.keeps I.bk) hP' ht hc TB.gP (TB.bm.keeps I.bk) fun c' ctv h' tk hx hge hlt hrec htb => ?_
    obtain ⟨c2, oc, vs, t, e2, hoc, hd, hv⟩ := hrec
    cases e2
    have nC : H c' = none := I.hok.fresh hge
    have hsz : s.heap.objs.size ≤ h'.objs.size := Nat.le_trans hge (Nat.le_of_lt hlt)
    have J := inv_table (q := X.env.qual ++ "<lambda>") (t' := tk) (more := #[rawInt pos.line, rawInt pos.col, .ref c']) (h' := h'.push (PySem.W.kla_obj "<lambda>" (X.env.qual ++ "<lambda>") params body scope (cloFrom X.env.cells scope.names []) ((X.mg "__name__").getD .none) c' ctv)) I hP
      (fun b o hb e => Heap.get?_push_of_some _ (hx b o hb e)) (Heap.get?_push_of_some _ htb) hge ⟨oc, vs, t, Heap.get?_push_of_some _ hoc, hd, hv⟩
    have hE : ExtN H (upd (upd H P (.tbl (ps ++ #[rawInt pos.line, rawInt pos.col, .ref c']))) c' (CodeO c' (X.env.qual ++ "<lambda>"))) := fun b o e n => by
      have nb : b ≠ P := fun z => n ps (by rw [z, hP] at e; exact (Option.some.inj e).symm)
      rw [upd_ne (ne_of_none e nC), upd_ne nb, e]
    have hH : ∀ b, H b ≠ none → upd (upd H P (.tbl (ps ++ #[rawInt pos.line, rawInt pos.col, .ref c']))) c' (CodeO c' (X.env.qual ++ "<lambda>")) b ≠ none := fun b hb => by
      by_cases e1 : b = c'
      · rw [e1, upd_same]; simp
      · rw [upd_ne e1]
        by_cases e2 : b = P
        · rw [e2, upd_same]; simp
        · rw [upd_ne e2]; exact hb
    have hTabs : Tabs T (upd (upd H P (.tbl (ps ++ #[rawInt pos.line, rawInt pos.col, .ref c']))) c' (CodeO c' (X.env.qual ++ "<lambda>"))) := fun p hp => by
      by_cases hb : p.1 = P
      · rw [hu p hp hb, hb]
        refine ⟨ps ++ #[rawInt pos.line, rawInt pos.col, .ref c'], by rw [upd_ne (ne_of_none hP nC), upd_same], ?_, fun p' cv hcv => ?_⟩
        · rw [Array.toList_append]
          exact PySem.TriplesOk_snoc _ _ _ _ ht
        · rw [Array.toList_append] at hcv
          rcases among_app _ ht hcv with z | z
          · obtain ⟨c0, e1, e2⟩ := ha p' cv z
            exact ⟨c0, e1, hE _ _ e2 codeO_ne⟩
          · exact ⟨c', z, upd_same⟩
      · obtain ⟨ps', a1, a2, a3⟩ := hT p hp
        refine ⟨ps', by rw [upd_ne (ne_of_none a1 nC), upd_ne hb]; exact a1, a2, fun p' cv hcv => ?_⟩
        obtain ⟨c0, e1, e2⟩ := a3 p' cv hcv
        exact ⟨c0, e1, hE _ _ e2 codeO_ne⟩
    refine h h'.objs.size c' _ ctv _ _ hsz J ⟨hE, hH, hTabs⟩ (Heap.get?_push_size _ rfl) ?_ (nofr _ hsz) upd_same
    rw [upd_ne (Nat.ne_of_gt hlt), upd_ne (Nat.ne_of_gt (Nat.lt_of_lt_of_le (Heap.lt_size hP') hsz))]
    exact I.hok.fresh hsz
/-- the closure's promise, by the judgement of its body -/
theorem clo_of {w : Wd} {f c' : Addr} {pm ctv : Value} {params : Arguments} {body : Expr} {scope : Scope} {k : Nat} {tb : TED} (hK : X.K = w.K) (I : Inv X pins σ H s) (L : LamS X.env.scope scope)
    (hf : s.heap.get? f = some (PySem.W.kla_obj "<lambda>" (X.env.qual ++ "<lambda>") params body scope (cloFrom X.env.cells scope.names []) pm c' ctv)) (hfn : H f = none) (hfr : f ∉ frs X.stack) (hc : H c' = some (CodeO c' (X.env.qual ++ "<lambda>")))
    (hbind : bindArgs (PySem.W.kla_fn "<lambda>" (X.env.qual ++ "<lambda>") params body scope (cloFrom X.env.cells scope.names []) pm (.ref c') ctv) ⟨[], []⟩ = pure [])
    (hbody : ∀ (A : Around) (outer : List Env) (s1 : Shared) (H : Hp) (E : XK), Room k (A.deeper (lamEnv X scope s1.heap.objs.size f c')) → (A.deeper (lamEnv X scope s1.heap.objs.size f c')).guards = some [] → DE w (lamCx X A outer s1 H E scope f c') body tb) :
    Clo X.prog X.w X.K X.mg X.base (k + 1) X.stack s H f (fun Q Ex => lE w (fun cl d _ H' => Ex cl d H') tb σ H Q) := by
  refine ⟨⟨_, _, _, _, hf⟩, hfn, hfr, fun Q Q' Ex Ex' hQ hE ⟨σ, ρ, M, q, x, a, h, k, kx⟩ => ⟨σ, ρ, M, q, x, a, h, fun _ _ _ _ _ e m r hq => hQ _ _ (k _ _ _ _ _ e m r hq), fun _ _ _ _ _ _ _ _ _ e a r hx => hE _ _ _ (kx _ _ _ _ _ _ _ _ _ e a r hx)⟩, fun A outer' s1 Q Ex hr hg e0 un h => ?_⟩
  have of1 : s1.heap.get? f = some (PySem.W.kla_obj "<lambda>" (X.env.qual ++ "<lambda>") params body scope (cloFrom X.env.cells scope.names []) pm c' ctv) := un.keep f _ hf hfn hfr (fun z => nomatch z)
  obtain ⟨⟨oc, vs, t, hoc, hdc, hvc⟩, _, _⟩ := e0.hok c' _ hc
  have lim : s1.heap.NoLimit := e0.mod.nolimit.keeps fun b o e => (e0.bs b o e).1
  refine PySem.W.kla_callFunE hr.depth of1 rfl L.co L.gen rfl ⟨c', oc, vs, t, rfl, hoc, hdc, hvc⟩ ?_
  rw [hbind]
  refine wpAny_pure (wpAny_newFunctionEnv (fun y hy => (L.own y hy).2) (fun y hy => absurd hy (by simp)) (fun h₁ hns hsb => ⟨lim.fresh _ hsb, ?_⟩) L.kind)
  show codeAny _ _ (.expr body (lamEnv X scope s1.heap.objs.size f c')) _ _
  have kp : ∀ b o, s1.heap.get? b = some o → h₁.get? b = some o := fun b o e => hsb.extBut b o (Nat.ne_of_lt (Heap.lt_size e)) (Heap.get?_push_of_some _ e)
  have J : Inv (lamCx X A outer' s1 H Ex scope f c') [] σ H { s1 with heap := h₁, toks := s1.toks + ([] : List (Str × Value)).length } := lam_start2 I L e0 hr.hd un hns kp
  have tk : Tk (lamCx X A outer' s1 H Ex scope f c') (fun cl d _ H' => Ex cl d H') := Tk.of rfl (takes_of rfl rfl rfl rfl)
  refine PySem.W.kla_codeExpr (wpAny_mono (((hbody A outer' s1 H Ex (hr.deeper _) hg).run _ tk).run [] _ _ H Q J h) (fun v s' hq => ?_) fun e s' hq => hq)
  obtain ⟨w', H', J', rv, q⟩ := hq
  exact ⟨w', H', J'.os, J'.bare, J'.base, J'.hok, rv, q⟩
end
end TL
namespace TL
open PySem PySem.Spec PyProof.Rows L2 LamX
structure FnC (P : Program) (W : World) (K : PySem.W.Frag) (mg : Str → Option Value) (base : Heap) (kc k : Nat) (f : Addr) (fd : FuncData) (ps : List Str) (tr : (VK → XK → Prop) → List V → Hp → VK → XK → Prop) : Prop where
  run : ∀ (A : Around) (outer : List Env) (s : Shared) (H : Hp) (args : Args) (us : List Value) (fc : Addr) (vs : List V) (R : VK → XK → Prop) (Q : VK) (Ex : XK), vs.length + 1 = ps.length → Room k A → A.guards = some [] → Env0 P W K mg base A outer s H → BindsTo s fd args (ps.zip us) →
    Vals (.ref fc :: vs) us → Clo P W K mg base kc outer s H fc R → tr R vs H Q Ex → codeAny (model P W) A (.call (.ref f) args) (CR (L2.CX P W) outer P W H s Q Ex) s
section
variable {P : Program} {W : World} {K : PySem.W.Frag} {mg : Str → Option Value} {base : Heap}
/-- work(), in the def that got it, where the abstract heap is that of the entry -/
theorem pe_clo {N : List Str} {qual : Str} {scope : Scope} {g : Addr} {cdv : Value} {A : Around} {outer : List Env} {s : Shared} {H : Hp} {Eg : XK} {pn : List (Addr × Obj)} {xe : Value → Shared → Prop} {Wv : WX} {kc i : Nat} {fc : Addr} {R : VK → XK → Prop} {a : Str} {p1 p2 : Pos}
    (C : Clo P W K mg base kc outer s H fc R) (tk : Takes ((cxOf (L2.CX P W) P W K mg base N qual scope g cdv A outer s H Eg).tr pn xe) Wv) (hr : Room kc (A.deeper (envOfC qual scope s.heap.objs.size g cdv))) (hg : (A.deeper (envOfC qual scope s.heap.objs.size g cdv)).guards = some [])
    (hN : N[i]? = some a) (hv : Vis scope a) (hd : (a == ("__debug__" : Str)) = false) (hcd : (a == ("__classdict__" : Str)) = false) :
    PE ((cxOf (L2.CX P W) P W K mg base N qual scope g cdv A outer s H Eg).tr pn xe) (.Call (.Name a p1) [] [] p2) (fun σZ HZ Q => σZ[i]? = some (some (.ref fc)) ∧ HZ = H ∧ R Q fun cl d H' => Wv cl d σZ H') := by
  refine ⟨fun pinsZ sZ σZ HZ Q IZ ⟨hs, hH, hR⟩ => ?_⟩
  subst hH
  refine wpAny_Call_Name_kw (thn ((pe_var (pos := p1) (i := i) hN hv hd hcd).run pinsZ sZ σZ HZ (fun v H1 => v = .ref fc ∧ H1 = HZ) IZ ⟨.ref fc, hs, rfl, rfl⟩) fun u s1 ⟨v, H1, I1, r1, ev, eH⟩ => ?_)
  subst ev
  rw [eH] at I1
  obtain rfl : u = Value.ref fc := r1
  obtain ⟨oc, od, fd, osl, ho⟩ := C.obj
  have un : Un (frs outer) [] HZ HZ s.heap s1.heap := I1.base
  have of1 : s1.heap.get? fc = some ⟨oc, od, .func fd, osl⟩ := un.keep fc _ ho C.fn C.fr (fun z => nomatch z)
  refine PySem.W.callWith_F0 ⟨_, _, _, _, of1⟩ ?_
  have rc := C.run _ _ s1 Q (fun cl d H' => Wv cl d σZ H') hr hg I1.env0 un hR
  refine wpAny_call (codeAny_mono rc fun r s' hq => ?_)
  cases r with
  | error e => exact tk _ _ (XE.of_call I1 (fun _ _ _ h => h) hq)
  | ok fl =>
    cases fl with
    | ret u => exact I1.after hq
    | next => exact False.elim hq
    | brk => exact False.elim hq
    | cont => exact False.elim hq
/-! ### _law_caught -/
def trCaught (K : PySem.W.Frag) (cv : Value) : (VK → XK → Prop) → List V → Hp → VK → XK → Prop := fun R _ _ Q Ex =>
  R (fun _ H' => Q .non H') (fun cl dd H' => ∃ b, PySem.W.exmOne K cl cv = some b ∧ (b = true → ∀ (a C : Addr), cl = .ref C → H' a = none → Q (.ref a) (upd H' a (ErrO C dd a))) ∧ (b = false → Ex cl dd H'))
theorem fnC_caught {qual x tn : Str} {st : Stmt} {f : Addr} {fd : FuncData} {k kc j : Nat} {cv : Value} {p1 p2 p3 p4 p5 p6 p7 p8 p9 p10 p11 p12 p13 p14 : Pos} (F : Fun K x qual st f fd) (S : FnScope ["work", "caught", "error"] ["work"] (defScope st)) (hk : kc ≤ k)
    (hb : defBody st = [.Assign [.Name "caught" p1] (.Constant .none j p2) p3, .Try [.Expr (.Call (.Name "work" p4) [] [] p5) p6] [.ExceptHandler (some (.Name tn p7)) (some "error") [.Assign [.Name "caught" p8] (.Name "error" p9) p10] p11] [] [] p12, .Return (some (.Name "caught" p13)) p14])
    (l0 : (defScope st).names.lookup ("work" : Str) = some .local) (l1 : (defScope st).names.lookup ("caught" : Str) = some .local) (l2 : (defScope st).names.lookup ("error" : Str) = some .local) (lt : (defScope st).names.lookup tn = some .globalImplicit) (htd : (tn == ("__debug__" : Str)) = false) (hm : mg tn = some cv)
    (hown : ∀ cls b, PySem.W.exmOne K cls cv = some b → b = true → ∃ C, cls = .ref C)
    (sw1 : ∀ env, swapsWith (.Constant .none j p2) (some (.Name "caught" p1)) p3.line env = pure false) (sw2 : ∀ env, swapsWith (.Name "error" p9) (some (.Name "caught" p8)) p10.line env = pure false) (sw3 : ∀ env, swapsWith (.Call (.Name "work" p4) [] [] p5) none p6.line env = pure false) :
    FnC P W K mg base kc (k + 1) f fd ["work"] (trCaught K cv) := by
  obtain ⟨oc, od, kV, doc, pm, an, cdv, ct, osl, rfl, lk, hcd⟩ := F.ex
  refine ⟨fun A outer s H args us fc vs R Q Ex hl hr hg e0 hbd r C h => ?_⟩
  have hv : vs = [] := List.eq_nil_of_length_eq_zero (by simpa using hl)
  subst hv
  refine LamX.run_ofS (N := ["work", "caught", "error"]) (ps := ["work"]) (us := us) (vs := [.ref fc]) lk hcd S hr e0 hbd r rfl fun hr' => ?_
  rw [hb]
  have hr2 : Room kc (A.deeper (envOfC qual (defScope st) s.heap.objs.size f cdv)) := hr'.mono hk
  obtain ⟨X, hX⟩ : ∃ X, X = cxOf (L2.CX P W) P W K mg base ["work", "caught", "error"] qual (defScope st) f cdv A outer s H Ex := ⟨_, rfl⟩
  have tk : Takes X (fun cl d _ H' => Ex cl d H') := by rw [hX]; exact takes_of rfl rfl rfl rfl
  have hN : X.N.Nodup := by rw [hX]; exact S.nd
  have n1 : X.N[1]? = some ("caught" : Str) := by rw [hX]; rfl
  have n2 : X.N[2]? = some ("error" : Str) := by rw [hX]; rfl
  have k1 : X.env.kindOf "caught" = some .local := by rw [hX]; exact l1
  have k2 : X.env.kindOf "error" = some .local := by rw [hX]; exact l2
  have s1 : PS X (.Assign [.Name "caught" p1] (.Constant .none j p2) p3) _ := ps_set hN n1 (.inl k1) pe_non (sw1 _) (.inr k1)
  have s2 : PS X (.Try [.Expr (.Call (.Name "work" p4) [] [] p5) p6] [.ExceptHandler (some (.Name tn p7)) (some "error") [.Assign [.Name "caught" p8] (.Name "error" p9) p10] p11] [] [] p12) _ :=
    ps_try_keep (i := 2) (j := 1) (c := cv) (Wout := fun cl d _ H' => Ex cl d H') (tb := fun Wv => tSeq (tDrop (fun σZ HZ Q => σZ[0]? = some (some (.ref fc)) ∧ HZ = H ∧ R Q fun cl d H' => Wv cl d σZ H')) tNext) (by rw [hX]; rfl) (by rw [hX]; rfl) hN n2 k2 n1 k1 (by rw [hX]; rfl)
      ⟨by rw [hX]; exact lt, htd, .inl (by rw [hX]; exact hm)⟩ tk (by decide) (by decide) (sw2 _) (by rw [hX]; exact hown) fun Wv pn xe tkw hp => by
        subst hX
        exact pss_cons (ps_expr (pe_clo C tkw hr2 hg rfl (.inl l0) (by decide) (by decide)) (sw3 _)) pss_nil
  have s3 : PS X (.Return (some (.Name "caught" p13)) p14) _ := ps_ret (pe_var n1 (.inl k1) (by decide) (by decide))
  refine ⟨_, by rw [← hX]; exact pss_cons s1 (pss_cons s2 (pss_cons s3 pss_nil)), ?_⟩
  rw [hX]
  refine ⟨rfl, rfl, ?_⟩
  refine C.mono _ _ _ _ (fun v H' hq => ?_) (fun cl dd H' hx => ?_) h
  · exact ⟨.non, rfl, hq⟩
  · obtain ⟨b, e1, h1, h2⟩ := hx
    exact ⟨b, e1, fun hb a C ec hn => ⟨.ref a, rfl, h1 hb a C ec hn⟩, h2⟩
end
/-! ### in deep values -/
abbrev XCD := Nat → List D → Sto → Prop
abbrev CTD := QD → XCD → Prop
def RD (w : Wd) (H : Hp) (ρ : List Addr) (M : Sto) (t : CTD) : VK → XK → Prop := fun Q Ex => ∃ q x, t q x ∧ QOk w H ρ M q Q ∧ XCOk w H ρ M x Ex
structure FnCD (P : Program) (W : World) (c : Wc) (mg : Str → Option Value) (base : Heap) (kc k : Nat) (f : Addr) (fd : FuncData) (ps : List Str) (sp : CTD → List D → Sto → QD → XCD → Prop) : Prop where
  len : ∀ t ds M q x, sp t ds M q x → ds.length + 1 = ps.length
  run : ∀ (A : Around) (outer : List Env) (s : Shared) (H : Hp) (args : Args) (us : List Value) (fc : Addr) (vs : List V) (hd : Addr → Prop) (ρ : List Addr) (M : Sto) (t : CTD) (ds : List D) (q : QD) (x : XCD) (Q : VK) (Ex : XK), Room k A → A.guards = some [] → Env0 P W c.K mg base A outer s H →
    BindsTo s fd args (ps.zip us) → Vals (.ref fc :: vs) us → RepM ⟨c, hd⟩ H ρ M → Rps ⟨c, hd⟩ H ρ M ds vs → Clo P W c.K mg base kc outer s H fc (RD ⟨c, hd⟩ H ρ M t) → sp t ds M q x → QOk ⟨c, hd⟩ H ρ M q Q → XCOk ⟨c, hd⟩ H ρ M x Ex →
    codeAny (model P W) A (.call (.ref f) args) (CR (L2.CX P W) outer P W H s Q Ex) s
def spCaught (cok : Nat → Bool) : CTD → List D → Sto → QD → XCD → Prop := fun t ds _ q x => ds = [] ∧ t (fun _ M' => q .non M') (fun c es M' => if cok c = true then q (.err c es) M' else x c es M')
section
variable {P : Program} {W : World} {c : Wc} {mg : Str → Option Value} {base : Heap}
theorem rp_err {w : Wd} {H : Hp} {ρ : List Addr} {M : Sto} {c : Nat} {es : List D} {cl : Value} {dd : Option Addr} {a : Addr} (m : RepM w H ρ M) (na : H a = none) (r : RepX w H ρ (Lv w ρ M) c es cl dd) :
    Exs w H ρ M (upd H a (ErrO (w.cls c) dd a)) ρ M ∧ RepM w (upd H a (ErrO (w.cls c) dd a)) ρ M ∧ Rp w (upd H a (ErrO (w.cls c) dd a)) ρ M (.err c es) (.ref a) := by
  obtain ⟨r1, vs, r2, r3, r4⟩ := r
  have ef : Exs w H ρ M (upd H a (ErrO (w.cls c) dd a)) ρ M := Ext.fresh m.hh na rfl
  exact ⟨ef, m.fresh na, .err upd_same (m.notLv na) r2 (r3.imp id fun ⟨d, e1, n1, h1⟩ => ⟨d, e1, n1, by rw [upd_ne (ne_of_none h1 na)]; exact h1⟩) (r4.ext ef)⟩
theorem fnCD_caught {kc k : Nat} {f : Addr} {fd : FuncData} {cv : Value} {cok : Nat → Bool} (F : FnC P W c.K mg base kc k f fd ["work"] (trCaught c.K cv)) (hcok : ∀ i, PySem.W.exmOne c.K (.ref (c.cls i)) cv = some (cok i)) : FnCD P W c mg base kc k f fd ["work"] (spCaught cok) := by
  refine ⟨fun t ds M q x h => by rw [h.1]; rfl, fun A outer s H args us fc vs hd ρ M t ds q x Q Ex hr hg e0 hb r m rs C ⟨hds, h⟩ kq kx => ?_⟩
  subst hds
  cases rs
  refine F.run A outer s H args us fc [] _ Q Ex rfl hr hg e0 hb r C ⟨_, _, h, fun H' ρ' M' d v e m' _ hq => kq _ _ _ _ _ e m' .non hq, fun H' ρ' M' i es cl dd e m' rx hx => ?_⟩
  obtain ⟨r1, r234⟩ := id rx
  refine ⟨cok i, r1 ▸ hcok i, fun hc a C' eC na => ?_, fun hc => ?_⟩
  · simp only [hc, if_true] at hx
    rw [r1] at eC
    cases eC
    obtain ⟨ef, m2, rr⟩ := rp_err m' na rx
    exact kq _ _ _ _ _ (e.trans ef) m2 rr hx
  · simp only [hc, Bool.false_eq_true, if_false] at hx
    exact kx _ _ _ _ _ _ _ e m' rx hx
end
/-! ### g(lambda: e, ..) -/
section
variable {w : Wd} {X : Cx} {kc k : Nat} {f : Addr} {fd : FuncData} {ps : List Str} {sp : CTD → List D → Sto → QD → XCD → Prop} {x : Str} {p pos lpos : Pos} {params : Arguments} {body : Expr} {scope : Scope} {es : List Expr} {tb : TED} {ta : TAD}
def dClo (sp : CTD → List D → Sto → QD → XCD → Prop) (tb : TED) (ta : TAD) : TED := fun σ M q x => ta σ M (fun ds M1 => sp (fun q' x' => tb σ M1 q' (fun c es _ M' => x' c es M')) ds M1 q (fun c es M' => x c es σ M')) x
theorem RepM.lam {H H1 : Hp} {ρ : List Addr} {M : Sto} (m : RepM w H ρ M) (l : LamMade w.T H H1) : RepM w H1 ρ M ∧ Exs w H ρ M H1 ρ M := by
  have nt : ∀ a, isMu (H a) → H1 a = H a := fun a h => by
    cases e : H a with
    | none => rw [e] at h; exact h.elim
    | some o => exact l.ext a o e fun ps z => by rw [e, z] at h; exact h
  have e : Exs w H ρ M H1 ρ M := ⟨fun a o h _ n => l.ext a o h n, l.has, fun _ _ h => h, fun _ h => .inl h, fun a h => nt a (m.hk a h)⟩
  exact ⟨⟨m.len, m.nd, fun a h => l.has a (m.has a h), fun a h => ⟨(m.hid a h).1, l.has a (m.hid a h).2⟩, fun a h => by rw [nt a (m.hk a h)]; exact m.hk a h, l.tabs, fun i a d h1 h2 h3 => (m.obj i a d h1 h2 h3).ext (nt a (m.muAt h1 h2 h3)).symm e⟩, e⟩
theorem de_clo {c P : Addr} (hK : X.K = w.K) (fo : FrOk X) (F : FnCD X.prog X.w w.toWc X.mg X.base (kc + 1) k f fd ps sp) (hr : Room k X.A) (hgd : X.A.guards = some []) (hg : Gl X x) (hm : X.mg x = some (.ref f)) (hk : PySem.W.keepIn X.K (.ref f) = true)
    (hb : Binds X.K fd ps []) (TB : TabB X.base X.mg c P) (hcode : X.env.code = .ref c) (hmT : (P, X.env.qual ++ "<lambda>") ∈ w.T) (huT : ∀ p ∈ w.T, p.1 = P → p.2 = X.env.qual ++ "<lambda>") (hdef : defaultsOf params X.env = ([], [])) (L : LamS X.env.scope scope)
    (hbind : ∀ cls pm c' ctv, bindArgs (PySem.W.kla_fn "<lambda>" (X.env.qual ++ "<lambda>") params body scope cls pm (.ref c') ctv) ⟨[], []⟩ = pure [])
    (hbody : ∀ (f c' : Addr) (A : Around) (outer : List Env) (s1 : Shared) (H : Hp) (E : XK), Room kc (A.deeper (lamEnv X scope s1.heap.objs.size f c')) → (A.deeper (lamEnv X scope s1.heap.objs.size f c')).guards = some [] → DE w (lamCx X A outer s1 H E scope f c') body tb)
    (ha : DA w X es ta) (hdb : (x == ("__debug__" : Str)) = false) (he : starEach (.Lambda params body scope lpos :: es) X.env = (false, eval (.Lambda params body scope lpos) X.env) :: starEach es X.env) (hpl : (backTo pos (starEach es X.env)).any (·.1) = false) :
    DE w X (.Call (.Name x p) (.Lambda params body scope lpos :: es) [] pos) (dClo sp tb ta) :=
  ⟨fun Wv tk => ⟨fun pins s σv H Q I ⟨σ, ρ, M, q, xx, a, hq, kq, kx⟩ => by
    obtain ⟨fe, fo', Lf, hst, hfe, hfx⟩ := fo
    refine wpAny_Call_Name_kw (ld_glob I hg hm ?_ hdb)
    refine PySem.W.callWith_K (h₀ := X.base) I.ok.mod.kin hk ?_ he hpl
    rw [he]
    show wpAny _ _ (spliced ((false, eval (.Lambda params body scope lpos) X.env) :: backTo pos (starEach es X.env))) _ _ s
    refine Calls.spliced_cons (lam_new I TB hcode hmT huT a.m.tabs hdef (L.has I.ok) fun fc c' pm ctv H1 s1 hsz I1 LM hfo hfn hfr hc => ?_)
    obtain ⟨m1, e1⟩ := RepM.lam a.m LM
    have nL : fc ≠ X.env.locals := Nat.ne_of_gt (Nat.lt_of_lt_of_le I.lt hsz)
    have I1' : Inv X ((fc, PySem.W.kla_obj "<lambda>" (X.env.qual ++ "<lambda>") params body scope (cloFrom X.env.cells scope.names []) pm c' ctv) :: pins) σv H1 s1 := I1.pins_of fun p hp => by
      rcases List.mem_cons.mp hp with e | hp
      · subst e
        exact ⟨hfo, hfn, nL, I.nofs hsz, fun v z => nomatch z⟩
      · exact I1.pin p (List.mem_append_right _ hp)
    refine thn ((ha.run Wv tk).run pos _ s1 σv H1 (fun vs H2 => ∃ ρ2 M2 ds, Exs w H1 ρ M H2 ρ2 M2 ∧ RepM w H2 ρ2 M2 ∧ Rps w H2 ρ2 M2 ds vs ∧ sp (fun q' x' => tb σ M2 q' (fun c es _ M' => x' c es M')) ds M2 q fun c es M' => xx c es σ M') I1' ?_) fun us s2 ⟨vs, H2, I2, rv, ρ2, M2, ds, e2, m2, r2, h2⟩ => ?_
    · exact ⟨σ, ρ, M, _, xx, a.ext m1 e1, hq, fun H2 ρ2 M2 ds vs e2 m2 r2 h2 => ⟨ρ2, M2, ds, e2, m2, r2, h2⟩, kx.ext e1⟩
    · refine ⟨I2.kIn, ?_⟩
      have pf := I2.pin (fc, PySem.W.kla_obj "<lambda>" (X.env.qual ++ "<lambda>") params body scope (cloFrom X.env.cells scope.names []) pm c' ctv) (List.mem_append_right _ List.mem_cons_self)
      have I3 : Inv X pins σv H2 s2 := I2.pins_of fun p hp => I2.pin p (List.mem_append_right _ (List.mem_cons_of_mem _ hp))
      have hc2 : H2 c' = some (CodeO c' (X.env.qual ++ "<lambda>")) := e2.fr _ _ hc (fun z => by
        rcases z with z | ⟨i, d, z1, z2, z3⟩
        · have := m1.hk c' z; rw [hc] at this; exact this
        · have := m1.muAt z1 z2 z3; rw [hc] at this; exact this) codeO_ne
      have C := clo_of (w := w) (tb := tb) hK I3 L pf.1 pf.2.1 hfr hc2 (hbind _ _ _ _) (fun A outer s1 H E => hbody fc c' A outer s1 H E)
      have a2 : At w H2 ρ2 M2 σ σv := (a.ext m1 e1).ext m2 e2
      have C2 : Clo X.prog X.w X.K X.mg X.base (kc + 1) X.stack s2 H2 fc (RD w H2 ρ2 M2 fun q' x' => tb σ M2 q' (fun c es _ M' => x' c es M')) :=
        ⟨C.obj, C.fn, C.fr, fun Q Q' Ex Ex' hQ hE ⟨q, x, h, kq, kx⟩ => ⟨q, x, h, fun _ _ _ _ _ e m r hq => hQ _ _ (kq _ _ _ _ _ e m r hq), fun _ _ _ _ _ _ _ e m r hx => hE _ _ _ (kx _ _ _ _ _ _ _ e m r hx)⟩,
          fun A outer' s1 Q Ex hr hg e0 un ⟨q', x', h, kq', kx'⟩ => C.run A outer' s1 Q Ex hr hg e0 un ⟨σ, ρ2, M2, q', _, a2, h, kq', fun _ _ _ _ _ _ _ _ _ e a' r hx => kx' _ _ _ _ _ _ _ e a'.m r hx⟩⟩
      have hl : us.length + 1 = ps.length := by rw [← rv.length, ← r2.length]; exact F.len _ _ _ _ _ h2
      have hbb := hb s2 (.ref fc :: us) I2.kIn (by simpa using hl)
      rw [List.append_nil] at hbb
      refine wpAny_call (codeAny_mono (F.run X.A X.stack s2 H2 _ _ fc vs w.hid ρ2 M2 _ ds q _ Q (fun cl dd H' => Wv cl dd σv H') hr hgd (hK ▸ I3.env0) hbb (.cons rfl rv) m2 r2 (hK ▸ C2) h2 (kq.ext (e1.trans e2)) fun H' ρ' M' i es cl dd e m rx hx => (kx.ext (e1.trans e2)) _ _ _ _ _ _ _ _ _ e (a2.ext m e) rx hx) fun r s' hq => ?_)
      cases r with
      | error e => exact tk _ _ (XF.of_call hfx I3 (fun cls d H' h => h) hq)
      | ok fl =>
        cases fl with
        | ret u => exact I3.after hq
        | next => exact hq.elim
        | brk => exact hq.elim
        | cont => exact hq.elim⟩⟩
end
end TL
namespace TL
open PySem PySem.Spec PyProof.Rows L2 LamX
section
variable {P : Program} {W : World} {c : Wc} {mg : Str → Option Value} {base : Heap}
/-- the closure, seen from within the def that got it -/
theorem Clo.into {N : List Str} {qual : Str} {scope : Scope} {g : Addr} {cdv : Value} {A : Around} {outer : List Env} {s s1 : Shared} {H : Hp} {Eg : XK} {kc : Nat} {fc : Addr} {R : VK → XK → Prop} {K : PySem.W.Frag} {pins : List (Addr × Obj)} {σ : L2.St}
    (C : Clo P W K mg base kc outer s H fc R) (I : Inv (cxOf (L2.CX P W) P W K mg base N qual scope g cdv A outer s H Eg) pins σ H s1) : Clo P W K mg base kc (cxOf (L2.CX P W) P W K mg base N qual scope g cdv A outer s H Eg).stack s1 H fc R := by
  obtain ⟨oc, od, fd, osl, ho⟩ := C.obj
  have un : Un (frs outer) [] H H s.heap s1.heap := I.base
  have of1 : s1.heap.get? fc = some ⟨oc, od, .func fd, osl⟩ := un.keep fc _ ho C.fn C.fr (fun z => nomatch z)
  have hst : ∀ b, b ∈ frs (cxOf (L2.CX P W) P W K mg base N qual scope g cdv A outer s H Eg).stack ↔ b = s.heap.objs.size ∨ b ∈ frs outer := fun b => by
    show b ∈ frs (envOfC qual scope s.heap.objs.size g cdv :: outer) ↔ _
    unfold frs
    rw [List.filterMap_cons]
    show b ∈ s.heap.objs.size :: _ ↔ _
    rw [List.mem_cons]
  have nb : ∀ {b : Addr} {o : Obj}, s.heap.get? b = some o → b ≠ s.heap.objs.size := fun {b o} e => Nat.ne_of_lt (Heap.lt_size e)
  refine ⟨⟨_, _, _, _, of1⟩, C.fn, fun z => ((hst fc).mp z).elim (nb ho) C.fr, C.mono, fun A' outer' s2 Q Ex hr hg e0 u h => C.run A' outer' s2 Q Ex hr hg e0 ?_ h⟩
  exact {
    keep := fun b o e n hf hx => u.keep b o (un.keep b o e n hf hx) n (fun z => ((hst b).mp z).elim (nb e) hf) hx
    slot := fun b o e n hf hx => by
      obtain ⟨sl, e1⟩ := un.slot b o e n hf hx
      obtain ⟨sl2, e2⟩ := u.slot b _ e1 n ((hst b).mpr (.inr hf)) hx
      exact ⟨sl2, e2⟩
    free := fun b o e n hx => n
    there := fun b o e hx => by
      obtain ⟨o1, e1⟩ := un.there b o e hx
      exact u.there b o1 e1 hx
    tups := fun b xs e => e
    frzs := fun b o v e => e
    tbls := fun b ps e => ⟨#[], by rw [e]; simp⟩ }
/-- saturated -/
def sat (t : CTD) : CTD := fun q x => ∃ q0 x0, t q0 x0 ∧ (∀ d M', q0 d M' → q d M') ∧ ∀ i es M', x0 i es M' → x i es M'
theorem RD.sat {w : Wd} {H : Hp} {ρ : List Addr} {M : Sto} {t : CTD} {Q : VK} {Ex : XK} (h : RD w H ρ M (sat t) Q Ex) : RD w H ρ M t Q Ex := by
  obtain ⟨q, x, ⟨q0, x0, h, h1, h2⟩, kq, kx⟩ := h
  exact ⟨q0, x0, h, fun _ _ _ _ _ e m r hq => kq _ _ _ _ _ e m r (h1 _ _ hq), fun _ _ _ _ _ _ _ e m r hx => kx _ _ _ _ _ _ _ e m r (h2 _ _ _ hx)⟩
theorem Clo.sat {K : PySem.W.Frag} {kc : Nat} {outer : List Env} {s : Shared} {H : Hp} {fc : Addr} {w : Wd} {ρ : List Addr} {M : Sto} {t : CTD} (C : Clo P W K mg base kc outer s H fc (RD w H ρ M t)) : Clo P W K mg base kc outer s H fc (RD w H ρ M (TL.sat t)) :=
  ⟨C.obj, C.fn, C.fr, fun Q Q' Ex Ex' hQ hE ⟨q, x, h, kq, kx⟩ => ⟨q, x, h, fun _ _ _ _ _ e m r hq => hQ _ _ (kq _ _ _ _ _ e m r hq), fun _ _ _ _ _ _ _ e m r hx => hE _ _ _ (kx _ _ _ _ _ _ _ e m r hx)⟩, fun A outer' s1 Q Ex hr hg e0 un h => C.run A outer' s1 Q Ex hr hg e0 un h.sat⟩
/-- a def whose first statement is y = g(work) -/
theorem fnCD_first {x qual gx wk y : Str} {st : Stmt} {f g : Addr} {fd gd : FuncData} {N ps : List Str} {kc k j : Nat} {rest : List Stmt} {p1 p2 p3 p4 p5 : Pos} {cok : Nat → Bool} {sp : CTD → List D → Sto → QD → XCD → Prop} (F : Fun c.K x qual st f fd) (S : FnScope N ps (defScope st))
    (len : ∀ t ds M q x, sp t ds M q x → ds.length + 1 = ps.length) (G : FnCD P W c mg base kc k g gd [wk] (spCaught cok)) (hk : PySem.W.keepIn c.K (.ref g) = true) (hbg : Binds c.K gd [wk] [])
    (hb : defBody st = .Assign [.Name y p1] (.Call (.Name gx p2) [.Name wk p3] [] p4) p5 :: rest) (n0 : N[0]? = some wk) (nj : N[j]? = some y) (l0 : Vis (defScope st) wk) (lj : (defScope st).names.lookup y = some .local) (lg : (defScope st).names.lookup gx = some .globalImplicit) (hm : mg gx = some (.ref g))
    (d0 : (wk == ("__debug__" : Str)) = false) (d1 : (wk == ("__classdict__" : Str)) = false) (d2 : (gx == ("__debug__" : Str)) = false) (sw : ∀ env, swapsWith (.Call (.Name gx p2) [.Name wk p3] [] p4) (some (.Name y p1)) p5.line env = pure false)
    (hrest : ∀ (hd : Addr → Prop) (cdv : Value) (A : Around) (outer : List Env) (s : Shared) (H : Hp) (E : XK), Room k (A.deeper (envOfC qual (defScope st) s.heap.objs.size f cdv)) → (A.deeper (envOfC qual (defScope st) s.heap.objs.size f cdv)).guards = some [] →
      ∃ t, DSs ⟨c, hd⟩ (defCx P W c.K mg base N qual (defScope st) f cdv A outer s H E) rest t ∧ ∀ (tc : CTD) (fc : Addr) ds M q x, D.bdL M.length M = true → D.bdL M.length ds = true → sp tc ds M q x → ∃ q0 x0, tc q0 x0 ∧
        (∀ d M', q0 d M' → t { nx := fun _ M' => gcQ M.length q .non M', rt := gcQ M.length q } (gcX M.length x) ((startD N.length (.raw (.ref fc) :: ds)).set j (some .non)) M') ∧
        ∀ i es M', x0 i es M' → if cok i = true then t { nx := fun _ M' => gcQ M.length q .non M', rt := gcQ M.length q } (gcX M.length x) ((startD N.length (.raw (.ref fc) :: ds)).set j (some (.err i es))) M' else gcX M.length x i es [] M') :
    FnCD P W c mg base kc (k + 1) f fd ps sp := by
  obtain ⟨oc, od, kV, doc, pm, an, cdv, ct, osl, rfl, lk, hcd⟩ := F.ex
  refine ⟨len, fun A outer s H args us fc vs hd ρ M tc ds q x Q Ex hr hg e0 hbd r m rs C hsp kq kx => ?_⟩
  refine LamX.run_ofS (N := N) (ps := ps) (us := us) (vs := .ref fc :: vs) lk hcd S hr e0 hbd r (by rw [List.length_cons, ← rs.length]; exact len _ _ _ _ _ hsp) fun hr' => ?_
  obtain ⟨t, ht, hq⟩ := hrest hd cdv A outer s H Ex hr' (guards_deeper hg _)
  obtain ⟨q0, x0, h0, hn, hx⟩ := hq tc fc ds M q x m.bd (by rw [← m.len]; exact rs.bd) hsp
  have bX : Tk (defCx P W c.K mg base N qual (defScope st) f cdv A outer s H Ex) (fun cl dd _ H' => Ex cl dd H') := Tk.of rfl (takes_of rfl rfl rfl rfl)
  have rr : Rps ⟨c, hd⟩ H ρ M (.raw (.ref fc) :: ds) (.ref fc :: vs) := .cons (.raw _) rs
  -- the first statement
  have s1 : PS (defCx P W c.K mg base N qual (defScope st) f cdv A outer s H Ex) (.Assign [.Name y p1] (.Call (.Name gx p2) [.Name wk p3] [] p4) p5)
      (fun De σ H' => σ = L2.start N (.ref fc :: vs) ∧ H' = H ∧ ∀ v H2, (∃ ρ2 M2 d, Exs ⟨c, hd⟩ H ρ M H2 ρ2 M2 ∧ RepM ⟨c, hd⟩ H2 ρ2 M2 ∧ Rp ⟨c, hd⟩ H2 ρ2 M2 d v ∧ ((d = .non ∧ ∃ d0, q0 d0 M2) ∨ ∃ i es, d = .err i es ∧ cok i = true ∧ x0 i es M2)) → De.nx (σ.set j (some v)) H2) := by
    refine ⟨fun pins s1 σ H' De I ⟨e1, e2, hnx⟩ => ?_⟩
    subst e1
    subst e2
    refine wpAny_Assign_Name ?_ (sw _)
    refine wpAny_Call_Name_kw (ld_glob I lg hm ?_ d2)
    refine PySem.W.callWith_K (h₀ := base) I.ok.mod.kin hk ?_ rfl rfl
    refine Calls.spliced_cons (thn ((pe_var (X := defCx P W c.K mg base N qual (defScope st) f cdv A outer s H' Ex) (pos := p3) (i := 0) n0 l0 d0 d1).run pins s1 _ H' (fun v H1 => v = .ref fc ∧ H1 = H') I ⟨.ref fc, ?_, rfl, rfl⟩) fun u s2 ⟨v, H1, I1, r1, ev, eH⟩ => ?_)
    · have h0l : 0 < N.length := (List.getElem?_eq_some_iff.mp n0).1
      unfold L2.start
      simp
    · subst ev
      rw [eH] at I1
      obtain rfl : u = Value.ref fc := r1
      refine Calls.spliced_nil ⟨I1.kIn, ?_⟩
      have bb := hbg s2 [.ref fc] I1.kIn rfl
      refine wpAny_call (codeAny_mono (G.run _ _ s2 H' _ [.ref fc] fc [] hd ρ M (sat tc) [] (fun d M' => (d = .non ∧ ∃ d0, q0 d0 M') ∨ ∃ i es, d = .err i es ∧ cok i = true ∧ x0 i es M') (fun i es M' => cok i = false ∧ x0 i es M')
        (fun v H2 => De.nx ((L2.start N (.ref fc :: vs)).set j (some v)) H2) (fun cl dd H' => Ex cl dd H') hr' (guards_deeper hg _) I1.env0 bb (.cons rfl .nil) m .nil (Clo.into C.sat I1) ⟨rfl, q0, x0, h0, fun d M' h => .inl ⟨rfl, d, h⟩, fun i es M' h => ?_⟩ ?_ ?_) fun r s' hq => ?_)
      · cases e : cok i with
        | true => rw [if_pos e]; exact .inr ⟨i, es, rfl, e, h⟩
        | false => rw [if_neg (by rw [e]; simp)]; exact ⟨e, h⟩
      · exact fun H2 ρ2 M2 d v e m2 r2 h2 => hnx v H2 ⟨ρ2, M2, d, e, m2, r2, h2⟩
      · intro H2 ρ2 M2 i es cl dd e m2 rx ⟨hc, hx0⟩
        have := hx i es M2 hx0
        rw [if_neg (by rw [hc]; simp)] at this
        exact (kx.gc m) _ _ _ _ _ _ _ [] [] e ⟨m2, ⟨rfl, fun i d z => by simp at z⟩⟩ rx this
      · cases r with
        | error e => exact bX _ _ (XF.of_call rfl I1 (fun cls d H' h => h) hq)
        | ok fl =>
          cases fl with
          | ret u =>
            obtain ⟨v, H2, I2, rv, hnx2⟩ := I1.after (Q := fun v H2 => De.nx ((L2.start N (.ref fc :: vs)).set j (some v)) H2) hq
            exact store_ok I2 S.nd nj (.inl lj) rv (fun s3 I3 => ⟨_, _, I3, hnx2⟩) (.inr lj)
          | next => exact False.elim hq
          | brk => exact False.elim hq
          | cont => exact False.elim hq
  rw [hb]
  refine ⟨_, pss_cons s1 (ht.run (fun cl dd _ H' => Ex cl dd H') bX), rfl, rfl, fun v H2 ⟨ρ2, M2, d, e2, m2, r2, h2⟩ => ?_⟩
  have st0 : RepS c H2 ρ2 (Lv ⟨c, hd⟩ ρ2 M2) (startD N.length (.raw (.ref fc) :: ds)) (L2.start N (.ref fc :: vs)) := (repS_start (w := ⟨c, hd⟩) rr).ext e2
  refine ⟨(startD N.length (.raw (.ref fc) :: ds)).set j (some d), ρ2, M2, { nx := fun _ M' => gcQ M.length q .non M', rt := gcQ M.length q }, gcX M.length x, ⟨m2, RepS.set (w := ⟨c, hd⟩) st0 r2 j⟩, ?_, ⟨?_, (kq.gc m).ext e2, fun _ _ _ _ _ _ _ h => h.elim, fun _ _ _ _ _ _ _ h => h.elim⟩, XOk.ext (kx.gc m) e2⟩
  · rcases h2 with ⟨rfl, d0, h2⟩ | ⟨i, es, rfl, hc, h2⟩
    · exact hn d0 M2 h2
    · have := hx i es M2 h2
      rw [if_pos hc] at this
      exact this
  · intro H' ρ' M' σ' σv' e a' h
    exact kq.gc m _ _ _ _ _ (e2.trans e) a'.m .non h
end
end TL
namespace TL
open PySem PySem.Spec PyProof.Rows L2 LamX
/-! ## what is known at a place, and the rules by it -/
structure GE (w : Wd) (X : Cx) (k : Nat) : Prop where
  K : X.K = w.K
  calm : X.calm = true
  nd : X.N.Nodup
  fo : FrOk X
  room : Room k X.A
  gd : X.A.guards = some []
structure GS (w : Wd) (X : Cx) (k : Nat) : Prop extends GE w X k where
  pass : PassesOwn (model X.prog X.w) X.A X.env X.xe
  fr : X.env.frame = some X.env.locals
  st : X.stack = X.env :: X.outer
  ex : X.ex = []
/-- a def that may be called by its name -/
structure FnI (P : Program) (W : World) (c : Wc) (mg : Str → Option Value) (base : Heap) (k : Nat) (x : Str) (ps : List Str) (sp : SpD) : Prop where
  ex : ∃ f fd, FnG P W c mg base k f fd ps sp ∧ mg x = some (.ref f) ∧ PySem.W.keepIn c.K (.ref f) = true ∧ Binds c.K fd ps []
structure FnCI (P : Program) (W : World) (c : Wc) (mg : Str → Option Value) (base : Heap) (kc k : Nat) (x : Str) (ps : List Str) (sp : CTD → List D → Sto → QD → XCD → Prop) : Prop where
  ex : ∃ f fd, FnCD P W c mg base kc k f fd ps sp ∧ mg x = some (.ref f) ∧ PySem.W.keepIn c.K (.ref f) = true ∧ Binds c.K fd ps []
section
variable {w : Wd} {X : Cx} {k : Nat}
theorem GE.u (g : GE w X k) : X.A.units + 70 < cLine := by have := g.room.un; omega
theorem GE.u1 (g : GE w X k) : X.A.units + 1 < cLine := by have := g.u; omega
theorem GE.u64 (g : GE w X k) : X.A.units + 64 < cLine := by have := g.u; omega
theorem GE.u65 (g : GE w X k) : X.A.units + 65 < cLine := by have := g.u; omega
theorem GE.u0 (g : GE w X k) : X.A.units < cLine := by have := g.u; omega
theorem GE.blk (g : GE w X k) (hd : Addr → Prop) (s : Shared) (H : Hp) (scope : Scope) (cl : List (Str × Addr)) (C : Addr) (fp : List Addr) (E : Value → Shared → Prop) : GE (whd w hd) (blkE X s H scope (compEnvC scope cl C X.env) fp E) k where
  K := g.K
  calm := g.calm
  nd := g.nd
  fo := let ⟨fe, fo, Lf, h1, h2, h3⟩ := g.fo; ⟨fe, fo, Lf, h1, h2, h3⟩
  room := g.room
  gd := g.gd
theorem GE.whd (g : GE w X k) (hd : Addr → Prop) : GE (TL.whd w hd) X k := ⟨g.K, g.calm, g.nd, g.fo, g.room, g.gd⟩
theorem GS.tr (g : GS w X k) (pn : List (Addr × Obj)) (xe : Value → Shared → Prop) (hp : PassesOwn (model X.prog X.w) X.A X.env xe) : GS w (X.tr pn xe) k where
  K := g.K
  calm := g.calm
  nd := g.nd
  fo := let ⟨fe, fo, Lf, h1, h2, h3⟩ := g.fo; ⟨fe, fo, Lf, h1, h2, h3⟩
  room := g.room
  gd := g.gd
  pass := hp
  fr := g.fr
  st := g.st
  ex := g.ex
theorem gs_def {P : Program} {W : World} {c : Wc} {hd : Addr → Prop} {mg : Str → Option Value} {base : Heap} {N ps : List Str} {qual : Str} {scope : Scope} {f : Addr} {cdv : Value} {A : Around} {outer : List Env} {s : Shared} {H : Hp} {E : XK} (S : FnScope N ps scope) (hr : Room k (A.deeper (envOfC qual scope s.heap.objs.size f cdv)))
    (hg : (A.deeper (envOfC qual scope s.heap.objs.size f cdv)).guards = some []) : GS ⟨c, hd⟩ (defCx P W c.K mg base N qual scope f cdv A outer s H E) k where
  K := rfl
  calm := rfl
  nd := S.nd
  fo := defCx_fr
  room := hr
  gd := hg
  pass := passes_of rfl
  fr := rfl
  st := rfl
  ex := rfl
theorem ge_lam {Y : Cx} {A : Around} {outer : List Env} {s : Shared} {H : Hp} {E : XK} {scope : Scope} {f c' : Addr} (g : GE w Y k) {j : Nat} (hr : Room j (A.deeper (lamEnv Y scope s.heap.objs.size f c'))) (hg : (A.deeper (lamEnv Y scope s.heap.objs.size f c')).guards = some []) : GE w (lamCx Y A outer s H E scope f c') j where
  K := g.K
  calm := rfl
  nd := g.nd
  fo := ⟨_, _, _, rfl, rfl, rfl⟩
  room := hr
  gd := hg
/-! ### names, constants -/
theorem x_var {i : Nat} {x : Str} {pos : Pos} (hv : Vis X.env.scope x := by first | exact .inl rfl | exact .inr (.inl rfl) | exact .inr (.inr rfl)) (hN : X.N[i]? = some x := by rfl) (hd : (x == ("__debug__" : Str)) = false := by rfl) (hcd : (x == ("__classdict__" : Str)) = false := by rfl) : DE w X (.Name x pos) (dVar i) := de_var hN hv hd hcd
theorem x_int {i : Int} {j : Nat} {pos : Pos} : DE w X (.Constant (.int i) j pos) (dC (.int i)) := de_const pe_int fun _ _ _ => .int _
theorem x_str {z : Str} {j : Nat} {pos : Pos} : DE w X (.Constant (.str z) j pos) (dC (.str z)) := de_const pe_str fun _ _ _ => .str _
theorem x_bl {b : Bool} {j : Nat} {pos : Pos} : DE w X (.Constant (.bool b) j pos) (dC (.bl b)) := de_const pe_bl fun _ _ _ => .bl _
theorem x_non {j : Nat} {pos : Pos} : DE w X (.Constant .none j pos) (dC .non) := de_const pe_non fun _ _ _ => .non
/-- a module's number, text -/
theorem x_gint {x : Str} {i : Int} {pos : Pos} (hm : ∃ t, X.mg x = some (.int i t)) (hg : Gl X x := by rfl) (hd : (x == ("__debug__" : Str)) = false := by rfl) : DE w X (.Name x pos) (dC (.int i)) :=
  let ⟨_, h⟩ := hm; de_const (pe_glob (v := .int i) hg h ⟨_, rfl⟩ hd) fun _ _ _ => .int _
theorem x_gstr {x z : Str} {pos : Pos} (hm : ∃ t, X.mg x = some (.str z t)) (hg : Gl X x := by rfl) (hd : (x == ("__debug__" : Str)) = false := by rfl) : DE w X (.Name x pos) (dC (.str z)) :=
  let ⟨_, h⟩ := hm; de_const (pe_glob (v := .str z) hg h ⟨_, rfl⟩ hd) fun _ _ _ => .str _
/-- an own error class -/
theorem x_gcls {x : Str} {i : Nat} {pos : Pos} (hm : X.mg x = some (.ref (w.cls i))) (hg : Gl X x := by rfl) (hd : (x == ("__debug__" : Str)) = false := by rfl) : DE w X (.Name x pos) (dC (.cls i)) :=
  de_const (pe_glob (v := .ref (w.cls i)) hg hm rfl hd) fun _ _ _ => .cls _
/-- a built-in type as a value -/
theorem x_gty {x : Str} (n : String) {pos : Pos} (hm : X.mg x = none) (hg : Gl X x := by rfl) (hv : bootBuiltins x = some (.type n) := by decide +kernel) (hn : x ≠ "__name__" := by decide) (hd : (x == ("__debug__" : Str)) = false := by rfl) : DE w X (.Name x pos) (dC (.raw (.ty n))) :=
  de_const (pe_bltn (v := .ty n) hg hm hv rfl hn hd) fun _ _ _ => .raw _
/-! ### arguments -/
theorem x_nil : DA w X [] dNil := da_nil
theorem x_cons {e : Expr} {es : List Expr} {t : TED} {r : TAD} (h : DE w X e t) (hr : DA w X es r) (hs : starEach (e :: es) X.env = (false, eval e X.env) :: starEach es X.env := by rfl) : DA w X (e :: es) (dCons t r) := da_cons h hr hs
/-! ### operators -/
theorem x_bin {op : Operator} {a b : Expr} {pos : Pos} {ta tb : TED} {f : D → D → Sto → QD → Prop} (ho : OpD w X (binaryOp op) f) (ha : DE w X a ta) (hb : DE w X b tb) : DE w X (.BinOp a op b pos) (dBin f ta tb) := do_bin ho ha hb
theorem x_cmp {op : CmpOp} {a b : Expr} {pos : Pos} {ta tb : TED} {f : D → D → Sto → QD → Prop} (ho : OpD w X (compareOp op) f) (ha : DE w X a ta) (hb : DE w X b tb) (hm : behindInMarks op b = false := by rfl) : DE w X (.Compare a [op] [b] pos) (dBin f ta tb) := do_cmp ho ha hb hm
theorem q_cmp {op : CmpOp} {a b : Expr} {pos : Pos} {ta tb : TED} {f : D → D → Sto → QD → Prop} (ho : OpD w X (compareOp op) f) (ha : DE w X a ta) (hb : DE w X b tb) (hm : behindInMarks op b = false := by rfl) : DT w X (.Compare a [op] [b] pos) (tst (dBin f ta tb)) := dq_cmp ho ha hb hm
theorem x_chain {op op' : CmpOp} {a b c : Expr} {pos : Pos} {ta tb tc : TED} {f h : D → D → Sto → QD → Prop} (ho : OpD w X (compareOp op) f) (ho' : OpD w X (compareOp op') h) (ha : DE w X a ta) (hb : DE w X b tb) (hc : DE w X c tc) (hm : lastMarks [op, op'] [b, c] = false := by with_unfolding_all rfl) :
    DE w X (.Compare a [op, op'] [b, c] pos) (dChain f h ta tb tc) := do_chain ho ho' ha hb hc hm
theorem x_ix (g : GE w X k) {a b : Expr} {pos : Pos} {ta tb : TED} (ha : DE w X a ta) (hb : DE w X b tb) (hs : PlainIx b := by exact fun _ _ => rfl) : DE w X (.Subscript a b pos) (dBin (fun x y M q => ixD x y M q ∨ ∃ d, dget M x y = some (some d) ∧ q d M) ta tb) := do_ix (xd_all g.K g.u1) ha hb hs
theorem q_val {e : Expr} {t : TED} (h : DE w X e t) (he : ∀ whole, isTrue e X.env whole = (do let v ← whole; standAt e.pos; holding [v] (truthy v)) := by intro _; rfl) : DT w X e (tst t) := dt_val h he
/-! ### calls -/
theorem x_blt {id : String} {x : Str} {e : Expr} {es : List Expr} {p pos : Pos} {t : TAD} {f : List D → Sto → QD → Prop} (hc : CallD w X (.builtin id) f) (hm : X.mg x = none) (ha : DA w X (e :: es) t) (hg : Gl X x := by rfl) (hv : bootBuiltins x = some (.builtin id) := by decide +kernel) (hn : x ≠ "__name__" := by decide) (hdb : (x == ("__debug__" : Str)) = false := by rfl)
    (he : starEach (e :: es) X.env = (false, eval e X.env) :: starEach es X.env := by rfl) (hpl : (backTo pos (starEach es X.env)).any (·.1) = false := by rfl) : DE w X (.Call (.Name x p) (e :: es) [] pos) (dApp f t) := do_callB hc hg hm hv ha hn hdb he hpl
theorem x_ty {T : String} {x : Str} {e : Expr} {es : List Expr} {p pos : Pos} {t : TAD} {f : List D → Sto → QD → Prop} (hc : CallD w X (.type T) f) (hm : X.mg x = none) (ha : DA w X (e :: es) t) (hg : Gl X x := by rfl) (hv : bootBuiltins x = some (.type T) := by decide +kernel) (hn : x ≠ "__name__" := by decide) (hdb : (x == ("__debug__" : Str)) = false := by rfl)
    (he : starEach (e :: es) X.env = (false, eval e X.env) :: starEach es X.env := by rfl) (hpl : (backTo pos (starEach es X.env)).any (·.1) = false := by rfl) : DE w X (.Call (.Name x p) (e :: es) [] pos) (dApp f t) := do_callTy hc hg hm hv ha hn hdb he hpl
theorem x_call (g : GE w X k) {j : Nat} {x : Str} {ps : List Str} {sp : SpD} {e : Expr} {es : List Expr} {p pos : Pos} {t : TAD} (F : FnI X.prog X.w w.toWc X.mg X.base j x ps sp) (ha : DA w X (e :: es) t) (hj : j ≤ k := by decide) (hg : Gl X x := by rfl) (hdb : (x == ("__debug__" : Str)) = false := by rfl)
    (he : starEach (e :: es) X.env = (false, eval e X.env) :: starEach es X.env := by rfl) (hpl : (backTo pos (starEach es X.env)).any (·.1) = false := by rfl) : DE w X (.Call (.Name x p) (e :: es) [] pos) (dCall sp t) := by
  obtain ⟨f, fd, F, h1, h2, h3⟩ := F.ex
  exact de_call g.K g.fo F (g.room.mono hj) g.gd hg h1 (g.K ▸ h2) (g.K ▸ h3) ha hdb he hpl
theorem x_call0 (g : GE w X k) {j : Nat} {x : Str} {ps : List Str} {sp : SpD} {p pos : Pos} (F : FnI X.prog X.w w.toWc X.mg X.base j x ps sp) (hj : j ≤ k := by decide) (hg : Gl X x := by rfl) (hdb : (x == ("__debug__" : Str)) = false := by rfl) : DE w X (.Call (.Name x p) [] [] pos) (dCall sp dNil) := by
  obtain ⟨f, fd, F, h1, h2, h3⟩ := F.ex
  exact de_call0 g.K g.fo F (g.room.mono hj) g.gd hg h1 (g.K ▸ h2) (g.K ▸ h3) hdb
theorem x_mt (g : GE w X k) {T id : String} {name : Str} {o e : Expr} {es : List Expr} {apos cpos : Pos} {to : TED} {ta : TAD} {f : D → List D → Sto → QD → Prop} (pa : PlainAttrs T) (slot : Slot T name id) (hty : typeOf (.builtin id) = pure (.type "method_descriptor")) (hm : MtD w X id f) (ho : DE w X o to) (ha : DA w X (e :: es) ta)
    (hbase : attributeBase o name X.env (eval o X.env) = eval o X.env := by rfl)
    (hfew : ((backTo cpos (starEach (e :: es) X.env)).all (fun x => !x.1) && (backToKw cpos (keywordEach [] X.env)).all (fun x => x.1.isSome)
      && decide ((e :: es).length + ([] : List Keyword).length + (if ([] : List Keyword).isEmpty then 0 else 1) < 30)) = true := by rfl)
    (hline : (apos.endLine == cpos.line) = true := by rfl) (hs : starEach (e :: es) X.env = (false, eval e X.env) :: starEach es X.env := by rfl) (hplain : (backTo cpos (starEach es X.env)).any (·.1) = false := by rfl) :
    DE w X (.Call (.Attribute o name apos) (e :: es) [] cpos) (dMt T f to ta) := do_mt pa slot hty hm ho ha hbase hfew hline hs hplain
theorem x_mt0 (g : GE w X k) {T id : String} {name : Str} {o : Expr} {apos cpos : Pos} {to : TED} {f : D → List D → Sto → QD → Prop} (pa : PlainAttrs T) (slot : Slot T name id) (hty : typeOf (.builtin id) = pure (.type "method_descriptor")) (hm : MtD w X id f) (ho : DE w X o to)
    (hbase : attributeBase o name X.env (eval o X.env) = eval o X.env := by rfl) (hline : (apos.endLine == cpos.line) = true := by rfl) : DE w X (.Call (.Attribute o name apos) [] [] cpos) (dMt T f to dNil) := do_mt0 pa slot hty hm ho hbase hline
theorem x_app (g : GE w X k) {o e : Expr} {apos cpos : Pos} {to te : TED} (ho : DE w X o to) (he : DE w X e te) (hbase : attributeBase o "append" X.env (eval o X.env) = eval o X.env := by rfl) (hs : starEach [e] X.env = (false, eval e X.env) :: starEach [] X.env := by rfl)
    (hfew : ((backTo cpos (starEach [e] X.env)).all (fun x => !x.1) && (backToKw cpos (keywordEach [] X.env)).all (fun x => x.1.isSome) && decide ([e].length + ([] : List Keyword).length + (if ([] : List Keyword).isEmpty then 0 else 1) < 30)) = true := by rfl) (hline : (apos.endLine == cpos.line) = true := by rfl) :
    DE w X (.Call (.Attribute o "append" apos) [e] [] cpos) (dMt "list" appD to (dCons te dNil)) :=
  do_mt PySem.F.plainAttrs_list PySem.F.slot_list_append PySem.F.type_list_append md_append ho (da_cons he da_nil hs) hbase hfew hline hs rfl
theorem x_ext (g : GE w X k) {o e : Expr} {apos cpos : Pos} {to te : TED} (ho : DE w X o to) (he : DE w X e te) (hbase : attributeBase o "extend" X.env (eval o X.env) = eval o X.env := by rfl) (hs : starEach [e] X.env = (false, eval e X.env) :: starEach [] X.env := by rfl)
    (hfew : ((backTo cpos (starEach [e] X.env)).all (fun x => !x.1) && (backToKw cpos (keywordEach [] X.env)).all (fun x => x.1.isSome) && decide ([e].length + ([] : List Keyword).length + (if ([] : List Keyword).isEmpty then 0 else 1) < 30)) = true := by rfl) (hline : (apos.endLine == cpos.line) = true := by rfl) :
    DE w X (.Call (.Attribute o "extend" apos) [e] [] cpos) (dMt "list" extD to (dCons te dNil)) :=
  do_mt PySem.F.plainAttrs_list PySem.F.slot_list_extend PySem.F.type_list_extend md_extend ho (da_cons he da_nil hs) hbase hfew hline hs rfl
theorem x_pop (g : GE w X k) {o e : Expr} {apos cpos : Pos} {to te : TED} (ho : DE w X o to) (he : DE w X e te) (hbase : attributeBase o "pop" X.env (eval o X.env) = eval o X.env := by rfl) (hs : starEach [e] X.env = (false, eval e X.env) :: starEach [] X.env := by rfl)
    (hfew : ((backTo cpos (starEach [e] X.env)).all (fun x => !x.1) && (backToKw cpos (keywordEach [] X.env)).all (fun x => x.1.isSome) && decide ([e].length + ([] : List Keyword).length + (if ([] : List Keyword).isEmpty then 0 else 1) < 30)) = true := by rfl) (hline : (apos.endLine == cpos.line) = true := by rfl) :
    DE w X (.Call (.Attribute o "pop" apos) [e] [] cpos) (dMt "list" popD to (dCons te dNil)) :=
  do_mt PySem.F.plainAttrs_list PySem.F.slot_list_pop PySem.F.type_list_pop md_pop ho (da_cons he da_nil hs) hbase hfew hline hs rfl
theorem x_pop0 (g : GE w X k) {o : Expr} {apos cpos : Pos} {to : TED} (ho : DE w X o to) (hbase : attributeBase o "pop" X.env (eval o X.env) = eval o X.env := by rfl) (hline : (apos.endLine == cpos.line) = true := by rfl) :
    DE w X (.Call (.Attribute o "pop" apos) [] [] cpos) (dMt "list" popD to dNil) :=
  do_mt0 PySem.F.plainAttrs_list PySem.F.slot_list_pop PySem.F.type_list_pop md_pop ho hbase hline
theorem x_get (g : GE w X k) {o e f : Expr} {apos cpos : Pos} {td ty tx : TED} (ho : DE w X o td) (he : DE w X e ty) (hf : DE w X f tx) (b : attributeBase o "get" X.env (eval o X.env) = eval o X.env := by rfl)
    (few : ((backTo cpos (starEach [e, f] X.env)).all (fun x => !x.1) && (backToKw cpos (keywordEach [] X.env)).all (fun x => x.1.isSome) && decide (([e, f] : List Expr).length + ([] : List Keyword).length + (if ([] : List Keyword).isEmpty then 0 else 1) < 30)) = true := by rfl)
    (line : (apos.endLine == cpos.line) = true := by rfl) (trees : backTo cpos (starEach [e, f] X.env) = [(false, eval e X.env), (false, eval f X.env)] := by rfl) : DE w X (.Call (.Attribute o "get" apos) [e, f] [] cpos) (dGet2 td ty tx) := do_get2 g.u1 ho he hf ⟨b, few, line, trees⟩
/-! ### comprehensions -/
theorem x_lc (mu : Bool) (g : GE w X k) {elt tg iter : Expr} {ifs : List Expr} {scope : Scope} {own : List (Str × Nat)} {pos : Pos} {t : TID} {gg : TGD} {tt te : TED} {og : List Nat} (hi : DI w X tg iter t) (ok : BlkOk X.N X.env.scope scope own)
    (hb : ∀ (hd : Addr → Prop) (s : Shared) (H : Hp) (C : Addr) (cl : List (Str × Addr)) (fp : List Addr) (E : Value → Shared → Prop), GE (whd w hd) (blkE X s H scope (compEnvC scope cl C X.env) fp E) k → DG (whd w hd) (blkE X s H scope (compEnvC scope cl C X.env) fp E) tg og gg ∧
      DTs (whd w hd) (blkE X s H scope (compEnvC scope cl C X.env) fp E) ifs tt ∧ DE (whd w hd) (blkE X s H scope (compEnvC scope cl C X.env) fp E) elt te) (hog : ∀ i ∈ og, i ∈ own.map (·.2) := by decide)
    (hs : ∀ x, foldedSetIterable iter X.env x = pure x := by intro _; rfl) : DE w X (.ListComp elt [⟨tg, iter, ifs, 0⟩] scope pos) (dLc mu (own.map (·.2)) t gg tt te) :=
  de_lc mu g.calm g.nd g.fo hi ok hog (fun hd s H C cl fp E => hb hd s H C cl fp E (g.blk hd s H scope cl C fp E)) hs
theorem i_seq (g : GE w X k) {tg e : Expr} {t : TED} (he : DE w X e t) : DI w X tg e (dSeqI t) := di_seq g.K he
theorem i_rg1 (g : GE w X k) {tg a : Expr} {t : TED} {p pos : Pos} (hm : X.mg "range" = none) (ha : DE w X a t) (hg : Gl X "range" := by rfl) (hs : starEach [a] X.env = [(false, eval a X.env)] := by rfl) : DI w X tg (.Call (.Name "range" p) [a] [] pos) (dRg1 t) := di_rg1 hg hm ha hs
theorem i_rg2 (g : GE w X k) {tg a b : Expr} {ta tb : TED} {p pos : Pos} (hm : X.mg "range" = none) (ha : DE w X a ta) (hb : DE w X b tb) (hg : Gl X "range" := by rfl) (hs : starEach [a, b] X.env = [(false, eval a X.env), (false, eval b X.env)] := by rfl) (hs2 : starEach [b] X.env = [(false, eval b X.env)] := by rfl) :
    DI w X tg (.Call (.Name "range" p) [a, b] [] pos) (dRg2 ta tb) := di_rg2 hg hm ha hb hs hs2
/-! ### targets -/
theorem g_name (g : GE w X k) {i : Nat} {x : Str} {pos : Pos} (hx : Loc X.env.scope x := by first | exact .inl rfl | exact .inr rfl) (hf : X.fn x = true ∨ X.env.scope.names.lookup x = some .local := by first | exact .inl rfl | exact .inr rfl) (hi : X.N[i]? = some x := by rfl) : DG w X (.Name x pos) [i] (dgName i) := dg_name g.nd hi hx hf
theorem g_nil : DGs w X [] [] dgNil := dgs_nil
theorem g_cons {e : Expr} {es : List Expr} {t : TGD} {u : List D → Std → Sto → (Std → Sto → Prop) → XD → Prop} {o1 o2 : List Nat} (h : DG w X e o1 t) (hs : DGs w X es o2 u) (he : (assignEach (e :: es) X.env).map (·.2) = assign e X.env :: (assignEach es X.env).map (·.2) := by rfl) : DGs w X (e :: es) (o1 ++ o2) (dgCons t u) := dgs_cons h hs he
theorem g_tup (g : GE w X k) {es : List Expr} {j : Nat} {pos : Pos} {t : List D → Std → Sto → (Std → Sto → Prop) → XD → Prop} {n : Nat} {own : List Nat} (h : DGs w X es own t) (hn : (assignEach es X.env).length = n := by rfl) (hst : (assignEach es X.env).findIdx? (·.1) = none := by rfl) : DG w X (.Tuple es j pos) own (dgTup n t) := dg_tup g.K g.calm h hn hst
theorem g_sub (g : GE w X k) {o i : Expr} {pos : Pos} {to ti : TED} (ho : DE w X o to) (hi : DE w X i ti)
    (ha : ∀ v, assign (.Subscript o i pos) X.env v = (do
      let ov ← holding [v] (eval o X.env)
      let iv ← holding [v, ov] (eval i X.env)
      standAt pos
      holding [v, ov, iv] (setItem ov iv v)
      release [v, ov, iv] []) := by intro _; rfl) : DG w X (.Subscript o i pos) [] (dgSub to ti) := dg_sub g.u1 ho hi ha
/-! ### statements -/
theorem s_set (g : GE w X k) {i : Nat} {x : Str} {e : Expr} {t : TED} {pos pos' : Pos} (he : DE w X e t) (hx : Loc X.env.scope x := by first | exact .inl rfl | exact .inr rfl) (hf : X.fn x = true ∨ X.env.scope.names.lookup x = some .local := by first | exact .inl rfl | exact .inr rfl) (hs : swapsWith e (some (.Name x pos')) pos.line X.env = pure false := by rfl) (hi : X.N[i]? = some x := by rfl) :
    DS w X (.Assign [.Name x pos'] e pos) (dAsg t (dgName i)) := ds_set g.nd hi hx he hs hf
theorem s_setLc (mu : Bool) (g : GE w X k) {i : Nat} {y : Str} {py spos : Pos} {elt tg iter : Expr} {ifs : List Expr} {scope : Scope} {own : List (Str × Nat)} {pos : Pos} {t : TID} {gg : TGD} {tt te : TED} {og : List Nat}  (hi : DI w X tg iter t) (ok : BlkOk X.N X.env.scope scope own)
    (hb : ∀ (hd : Addr → Prop) (s : Shared) (H : Hp) (C : Addr) (cl : List (Str × Addr)) (fp : List Addr) (E : Value → Shared → Prop), GE (whd w hd) (blkE X s H scope (compEnvC scope cl C X.env) fp E) k → DG (whd w hd) (blkE X s H scope (compEnvC scope cl C X.env) fp E) tg og gg ∧
      DTs (whd w hd) (blkE X s H scope (compEnvC scope cl C X.env) fp E) ifs tt ∧ DE (whd w hd) (blkE X s H scope (compEnvC scope cl C X.env) fp E) elt te) (hog : ∀ i ∈ og, i ∈ own.map (·.2) := by decide)
    (hsw : swapsWith (.ListComp elt [⟨tg, iter, ifs, 0⟩] scope pos) (some (.Name y py)) spos.line X.env = pure true := by rfl) (hs : ∀ x, foldedSetIterable iter X.env x = pure x := by intro _; rfl) (hy : X.N[i]? = some y := by rfl) (hyl : X.env.scope.names.lookup y = some .local := by rfl) :
    DS w X (.Assign [.Name y py] (.ListComp elt [⟨tg, iter, ifs, 0⟩] scope pos) spos) (dAsg (dLc mu (own.map (·.2)) t gg tt te) (dgName i)) :=
  ds_setLc mu g.calm g.nd g.fo hy hyl hsw hi ok hog (fun hd s H C cl fp E => hb hd s H C cl fp E (g.blk hd s H scope cl C fp E)) hs
theorem s_asg {own : List Nat} {tg e : Expr} {t : TED} {g : TGD} {pos : Pos} (he : DE w X e t) (hg : DG w X tg own g) (hs : swapsWithSole [tg] e pos.line X.env = pure false := by rfl) (hw : swappedStores [tg] e X.env = pure none := by rfl)
    (h1 : (assignEach [tg] X.env).map (·.2) = [assign tg X.env] := by rfl) : DS w X (.Assign [tg] e pos) (dAsg t g) := ds_asg he hg hs hw h1
theorem s_par (g : GE w X k) {i j : Nat} {x y : Str} {a b : Expr} {ta : TAD} {px py pt : Pos} {kt k2 : Nat} {pt2 pos : Pos} (ha : DA w X [a, b] ta) (hx : X.env.scope.names.lookup x = some .local := by rfl) (hy : X.env.scope.names.lookup y = some .local := by rfl) (hij : i ≠ j := by decide)
    (hw : swappedStores [.Tuple [.Name x px, .Name y py] kt pt] (.Tuple [a, b] k2 pt2) X.env = pure (some [x, y]) := by rfl)
    (hs : swapsWithSole [.Tuple [.Name x px, .Name y py] kt pt] (.Tuple [a, b] k2 pt2) pos.line X.env = pure false := by rfl) (hi : X.N[i]? = some x := by rfl) (hj : X.N[j]? = some y := by rfl) :
    DS w X (.Assign [.Tuple [.Name x px, .Name y py] kt pt] (.Tuple [a, b] k2 pt2) pos) (dPar i j ta) := ds_par g.calm g.nd hi hj hij hx hy ha hw hs
theorem s_expr {e : Expr} {t : TED} {pos : Pos} (he : DE w X e t) (hs : swapsWith e none pos.line X.env = pure false := by rfl) : DS w X (.Expr e pos) (dDrop t) := ds_expr he hs
theorem s_put (g : GE w X k) {o i value : Expr} {pos pos' : Pos} {td ty tv : TED} (ho : DE w X o td) (hi : DE w X i ty) (hv : DE w X value tv) (hs : swapsWith value (some (.Subscript o i pos')) pos.line X.env = pure false := by rfl) :
    DS w X (.Assign [.Subscript o i pos'] value pos) (dPut td ty tv) := ds_dput g.u1 ho hi hv hs
theorem s_while (g : GS w X k) {c : Expr} {body : List Stmt} {tc : TED} {tb : TSD} {pos : Pos} (hc : DT w X c (tst tc)) (hb : DSs w X body tb) : DS w X (.While c body [] pos) (dWhile tc tb) := ds_while g.pass hc hb
theorem s_for (g : GS w X k) {tg iter : Expr} {body : List Stmt} {t : TID} {gg : TGD} {tb : TSD} {pos : Pos} {own : List Nat} (hi : DI w X tg iter t) (hg : DG w X tg own gg) (hb : DSs w X body tb)
    (hs : ∀ x, foldedSetIterable iter X.env x = pure x := by intro _; rfl) : DS w X (.For tg iter body [] pos) (dFor t gg tb) := ds_for g.pass g.calm hi hg hb hs
theorem s_raise (g : GS w X k) {a : Expr} {ta : TED} {x F : Str} {C fI : Addr} {c : Nat} {p pos pos2 : Pos} (T : ErrTxt X.prog X.K C fI F) (hC : w.cls c = C) (hF : w.fld c = [F]) (gC : X.mg x = some (.ref C)) (hmg : X.mg "super" = none) (ha : DE w X a ta) (hg : Gl X x := by rfl)
    (he : starEach [a] X.env = (false, eval a X.env) :: starEach [] X.env := by rfl) (hdb : (x == ("__debug__" : Str)) = false := by rfl) :
    DS w X (.Raise (some (.Call (.Name x p) [a] [] pos)) none pos2) (dRaise c ta) := ds_raise T hC hF gC hmg g.room g.calm g.fr hg ha he hdb
/-! ### closures -/
theorem x_clo (g : GE w X k) {kc j : Nat} {ps : List Str} {sp : CTD → List D → Sto → QD → XCD → Prop} {x : Str} {p pos lpos : Pos} {params : Arguments} {body : Expr} {scope : Scope} {es : List Expr} {tb : TED} {ta : TAD} {c P : Addr} (F : FnCI X.prog X.w w.toWc X.mg X.base (kc + 1) j x ps sp)
    (TB : TabB X.base X.mg c P) (hcode : X.env.code = .ref c) (hmT : (P, X.env.qual ++ "<lambda>") ∈ w.T) (huT : ∀ p ∈ w.T, p.1 = P → p.2 = X.env.qual ++ "<lambda>") (L : LamS X.env.scope scope)
    (hbody : ∀ (f c' : Addr) (A : Around) (outer : List Env) (s1 : Shared) (H : Hp) (E : XK), GE w (lamCx X A outer s1 H E scope f c') kc → DE w (lamCx X A outer s1 H E scope f c') body tb)
    (ha : DA w X es ta) (hj : j ≤ k := by decide) (hg : Gl X x := by rfl) (hdef : defaultsOf params X.env = ([], []) := by rfl)
    (hbind : ∀ cls pm c' ctv, bindArgs (PySem.W.kla_fn "<lambda>" (X.env.qual ++ "<lambda>") params body scope cls pm (.ref c') ctv) ⟨[], []⟩ = pure [] := by intro _ _ _ _; rfl)
    (hdb : (x == ("__debug__" : Str)) = false := by rfl) (he : starEach (.Lambda params body scope lpos :: es) X.env = (false, eval (.Lambda params body scope lpos) X.env) :: starEach es X.env := by rfl) (hpl : (backTo pos (starEach es X.env)).any (·.1) = false := by rfl) :
    DE w X (.Call (.Name x p) (.Lambda params body scope lpos :: es) [] pos) (dClo sp tb ta) := by
  obtain ⟨f, fd, F, h1, h2, h3⟩ := F.ex
  exact de_clo g.K g.fo F (g.room.mono hj) g.gd hg h1 (g.K ▸ h2) (g.K ▸ h3) TB hcode hmT huT hdef L hbind (fun f c' A outer s1 H E hr hg => hbody f c' A outer s1 H E (ge_lam g hr hg)) ha hdb he hpl
end
end TL
namespace TL
open PySem PySem.Spec PyProof.Rows L2 LamX
/-! ## defs by their names -/
abbrev ixG : D → D → Sto → QD → Prop := fun x y M q => ixD x y M q ∨ ∃ d, dget M x y = some (some d) ∧ q d M
structure Def0 (c : Wc) (mg : Str → Option Value) (x : Str) (st : Stmt) : Prop where
  ex : ∃ f fd, Fun c.K x x st f fd ∧ mg x = some (.ref f)
abbrev Bnd (x : Str) (st : Stmt) (ps : List Str) : Prop := ∀ (kV doc pm : Value) (an : Option Addr) (cdv ct : Value) (us : List Value), us.length = ps.length → bindArgs (PySem.W.fnOf x x (defArgs st) (defBody st) (defScope st) .none kV doc pm an cdv ct) ⟨us, []⟩ = pure (ps.zip us)
/-- the plain part: what is promised follows from the reading -/
abbrev PL (sp : SpD) (n : Nat) (t : TSD) : Prop := ∀ ds M q x, D.bdL M.length M = true → D.bdL M.length ds = true → sp ds M q x → t { nx := fun _ M' => gcQ M.length q .non M', rt := gcQ M.length q } (gcX M.length x) (startD n ds) M
theorem fnI_of {P : Program} {W : World} {c : Wc} {mg : Str → Option Value} {base : Heap} {sp : SpD} {x : Str} {st : Stmt} {N ps : List Str} {k : Nat} (t : TSD) (Dx : Def0 c mg x st) (S : FnScope N ps (defScope st)) (hb : Bnd x st ps) (len : ∀ ds M q x, sp ds M q x → ds.length = ps.length) (pl : PL sp N.length t)
    (walk : ∀ (hd : Addr → Prop) (f : Addr) (cdv : Value) (A : Around) (outer : List Env) (s : Shared) (H : Hp) (E : XK), GS ⟨c, hd⟩ (defCx P W c.K mg base N x (defScope st) f cdv A outer s H E) k → DSs ⟨c, hd⟩ (defCx P W c.K mg base N x (defScope st) f cdv A outer s H E) (defBody st) t) :
    FnI P W c mg base (k + 1) x ps sp := by
  obtain ⟨f, fd, F, m⟩ := Dx.ex
  exact ⟨f, fd, fnG_of F S len fun hd cdv A outer s H E hr hg => ⟨t, walk hd f cdv A outer s H E (gs_def S hr hg), pl⟩, m, F.kp, F.binds hb⟩
theorem x_dps {w : Wd} {X : Cx} {pos : Pos} {k v : Expr} {ks : List (Option Expr)} {vs : List Expr} {tk tv : TED} {trs : List (TED × TED)} (hk : ∀ hd, DE (whd w hd) X k tk) (hv : ∀ hd, DE (whd w hd) X v tv) (hr : DPs w X pos ks vs trs) : DPs w X pos (some k :: ks) (v :: vs) ((tk, tv) :: trs) := dps_cons hk hv hr
theorem x_dsp {w : Wd} {X : Cx} (mu : Bool) {pos : Pos} {keys : List (Option Expr)} {values : List Expr} {trs : List (TED × TED)} (h : DPs w X pos keys values trs) (hall : keys.all (·.isSome) = true := by rfl) (hl : keys.length = values.length := by rfl) (h0 : keys ≠ [] := by exact fun z => nomatch z) (h15 : keys.length ≤ 15 := by exact Nat.le_of_ble_eq_true rfl) : DE w X (.Dict keys values pos) (dDispK mu trs) := do_dispK mu h hall hl h0 h15
end TL
namespace TL
open PySem PySem.Spec PyProof.Rows L2 LamX
/-! ## tools for the plain parts -/
theorem gcQ_here {q : QD} {d : D} {M : Sto} (b1 : D.bd M.length d = true) (b2 : D.bdL M.length M = true) (h : q d M) : gcQ M.length q d M := ⟨M, [], by simp, Nat.le_refl _, b1, b2, h⟩
theorem gcX_here {x : Nat → List D → Sto → Prop} {c : Nat} {ds : List D} {σ : Std} {M : Sto} (b1 : D.bdL M.length ds = true) (b2 : D.bdL M.length M = true) (h : x c ds M) : gcX M.length x c ds σ M := ⟨M, [], by simp, Nat.le_refl _, b1, b2, h⟩
/-- a changed store of the same length -/
theorem gcQ_len {q : QD} {d : D} {M M' : Sto} (l : M'.length = M.length) (b1 : D.bd M'.length d = true) (b2 : D.bdL M'.length M' = true) (h : q d M') : gcQ M.length q d M' := ⟨M', [], by simp, by omega, b1, b2, h⟩
theorem wLc_pure {g : TGD} {te : TED} {σw : Std} {x : XD} {stab : Sto → Prop} {k : List D → Sto → Prop} {M : Sto} (f : D → D) (hs : stab M) : ∀ (ds acc : List D), acc.length + ds.length ≤ sizeLine → k (acc ++ ds.map f) M →
    (∀ d ∈ ds, ∀ q : QD, q (f d) M → g d σw M (fun σ1 M1 => te σ1 M1 q x) x) → wLc g (dC (.bl true)) te σw x stab k ds acc M
  | [], acc, hz, h, _ => ⟨hs, by simpa using h⟩
  | d :: ds, acc, hz, h, hq => by
    refine ⟨hs, ?_⟩
    have := hq d (by simp) (fun y M3 => acc.length < sizeLine ∧ wLc g (dC (.bl true)) te σw x stab k ds (acc ++ [y]) M3) ⟨by simp at hz; omega, wLc_pure f hs ds (acc ++ [f d]) (by simp at hz ⊢; omega) (by simpa using h) fun d' hd => hq d' (by simp [hd])⟩
    simpa [dC] using this
theorem wLc_filter {g : TGD} {tt te : TED} {σw : Std} {x : XD} {stab : Sto → Prop} {k : List D → Sto → Prop} {M : Sto} (p : D → Bool) (f : D → D) (hs : stab M) : ∀ (ds acc : List D), acc.length + ds.length ≤ sizeLine → k (acc ++ (ds.filter p).map f) M →
    (∀ d ∈ ds, ∀ (r : QD) (s : QD), (∀ (b : D), b = .bl (p d) → if p d = true then s (f d) M else r .non M) → g d σw M (fun σ1 M1 => tt σ1 M1 (fun b M2 => ∃ kb, b = .bl kb ∧ if kb = true then te σ1 M2 s x else r .non M2) x) x) → wLc g tt te σw x stab k ds acc M
  | [], acc, hz, h, _ => ⟨hs, by simpa using h⟩
  | d :: ds, acc, hz, h, hq => by
    refine ⟨hs, ?_⟩
    refine hq d (by simp) (fun _ M2 => wLc g tt te σw x stab k ds acc M2) (fun y M3 => acc.length < sizeLine ∧ wLc g tt te σw x stab k ds (acc ++ [y]) M3) fun b _ => ?_
    cases e : p d with
    | true =>
      rw [List.filter_cons_of_pos e] at h
      exact ⟨by simp at hz; omega, wLc_filter p f hs ds (acc ++ [f d]) (by simp at hz ⊢; omega) (by simpa using h) fun d' hd => hq d' (by simp [hd])⟩
    | false =>
      rw [List.filter_cons_of_neg (by simp [e])] at h
      simpa using wLc_filter p f hs ds acc (by simp at hz ⊢; omega) h fun d' hd => hq d' (by simp [hd])
/-- a comprehension that carries a state -/
theorem wLc_inv {g : TGD} {tt te : TED} {σw : Std} {x : XD} {stab : Sto → Prop} {k : List D → Sto → Prop} (I : List D → List D → Sto → Prop) (hend : ∀ acc M, I [] acc M → stab M ∧ k acc M)
    (step : ∀ d ds acc M (k' : List D → Sto → Prop), I (d :: ds) acc M → (∀ acc' M', I ds acc' M' → k' acc' M') → stab M ∧ g d σw M (fun σ1 M1 => tt σ1 M1 (fun b M2 => ∃ kb, b = .bl kb ∧ if kb = true then te σ1 M2 (fun y M3 => acc.length < sizeLine ∧ k' (acc ++ [y]) M3) x else k' acc M2) x) x) :
    ∀ (ds acc : List D) (M : Sto), I ds acc M → wLc g tt te σw x stab k ds acc M
  | [], acc, M, h => hend acc M h
  | d :: ds, acc, M, h => step d ds acc M (wLc g tt te σw x stab k ds) h fun acc' M' h' => wLc_inv I hend step ds acc' M' h'
theorem wFor_inv {g : TGD} {tb : TSD} {k : DEnds} {x : XD} {stab : Sto → Prop} (I : List D → Std → Sto → Prop) (hend : ∀ σ M, I [] σ M → stab M ∧ k.nx σ M)
    (step : ∀ d ds σ M (K : DEnds), I (d :: ds) σ M → K.rt = k.rt → K.bk = k.nx → (∀ σ' M', I ds σ' M' → K.nx σ' M') → (∀ σ' M', I ds σ' M' → K.ct σ' M') → stab M ∧ g d σ M (fun σ1 M1 => tb K x σ1 M1) x) :
    ∀ (ds : List D) (σ : Std) (M : Sto), I ds σ M → wFor g tb k x stab ds σ M
  | [], σ, M, h => hend σ M h
  | d :: ds, σ, M, h => step d ds σ M _ h rfl rfl (fun σ' M' h' => wFor_inv I hend step ds σ' M' h') (fun σ' M' h' => wFor_inv I hend step ds σ' M' h')
theorem dWhile_inv {tc : TED} {tb : TSD} {k : DEnds} {x : XD} (I : Nat → Std → Sto → Prop)
    (step : ∀ n σ M (K : DEnds), I n σ M → K.rt = k.rt → K.bk = k.nx → (∀ n' σ' M', n' < n → I n' σ' M' → K.nx σ' M') → (∀ n' σ' M', n' < n → I n' σ' M' → K.ct σ' M') → tc σ M (fun d M1 => ∃ b, d = .bl b ∧ if b = true then tb K x σ M1 else k.nx σ M1) x)
    {n : Nat} {σ : Std} {M : Sto} (h : I n σ M) : dWhile tc tb k x σ M := by
  refine ⟨n + 1, ?_⟩
  have go : ∀ m n σ M, n < m → I n σ M → wWhile tc tb k x m σ M := by
    intro m
    induction m with
    | zero => intro n σ M h; omega
    | succ m ih =>
      intro n σ M hn hI
      exact step n σ M _ hI rfl rfl (fun n' σ' M' h' hI' => ih n' σ' M' (by omega) hI') (fun n' σ' M' h' hI' => ih n' σ' M' (by omega) hI')
  exact go _ _ _ _ (Nat.lt_succ_self n) h
/-! ### plain values -/
mutual
def pln : D → Bool
  | .non => true
  | .bl _ => true
  | .int _ => true
  | .str _ => true
  | .tup ds => decide (ds.length ≤ sizeLine) && plnL ds
  | .lst ds => decide (ds.length ≤ sizeLine) && plnL ds
  | _ => false
def plnL : List D → Bool
  | [] => true
  | d :: ds => pln d && plnL ds
end
theorem plnL_all : ∀ {ds : List D}, plnL ds = true ↔ ∀ d ∈ ds, pln d = true
  | [] => by simp [plnL]
  | d :: ds => by simp [plnL, plnL_all]
mutual
theorem pln_bd {n : Nat} : ∀ {d : D}, pln d = true → D.bd n d = true
  | .non, _ => rfl
  | .bl _, _ => rfl
  | .int _, _ => rfl
  | .str _, _ => rfl
  | .tup ds, h => by simp [pln] at h; rw [D.bd]; exact plnL_bd h.2
  | .lst ds, h => by simp [pln] at h; rw [D.bd]; exact plnL_bd h.2
  | .dk _ _, h => by simp [pln] at h
  | .dt _ _, h => by simp [pln] at h
  | .obj _, h => by simp [pln] at h
  | .err _ _, h => by simp [pln] at h
  | .cls _, h => by simp [pln] at h
  | .raw _, h => by simp [pln] at h
theorem plnL_bd {n : Nat} : ∀ {ds : List D}, plnL ds = true → D.bdL n ds = true
  | [], _ => rfl
  | d :: ds, h => by simp [plnL] at h; rw [D.bdL, pln_bd h.1, plnL_bd h.2]; rfl
end
def isI : D → Bool
  | .int _ => true
  | _ => false
def btw (d : D) (lo hi : Int) : Bool := match d with
  | .int i => decide (lo ≤ i) && decide (i ≤ hi)
  | _ => false
def isTup (d : D) (n : Int) : Bool := match d with
  | .tup ds => decide ((ds.length : Int) = n)
  | _ => false
def tpl : D → List D
  | .tup ds => ds
  | _ => []
def iOf : D → Int
  | .int i => i
  | _ => 0
def rowD (e : List Int) : D := .tup (e.map .int)
def rowI (d : D) : List Int := (tpl d).map iOf
theorem rowI_rowD (e : List Int) : rowI (rowD e) = e := by simp [rowI, rowD, tpl, Function.comp_def, iOf]
theorem rowD_rowI {es : List D} (h : es.all isI = true) : (es.map iOf).map D.int = es := by
  rw [List.map_map]
  conv => rhs; rw [← List.map_id es]
  refine List.map_congr_left fun d hd => ?_
  have := List.all_eq_true.mp h d hd
  cases d <;> simp [isI] at this
  rfl
theorem atI_0 {α : Type} {a : α} {l : List α} : atI (a :: l) 0 = some a := atI_nat (j := 0) (by simp)
theorem atI_1 {α : Type} {a b : α} {l : List α} : atI (a :: b :: l) 1 = some b := atI_nat (j := 1) (by simp)
theorem dget_tup {M : Sto} {ds : List D} {y : D} : dget M (.tup ds) y = none := rfl
theorem dget_lst {M : Sto} {ds : List D} {y : D} : dget M (.lst ds) y = none := rfl
theorem isI_ex {d : D} (h : isI d = true) : ∃ i, d = .int i := by cases d <;> simp [isI] at h; exact ⟨_, rfl⟩
theorem isTup_ex {d : D} {n : Int} (h : isTup d n = true) : ∃ es, d = .tup es ∧ (es.length : Int) = n := by cases d <;> simp [isTup] at h; exact ⟨_, rfl, h⟩
theorem small_sz {n : Nat} (h : n ≤ 100000) : n ≤ sizeLine := by rw [sizeLine_eq]; omega
theorem rgD_mem {lo : Int} {n : Nat} {d : D} (h : d ∈ rgD lo n) : ∃ i : Nat, i < n ∧ d = .int (lo + (i : Int)) := by
  simp only [rgD, List.mem_map, List.mem_range] at h
  obtain ⟨i, hi, e⟩ := h
  exact ⟨i, hi, e.symm⟩
theorem rgD_map {β : Type} (f : D → β) (lo : Int) (n : Nat) : (rgD lo n).map f = (List.range n).map fun (i : Nat) => f (.int (lo + (i : Int))) := by simp [rgD, Function.comp_def]
end TL
namespace TL
open PySem PySem.Spec PyProof.Rows L2 LamX
/-! ## plain values as data -/
mutual
def pdv : D → PyData
  | .bl b => .bool b
  | .int i => .int i
  | .str x => .str x
  | .tup ds => .tuple (pdvL ds)
  | .lst ds => .list (pdvL ds)
  | _ => .none
def pdvL : List D → List PyData
  | [] => []
  | d :: ds => pdv d :: pdvL ds
end
theorem pdvL_map : ∀ ds, pdvL ds = ds.map pdv
  | [] => rfl
  | d :: ds => by rw [pdvL, pdvL_map ds]; rfl
mutual
theorem pd_pdv {M : Sto} : ∀ (n : Nat) (d : D), pln d = true → (pdv d).depth < n → pd M n d = some (pdv d)
  | 0, d, _, h => absurd h (Nat.not_lt_zero _)
  | n + 1, .non, _, _ => rfl
  | n + 1, .bl _, _, _ => rfl
  | n + 1, .int _, _, _ => rfl
  | n + 1, .str _, _, _ => rfl
  | n + 1, .tup ds, h, hn => by
    simp [pln] at h
    simp [pdv, PyData.depth] at hn
    rw [pd, pds_pdv n ds h.2 hn]; rfl
  | n + 1, .lst ds, h, hn => by
    simp [pln] at h
    simp [pdv, PyData.depth] at hn
    rw [pd, pds_pdv n ds h.2 hn]; rfl
  | n + 1, .dk _ _, h, _ => by simp [pln] at h
  | n + 1, .dt _ _, h, _ => by simp [pln] at h
  | n + 1, .obj _, h, _ => by simp [pln] at h
  | n + 1, .err _ _, h, _ => by simp [pln] at h
  | n + 1, .cls _, h, _ => by simp [pln] at h
  | n + 1, .raw _, h, _ => by simp [pln] at h
theorem pds_pdv {M : Sto} : ∀ (n : Nat) (ds : List D), plnL ds = true → PyData.depthAll (pdvL ds) < n → ds.mapM (pd M n) = some (pdvL ds)
  | n, [], _, _ => rfl
  | n, d :: ds, h, hn => by
    simp [plnL] at h
    simp [pdvL, PyData.depthAll] at hn
    rw [List.mapM_cons, pd_pdv n d h.1 (by omega), pds_pdv n ds h.2 (by omega)]
    rfl
end
mutual
theorem eqv_refl : ∀ p : PyData, p.hasDict = false → PyData.eqv p p = true
  | .none, _ => by simp [PyData.eqv]
  | .bool _, _ => by simp [PyData.eqv]
  | .int _, _ => by simp [PyData.eqv]
  | .str _, _ => by simp [PyData.eqv]
  | .list xs, h => by simp [PyData.hasDict] at h; simp only [PyData.eqv]; exact eqvL_refl xs h
  | .tuple xs, h => by simp [PyData.hasDict] at h; simp only [PyData.eqv]; exact eqvL_refl xs h
  | .dict _, h => by simp [PyData.hasDict] at h
theorem eqvL_refl : ∀ ps : List PyData, PyData.hasDictAll ps = false → PyData.eqvAll ps ps = true
  | [], _ => by simp [PyData.eqvAll]
  | p :: ps, h => by simp [PyData.hasDictAll] at h; simp [PyData.eqvAll, eqv_refl p h.1, eqvL_refl ps h.2]
end
mutual
theorem pdv_noDict : ∀ d : D, (pdv d).hasDict = false
  | .non => by simp [pdv, PyData.hasDict]
  | .bl _ => by simp [pdv, PyData.hasDict]
  | .int _ => by simp [pdv, PyData.hasDict]
  | .str _ => by simp [pdv, PyData.hasDict]
  | .tup ds => by simp [pdv, PyData.hasDict]; exact pdvL_noDict ds
  | .lst ds => by simp [pdv, PyData.hasDict]; exact pdvL_noDict ds
  | .dk _ _ => by simp [pdv, PyData.hasDict]
  | .dt _ _ => by simp [pdv, PyData.hasDict]
  | .obj _ => by simp [pdv, PyData.hasDict]
  | .err _ _ => by simp [pdv, PyData.hasDict]
  | .cls _ => by simp [pdv, PyData.hasDict]
  | .raw _ => by simp [pdv, PyData.hasDict]
  | .scr _ => by simp [pdv, PyData.hasDict]
theorem pdvL_noDict : ∀ ds : List D, PyData.hasDictAll (pdvL ds) = false
  | [] => rfl
  | d :: ds => by simp [pdvL, PyData.hasDictAll, pdv_noDict d, pdvL_noDict ds]
end
/-- what == wants of plain values -/
def eqOk (d : D) : Prop := pln d = true ∧ SeqAt.shaped (pdv d) = true
theorem eqD_pln {M : Sto} {x y : D} {q : QD} (hx : eqOk x) (hy : eqOk y) (h : q (.bl (PyData.eqv (pdv x) (pdv y))) M) : eqD x y M q := by
  have dx := PySem.SeqAt.depth_of_shaped hx.2
  have dy := PySem.SeqAt.depth_of_shaped hy.2
  have g : ∃ n p p', pd M n x = some p ∧ pd M n y = some p' ∧ SeqAt.shaped p = true ∧ SeqAt.shaped p' = true ∧ q (.bl (PyData.eqv p p')) M :=
    ⟨65, _, _, pd_pdv 65 x hx.1 (by omega), pd_pdv 65 y hy.1 (by omega), hx.2, hy.2, h⟩
  unfold eqD
  split
  · simpa [pdv, PyData.eqv] using h
  · simpa [pdv, PyData.eqv] using h
  · simpa [pdv, PyData.eqv] using h
  · exact g
theorem neD_pln {M : Sto} {x y : D} {q : QD} (hx : eqOk x) (hy : eqOk y) (h : q (.bl (!PyData.eqv (pdv x) (pdv y))) M) : neD x y M q := eqD_pln hx hy ⟨_, rfl, h⟩
theorem eqOk_row {e : List Int} (h : e.length ≤ sizeLine) : eqOk (rowD e) := by
  refine ⟨?_, ?_⟩
  · simp only [rowD, pln, List.length_map, Bool.and_eq_true, decide_eq_true_eq]
    exact ⟨h, plnL_all.mpr fun d hd => by simp at hd; obtain ⟨i, _, rfl⟩ := hd; rfl⟩
  · have a : ∀ e : List Int, PyData.canLayAll0 (pdvL (e.map D.int)) = true ∧ PyData.depthAll (pdvL (e.map D.int)) = 0 := by
      intro e
      induction e with
      | nil => exact ⟨rfl, rfl⟩
      | cons i e ih => simp [pdvL, pdv, PyData.canLayAll0, PyData.canLay0, PyData.depthAll, PyData.depth, ih.1, ih.2]
    unfold SeqAt.shaped
    simp [rowD, pdv, PyData.canLay0, PyData.depth, a]
theorem pln_row {e : List Int} (h : e.length ≤ sizeLine) : pln (rowD e) = true := (eqOk_row h).1
end TL
namespace TL
open PySem PySem.Spec PyProof.Rows L2 LamX
/-! ## rows of whole numbers in order -/
def keyL (e : List Int) : List Key := e.map .inl
theorem keyL_inj {a b : List Int} (h : keyL a = keyL b) : a = b := (List.map_inj_right (fun _ _ => Sum.inl.inj)).mp h
theorem tkeyD_keyL (e : List Int) : tkeyD (keyL e) = rowD e := by simp [tkeyD, keyL, rowD, keyD, Function.comp_def]
def toksL : List Int → List (Int ⊕ List Nat)
  | [] => [.inl 0]
  | i :: e => .inl 1 :: .inl i :: toksL e
theorem toks_keyL (e : List Int) : PySem.W.keyToks (tkeyP (keyL e)) = toksL e := by
  unfold tkeyP keyL
  rw [PySem.W.keyToks]
  induction e with
  | nil => simp [PySem.W.keyToksAll, toksL]
  | cons i e ih => simp [PySem.W.keyToksAll, PySem.W.keyToks, kP, toksL] at ih ⊢; exact ih
theorem lt_toks : ∀ a b : List Int, PyProof.Rows.lexLt PyProof.Rows.itemOrd (toksL a) (toksL b) = HT.lexLt a b
  | [], [] => by simp [toksL, PyProof.Rows.lex_irrefl, HT.lexLt]
  | [], y :: b => by
    rw [toksL, toksL, PyProof.Rows.lex_diff (by simp)]
    simp [PyProof.Rows.itemOrd, PyProof.Rows.itemLt, HT.lexLt]
  | x :: a, [] => by
    rw [toksL, toksL, PyProof.Rows.lex_diff (by simp)]
    simp [PyProof.Rows.itemOrd, PyProof.Rows.itemLt, HT.lexLt]
  | x :: a, y :: b => by
    rw [toksL, toksL, PyProof.Rows.lex_self]
    by_cases h : x = y
    · subst h
      rw [PyProof.Rows.lex_self, lt_toks a b, HT.lexLt_cons, if_pos rfl]
    · rw [PyProof.Rows.lex_diff (by simpa using h), HT.lexLt_cons, if_neg h]
      simp [PyProof.Rows.itemOrd, PyProof.Rows.itemLt]
def leR (a b : List Int) : Bool := !HT.lexLt b a
def sortR (l : List (List Int)) : List (List Int) := l.mergeSort leR
theorem dataLe_rows (a b : List Int) : PySem.W.dataLe false tkeyP (keyL a) (keyL b) = leR a b := by
  unfold PySem.W.dataLe PySem.W.sortLe leR
  simp only [cond_false, toks_keyL, lt_toks]
theorem sortedBy_rows (rows : List (List Int)) : (sortedBy tkeyP (rows.map keyL)).map tkeyD = (sortR rows).map rowD := by
  unfold sortedBy sortR
  rw [← PySem.W.sort_maps (s := PySem.W.dataLe false tkeyP) (r := leR) keyL (fun a _ b _ => (dataLe_rows a b).symm), List.map_map]
  exact List.map_congr_left fun e _ => tkeyD_keyL e
theorem lt_irr (a : List Int) : HT.lexLt a a = false := by rw [← lt_toks]; exact PyProof.Rows.lex_irrefl _
theorem lt_tr {a b c : List Int} (h : HT.lexLt a b = true) (h2 : HT.lexLt b c = true) : HT.lexLt a c = true := by rw [← lt_toks] at *; exact PyProof.Rows.lex_trans _ _ _ h h2
theorem toksL_inj : ∀ {a b : List Int}, toksL a = toksL b → a = b
  | [], [], _ => rfl
  | [], _ :: _, h => by simp [toksL] at h
  | _ :: _, [], h => by simp [toksL] at h
  | x :: a, y :: b, h => by simp [toksL] at h; rw [h.1, toksL_inj h.2]
theorem lt_tot {a b : List Int} (h : HT.lexLt a b = false) (h2 : HT.lexLt b a = false) : a = b := by rw [← lt_toks] at *; exact toksL_inj (PyProof.Rows.lex_total _ _ h h2)
theorem leR_tr {a b c : List Int} (h : leR a b = true) (h2 : leR b c = true) : leR a c = true := by
  simp [leR] at *
  cases e : HT.lexLt c a with
  | false => rfl
  | true =>
    rw [← lt_toks] at e h h2
    rcases PyProof.Rows.lex_negTrans _ (toksL b) _ e with z | z
    · rw [h2] at z; cases z
    · rw [h] at z; cases z
theorem leR_tot (a b : List Int) : (leR a b || leR b a) = true := by
  simp [leR]
  cases e : HT.lexLt b a with
  | false => exact .inl rfl
  | true =>
    right
    cases e2 : HT.lexLt a b with
    | false => rfl
    | true =>
      have := lt_tr e e2
      rw [lt_irr] at this
      cases this
def Asc (l : List (List Int)) : Prop := l.Pairwise fun a b => HT.lexLt a b = true
theorem sortR_perm (l : List (List Int)) : (sortR l).Perm l := List.mergeSort_perm l leR
theorem sortR_asc {l : List (List Int)} (h : l.Nodup) : Asc (sortR l) := by
  have a : (sortR l).Pairwise fun a b => leR a b = true := List.pairwise_mergeSort (le := leR) (fun _ _ _ h1 h2 => leR_tr h1 h2) leR_tot l
  have n : (sortR l).Nodup := (sortR_perm l).nodup_iff.mpr h
  refine (a.and n).imp fun {x y} ⟨h1, h2⟩ => ?_
  simp [leR] at h1
  cases e : HT.lexLt x y with
  | true => rfl
  | false => exact absurd (lt_tot e h1) h2
theorem sortR_of {l m : List (List Int)} (h : Asc l) (p : l.Perm m) : sortR m = l := by
  refine (PySem.W.Srt.the_of_perm leR (fun _ _ _ h1 h2 => leR_tr h1 h2) leR_tot (fun x y h1 h2 => ?_) p (h.imp fun {a b} hab => ?_)).symm
  · simp [leR] at h1 h2
    exact lt_tot h2 h1
  · simp [leR]
    cases e : HT.lexLt b a with
    | false => rfl
    | true =>
      have := lt_tr hab e
      rw [lt_irr] at this
      cases this
theorem Asc.nodup {l : List (List Int)} (h : Asc l) : l.Nodup := h.imp fun {a b} hab e => by subst e; rw [lt_irr] at hab; cases hab
theorem sortOk_rows {rows : List (List Int)} (hz : rows.length ≤ sizeLine) (hn : ∀ e ∈ rows, e ≠ []) : SortOk ((rows.map keyL).map tkeyP) := by
  have al : ∀ a b : List Int, PySem.W.alikeAll ((keyL a).map kP) ((keyL b).map kP) = true := by
    intro a
    induction a with
    | nil => intro b; simp [keyL, PySem.W.alikeAll]
    | cons x a ih =>
      intro b
      cases b with
      | nil => simp [keyL, PySem.W.alikeAll]
      | cons y b =>
        have := ih b
        simp [keyL, PySem.W.alikeAll, kP, PySem.W.alike] at this ⊢
        exact this
  have dp : ∀ a : List Int, PyData.depthAll ((keyL a).map kP) = 0 := by
    intro a
    induction a with
    | nil => simp [keyL, PyData.depthAll]
    | cons x a ih => simp [keyL, PyData.depthAll, kP, PyData.depth] at ih ⊢; exact ih
  refine ⟨?_, .inl ?_, by simpa using hz, ?_⟩
  · intro d hd d' hd'
    simp only [List.map_map, List.mem_map, Function.comp_apply] at hd hd'
    obtain ⟨a, _, rfl⟩ := hd
    obtain ⟨b, _, rfl⟩ := hd'
    simp [tkeyP, PySem.W.alike, al]
  · intro d hd
    simp only [List.map_map, List.mem_map, Function.comp_apply] at hd
    obtain ⟨a, ha, rfl⟩ := hd
    cases a with
    | nil => exact absurd rfl (hn _ ha)
    | cons x a => exact ⟨kP (.inl x), (keyL a).map kP, rfl⟩
  · intro d hd
    simp only [List.map_map, List.mem_map, Function.comp_apply] at hd
    obtain ⟨a, ha, rfl⟩ := hd
    simp [tkeyP, PyData.depth, dp]
end TL
namespace TL
open PySem PySem.Spec PyProof.Rows L2 LamX
/-! ## a def whose code object is known (it makes lambdas) -/
structure FunC (K : PySem.W.Frag) (x qual : Str) (st : Stmt) (f : Addr) (fd : FuncData) (cd : Addr) : Prop where
  ex : ∃ (oc : Value) (od : Option Addr) (kV doc pm : Value) (an : Option Addr) (ct : Value) (osl : Array (Option Value)),
    fd = PySem.W.fnOf x qual (defArgs st) (defBody st) (defScope st) .none kV doc pm an (.ref cd) ct ∧ K.lookup f = some ⟨oc, od, .func fd, osl⟩ ∧ PySem.W.codeIn K (.ref cd) qual = true
  kp : PySem.W.keepIn K (.ref f) = true
theorem FunC.fn {K : PySem.W.Frag} {x qual : Str} {st : Stmt} {f : Addr} {fd : FuncData} {cd : Addr} (F : FunC K x qual st f fd cd) : Fun K x qual st f fd := by
  obtain ⟨oc, od, kV, doc, pm, an, ct, osl, h⟩ := F.ex
  exact ⟨⟨oc, od, kV, doc, pm, an, _, ct, osl, h⟩, F.kp⟩
section
variable {P : Program} {W : World} {c : Wc} {mg : Str → Option Value} {base : Heap}
theorem fnG_ofC {sp : SpD} {x qual : Str} {st : Stmt} {f : Addr} {fd : FuncData} {cd : Addr} {N ps : List Str} {k : Nat} (t : TSD) (F : FunC c.K x qual st f fd cd) (S : FnScope N ps (defScope st)) (len : ∀ ds M q x, sp ds M q x → ds.length = ps.length) (pl : PL sp N.length t)
    (hbody : ∀ (hd : Addr → Prop) (A : Around) (outer : List Env) (s : Shared) (H : Hp) (E : XK), GS ⟨c, hd⟩ (defCx P W c.K mg base N qual (defScope st) f (.ref cd) A outer s H E) k → DSs ⟨c, hd⟩ (defCx P W c.K mg base N qual (defScope st) f (.ref cd) A outer s H E) (defBody st) t) :
    FnG P W c mg base (k + 1) f fd ps sp := by
  obtain ⟨oc, od, kV, doc, pm, an, ct, osl, rfl, lk, hcd⟩ := F.ex
  refine ⟨len, fun A outer s H args us vs Q Ex hr hg e0 hb r ⟨hd, ρ, M, ds, q, x, m, rs, hsp, kq, kx⟩ => ?_⟩
  refine LamX.run_ofS (N := N) (ps := ps) (us := us) (vs := vs) lk hcd S hr e0 hb r (by rw [← rs.length]; exact len _ _ _ _ hsp) fun hr' => ?_
  have ht := hbody hd A outer s H Ex (gs_def S hr' (guards_deeper hg _))
  refine ⟨_, ht.run (fun cl dd _ H' => Ex cl dd H') (Tk.of rfl (takes_of rfl rfl rfl rfl)), startD N.length ds, ρ, M, _, _, ⟨m, repS_start rs⟩, pl ds M q x m.bd ?_ hsp, ⟨?_, kq.gc m, fun _ _ _ _ _ _ _ h => h.elim, fun _ _ _ _ _ _ _ h => h.elim⟩, kx.gc m⟩
  · rw [← m.len]; exact rs.bd
  · intro H' ρ' M' σ' σv' e a' h
    exact kq.gc m _ _ _ _ _ e a'.m .non h
/-! ## defs that get closures, by their names -/
theorem fnCI_caught {st : Stmt} {x tn : Str} {k kc j : Nat} {cv : Value} {cok : Nat → Bool} {p1 p2 p3 p4 p5 p6 p7 p8 p9 p10 p11 p12 p13 p14 : Pos} (Dx : Def0 c mg x st) (S : FnScope ["work", "caught", "error"] ["work"] (defScope st)) (hm : mg tn = some cv)
    (hown : ∀ cls b, PySem.W.exmOne c.K cls cv = some b → b = true → ∃ C, cls = .ref C) (hcok : ∀ i, PySem.W.exmOne c.K (.ref (c.cls i)) cv = some (cok i)) (hbd : Bnd x st ["work"])
    (hb : defBody st = [.Assign [.Name "caught" p1] (.Constant .none j p2) p3, .Try [.Expr (.Call (.Name "work" p4) [] [] p5) p6] [.ExceptHandler (some (.Name tn p7)) (some "error") [.Assign [.Name "caught" p8] (.Name "error" p9) p10] p11] [] [] p12, .Return (some (.Name "caught" p13)) p14])
    (l0 : (defScope st).names.lookup ("work" : Str) = some .local) (l1 : (defScope st).names.lookup ("caught" : Str) = some .local) (l2 : (defScope st).names.lookup ("error" : Str) = some .local) (lt : (defScope st).names.lookup tn = some .globalImplicit)
    (sw1 : ∀ env, swapsWith (.Constant .none j p2) (some (.Name "caught" p1)) p3.line env = pure false) (sw2 : ∀ env, swapsWith (.Name "error" p9) (some (.Name "caught" p8)) p10.line env = pure false) (sw3 : ∀ env, swapsWith (.Call (.Name "work" p4) [] [] p5) none p6.line env = pure false)
    (hk : kc ≤ k := by decide) (htd : (tn == ("__debug__" : Str)) = false := by rfl) : FnCI P W c mg base kc (k + 1) x ["work"] (spCaught cok) := by
  obtain ⟨f, fd, F, m⟩ := Dx.ex
  exact ⟨f, fd, fnCD_caught (fnC_caught F S hk hb l0 l1 l2 lt htd hm hown sw1 sw2 sw3) hcok, m, F.kp, F.binds hbd⟩
abbrev PLC (cok : Nat → Bool) (sp : CTD → List D → Sto → QD → XCD → Prop) (n j : Nat) (t : TSD) : Prop := ∀ (tc : CTD) (fc : Addr) ds M q x, D.bdL M.length M = true → D.bdL M.length ds = true → sp tc ds M q x → ∃ q0 x0, tc q0 x0 ∧
        (∀ d M', q0 d M' → t { nx := fun _ M' => gcQ M.length q .non M', rt := gcQ M.length q } (gcX M.length x) ((startD n (.raw (.ref fc) :: ds)).set j (some .non)) M') ∧
        ∀ i es M', x0 i es M' → if cok i = true then t { nx := fun _ M' => gcQ M.length q .non M', rt := gcQ M.length q } (gcX M.length x) ((startD n (.raw (.ref fc) :: ds)).set j (some (.err i es))) M' else gcX M.length x i es [] M'
theorem fnCI_first {x gx wk y : Str} {st : Stmt} {N ps : List Str} {kc k j : Nat} {rest : List Stmt} {p1 p2 p3 p4 p5 : Pos} {cok : Nat → Bool} {sp : CTD → List D → Sto → QD → XCD → Prop} (t : TSD) (Dx : Def0 c mg x st) (S : FnScope N ps (defScope st)) (hbd : Bnd x st ps)
    (len : ∀ t ds M q x, sp t ds M q x → ds.length + 1 = ps.length) (G : FnCI P W c mg base kc k gx [wk] (spCaught cok)) (pl : PLC cok sp N.length j t)
    (hb : defBody st = .Assign [.Name y p1] (.Call (.Name gx p2) [.Name wk p3] [] p4) p5 :: rest) (n0 : N[0]? = some wk) (nj : N[j]? = some y) (l0 : Vis (defScope st) wk) (lj : (defScope st).names.lookup y = some .local) (lg : (defScope st).names.lookup gx = some .globalImplicit)
    (sw : ∀ env, swapsWith (.Call (.Name gx p2) [.Name wk p3] [] p4) (some (.Name y p1)) p5.line env = pure false)
    (walk : ∀ (hd : Addr → Prop) (f : Addr) (cdv : Value) (A : Around) (outer : List Env) (s : Shared) (H : Hp) (E : XK), GS ⟨c, hd⟩ (defCx P W c.K mg base N x (defScope st) f cdv A outer s H E) k → DSs ⟨c, hd⟩ (defCx P W c.K mg base N x (defScope st) f cdv A outer s H E) rest t)
    (d0 : (wk == ("__debug__" : Str)) = false := by rfl) (d1 : (wk == ("__classdict__" : Str)) = false := by rfl) (d2 : (gx == ("__debug__" : Str)) = false := by rfl) : FnCI P W c mg base kc (k + 1) x ps sp := by
  obtain ⟨f, fd, F, m⟩ := Dx.ex
  obtain ⟨g, gd, G, mG, kG, bG⟩ := G.ex
  exact ⟨f, fd, fnCD_first F S len G kG bG hb n0 nj l0 lj lg mG d0 d1 d2 sw fun hd cdv A outer s H E hr hg => ⟨t, walk hd f cdv A outer s H E (gs_def S hr hg), pl⟩, m, F.kp, F.binds hbd⟩
end
end TL
namespace TL
open PySem PySem.Spec PyProof.Rows L2 LamX
/-! ## the end of a law: its promise at the heap behind the top -/
/-- what is tracked at the start: the tables, and the script if it is no object of the module -/
def hp0 (Ts : List Addr) (own : Bool) (a : Addr) (o : Obj) (xs : List V) : Hp := fun b => if b ∈ Ts then some (.tbl #[]) else if own = true ∧ b = a then some (.frz o (.lst xs)) else none
section
variable {Ts : List Addr} {own : Bool} {a : Addr} {o : Obj} {xs : List V} {b : Addr} {u : HO}
theorem hp0_tab (h : b ∈ Ts) : hp0 Ts own a o xs b = some (.tbl #[]) := if_pos h
theorem hp0_some (h : hp0 Ts own a o xs b = some u) : (b ∈ Ts ∧ u = .tbl #[]) ∨ (b ∉ Ts ∧ own = true ∧ b = a ∧ u = .frz o (.lst xs)) := by
  unfold hp0 at h
  by_cases h1 : b ∈ Ts
  · rw [if_pos h1] at h; cases h; exact .inl ⟨h1, rfl⟩
  · rw [if_neg h1] at h
    by_cases h2 : own = true ∧ b = a
    · rw [if_pos h2] at h; cases h; exact .inr ⟨h1, h2.1, h2.2, rfl⟩
    · rw [if_neg h2] at h; cases h
end
theorem law_endG {P : Program} {W : World} {c : Wc} {mg mb : Str → Option Value} {k : Nat} {fa a : Addr} {cs : List (Addr × Addr)} {lq : Str} {fd : FuncData} {x : Str} {sp : SpD} {s₁ : Shared} {vs : List Value} {ns : List Int}
    (KX : c.K.In s₁.heap) (hns : s₁.heap.Ns mainGlobals mg) (hb : s₁.heap.Ns builtinsNs mb) (hbb : ∀ x : Str, x ≠ "__name__" → mb x = bootBuiltins x) (hlim : s₁.heap.NoLimit) (hg : s₁.gens = #[])
    (hT : ∀ p ∈ cs, s₁.heap.get? p.2 = some { cls := .none, data := .fields #[] }) (nT : ∀ p ∈ cs, c.K.lookup p.2 = none) (C : ∀ p ∈ cs, PySem.W.CodeHd s₁.heap p.1 p.2) (hcT : c.T = cs.map fun p => (p.2, lq))
    (hbm : ∃ (bm : Addr) (ob : Obj), mg "__builtins__" = some (.ref bm) ∧ bm ≠ builtinsNs ∧ s₁.heap.get? bm = some ob ∧ ob.cls = .type "module" ∧ ob.dict = some builtinsNs ∧ ob.data = .plain)
    (ha : s₁.heap.get? a = some { cls := .type "list", data := .seq vs.toArray }) (hi : IntsAre vs ns) (hl : ns.length ≤ sizeLine) (hr : Room k callerA)
    (F : ∀ base : Heap, c.K.In base → base.Ns mainGlobals mg → (∀ p ∈ cs, TabB base mg p.1 p.2) → FnG P W c mg base k fa fd [x] sp) (hbind : ∀ (s : Shared) (u : Value), BindsTo s fd ⟨[u], []⟩ [(x, u)])
    (hsp : sp [.scr ns] [] (fun d _ => d = .bl true) fun _ _ _ => False) :
    codeAny (model P W) callerA (.call (.ref fa) ⟨[.ref a], []⟩) (fun r s' => r = .ok (.ret (.bool true)) ∧ OldK s₁.heap s'.heap ∧ s'.os = s₁.os ∧ AllBare s'.gens) s₁ := by
  obtain ⟨Ts, eT⟩ : ∃ Ts, Ts = cs.map (·.2) := ⟨_, rfl⟩
  obtain ⟨own, eo⟩ : ∃ b, b = (c.K.lookup a).isNone := ⟨_, rfl⟩
  obtain ⟨H, eH⟩ : ∃ H, H = hp0 Ts own a { cls := .type "list", data := .seq vs.toArray } (ns.map V.int) := ⟨_, rfl⟩
  have tab : ∀ {b : Addr}, b ∈ Ts → s₁.heap.get? b = some { cls := .none, data := .fields #[] } := fun {b} h => by
    rw [eT] at h
    obtain ⟨p, hp, rfl⟩ := List.mem_map.mp h
    exact hT p hp
  have inT : ∀ {p : Addr × Addr}, p ∈ cs → p.2 ∈ Ts := fun {p} h => by rw [eT]; exact List.mem_map_of_mem h
  -- what is tracked
  have who : ∀ {b : Addr} {u : HO}, H b = some u → (b ∈ Ts ∧ u = .tbl #[]) ∨ (b ∉ Ts ∧ own = true ∧ b = a ∧ u = .frz { cls := .type "list", data := .seq vs.toArray } (.lst (ns.map V.int))) := fun {b u} h => by rw [eH] at h; exact hp0_some h
  have free : ∀ {b : Addr} {o : Obj}, s₁.heap.get? b = some o → (∀ v n, o.data ≠ .seq v n) → o.data ≠ .fields #[] → H b = none := fun {b o} e h1 h2 => by
    cases q : H b with
    | none => rfl
    | some u =>
      rcases who q with ⟨h, _⟩ | ⟨_, _, rfl, _⟩
      · rw [tab h] at e; cases e; exact absurd rfl h2
      · rw [ha] at e; cases e; exact absurd rfl (h1 _ _)
  have old : ∀ {b : Addr} {o : Obj}, s₁.heap.get? b = some o → H b = none → (hidT s₁.heap H).get? b = some o := fun e n => hidT_get e n
  have nsB : ∀ {b : Addr} {m : Str → Option Value}, s₁.heap.Ns b m → (hidT s₁.heap H).Ns b m := fun {b m} ⟨o, es, ep, e, d, r⟩ =>
    ⟨o, es, ep, old e (free e (fun v n z => by rw [d] at z; cases z) fun z => by rw [d] at z; cases z), d, r⟩
  have kB : c.K.In (hidT s₁.heap H) := fun b o e => by
    refine old (KX b o e) ?_
    cases q : H b with
    | none => rfl
    | some u =>
      rcases who q with ⟨h, _⟩ | ⟨_, h, rfl, _⟩
      · rw [eT] at h
        obtain ⟨p, hp, rfl⟩ := List.mem_map.mp h
        rw [nT p hp] at e; cases e
      · rw [eo, e] at h; cases h
  have hM : L2.Mod c.K mg (hidT s₁.heap H) := ⟨kB, nsB hns, ⟨mb, nsB hb, hbb⟩, let ⟨mc, h1, h2⟩ := hlim; ⟨mc, nsB h1, h2⟩⟩
  have noG : ∀ {b : Addr} {ob : Obj}, s₁.heap.get? b = some ob → (∀ es ep, ob.data ≠ .dict es ep) → b ≠ mainGlobals := fun {b ob} e h z => by
    obtain ⟨o, es, ep, e2, d, _⟩ := hns
    rw [z, e2] at e; cases e
    exact h _ _ d
  have TB : ∀ p ∈ cs, TabB (hidT s₁.heap H) mg p.1 p.2 := fun p hp => by
    obtain ⟨o, us, file, tf, flags, tg, inF, text, tt, e1, r1, r2, r3, more⟩ := C p hp
    obtain ⟨bm, ob, b1, b2, b3, b4, b5, b6⟩ := hbm
    have fo : H p.1 = none := free e1 (fun v n z => by rw [r2] at z; cases z) fun z => by rw [r2] at z; cases z; simp at r3
    have fb : H bm = none := free b3 (fun v n z => by rw [b6] at z; cases z) fun z => by rw [b6] at z; cases z
    refine ⟨⟨o, us, file, tf, flags, tg, inF, text, tt, old e1 fo, r1, r2, r3, more⟩, ⟨bm, ob, b1, b2, noG b3 (fun es ep z => by rw [b6] at z; cases z), fun z => ?_, old b3 fb, b4, b5, b6⟩, (noG (hT p hp) fun es ep z => by cases z).symm⟩
    rw [z, hT p hp] at b3; cases b3; cases b6
  have hok : HOk P W H s₁.heap := fun b u q => by
    rcases who q with ⟨h, rfl⟩ | ⟨_, _, rfl, rfl⟩
    · exact tab h
    · exact ⟨ha, by rw [List.length_map]; exact hl, vs, _, vals_ints hi, ha⟩
  have e0 : Env0 P W c.K mg (hidT s₁.heap H) callerA [] s₁ H := ⟨rfl, hM, fun b o e => of_hidT e, Nat.le_of_eq (hidT_size _ _), trivial, fun b hb => absurd hb (List.not_mem_nil), hok, .of_eq hg⟩
  -- the state
  have rm : RepM ⟨c, fun _ => False⟩ H [] [] := by
    refine ⟨rfl, .nil, fun b h => absurd h List.not_mem_nil, fun b h => h.elim, fun b h => h.elim, fun q hq => ?_, fun i b d h => by simp at h⟩
    rw [hcT] at hq
    obtain ⟨p, hp, rfl⟩ := List.mem_map.mp hq
    refine ⟨#[], by rw [eH]; exact hp0_tab (inT hp), ?_, ?_⟩
    · first | exact .nil | trivial | exact TriplesOk.nil | (unfold TriplesOk; simp) | simp [TriplesOk]
    · intro pos cv h; first | cases h | (simp [codeAmong] at h)
  have sc : ScrAt c H (Lv ⟨c, fun _ => False⟩ [] []) a (ns.map V.int) := by
    cases q : c.K.lookup a with
    | some o =>
      have e := KX a o q
      rw [ha] at e; cases e
      exact .inr ⟨_, vs.toArray, _, q, rfl, rfl, rfl, by rw [List.size_toArray, hi.length]; exact hl, by simpa using vals_ints hi⟩
    | none =>
      refine .inl ⟨⟨{ cls := .type "list", data := .seq vs.toArray }, ?_⟩, fun z => z.elim id fun ⟨i, d, h, _⟩ => by simp at h⟩
      have nt : a ∉ Ts := fun z => by have := tab z; rw [ha] at this; cases this
      rw [eH]
      unfold hp0
      rw [if_neg nt, if_pos ⟨by rw [eo, q]; rfl, rfl⟩]
  refine codeAny_mono ((F _ kB (nsB hns) TB).run callerA [] s₁ H ⟨[.ref a], []⟩ [.ref a] [.ref a] (fun v _ => v = .bl true) (fun _ _ _ => False) hr rfl e0 (hbind s₁ (.ref a)) (.cons rfl .nil)
    ⟨fun _ => False, [], [], [.scr ns], _, _, rm, .cons (.scr sc) .nil, hsp, fun H' ρ' M' d v e m r hd => by subst hd; exact rp_bl r, fun H' ρ' M' i ds cl dd e m r hd => hd⟩) fun r s' h => ?_
  cases r with
  | error e =>
    obtain ⟨_, _, _, _, _, _, _, _, _, _, _, _, z⟩ := h
    exact z.elim
  | ok fl =>
    cases fl with
    | next => exact False.elim h
    | brk => exact False.elim h
    | cont => exact False.elim h
    | ret u =>
      obtain ⟨v, H', os, bare, un, hok', r', rfl⟩ := h
      obtain rfl : u = Value.bool true := r'
      have same : ∀ b o, b ∉ Ts → s₁.heap.get? b = some o → s'.heap.get? b = some o := fun b o nb e => by
        cases q : H b with
        | none => exact un.keep b o e q List.not_mem_nil List.not_mem_nil
        | some w =>
          rcases who q with ⟨h, _⟩ | ⟨_, _, rfl, rfl⟩
          · exact absurd h nb
          · obtain ⟨e2, _⟩ := hok' b _ (un.frzs b _ _ q)
            rw [ha] at e; cases e
            exact e2
      have more : ∀ {b}, b ∈ Ts → ∃ m : Array Value, s'.heap.get? b = some { cls := .none, data := .fields m } := fun {b} h => by
        obtain ⟨m, z⟩ := un.tbls b #[] (by rw [eH]; exact hp0_tab h)
        exact ⟨_, hok' b _ z⟩
      refine ⟨rfl, ⟨fun b o e => ?_, fun b o e => ?_⟩, os, bare⟩
      · by_cases h : b ∈ Ts
        · have hh := h
          rw [eT] at hh
          obtain ⟨p, hp, rfl⟩ := List.mem_map.mp hh
          obtain ⟨m, hm⟩ := more h
          rw [tab h] at e; cases e
          exact .inr (.inl ⟨((C p hp).tab (hT p hp)).isCodeTable, rfl, #[], m, rfl, by rw [Array.empty_append]; exact hm⟩)
        · exact .inl (same b o h e)
      · by_cases h : b ∈ Ts
        · obtain ⟨m, hm⟩ := more h
          exact ⟨_, hm⟩
        · exact ⟨o, same b o h e⟩
/-- what is to be known of the law's def at the head's heap -/
structure LawG (l : PySem.W.OpenLaw) (w : World) (K : PySem.W.Frag) (k : Nat) (x : Str) (mg : Str → Option Value) (fa : Addr) (h : Heap) (sp : SpD) : Prop where
  ex : ∃ (c : Wc) (fd : FuncData) (cs : List (Addr × Addr)) (lq : Str), c.K = K ∧ (∀ p ∈ cs, h.get? p.2 = some { cls := .none, data := .fields #[] }) ∧ (∀ p ∈ cs, K.lookup p.2 = none) ∧ (∀ p ∈ cs, PySem.W.CodeHd h p.1 p.2) ∧ (c.T = cs.map fun p => (p.2, lq)) ∧
    (∀ (s : Shared) (u : Value), BindsTo s fd ⟨[u], []⟩ [(x, u)]) ∧ ∀ base : Heap, K.In base → base.Ns mainGlobals mg → (∀ p ∈ cs, TabB base mg p.1 p.2) → FnG l.prog w c mg base k fa fd [x] sp
theorem walk_ofG {l : PySem.W.OpenLaw} {n k : Nat} {q : Program} {loose : List Str} {XP : (Str → Option Value) → Heap → Prop} {YP : World → Heap → Prop} {d : DefRec} {K : Params → PySem.W.Frag} {x : Str} (sp : SpD)
    (hn : l.most = some n) (hn2 : n ≤ sizeLine) (hdf : d.params.defaults = []) (hr : Room k callerA) (hY : ∀ (w : World) (h : Heap), YP w h → (K w.params).In h)
    (hsp : ∀ ns : List Int, ns.length ≤ n → sp [.scr ns] [] (fun d _ => d = .bl true) fun _ _ _ => False)
    (F : ∀ (w : World) (mg : Str → Option Value) (fa : Addr) (h : Heap), YP w h → (K w.params).In h → h.Ns mainGlobals mg → mg d.name = some (.ref fa) → LawG l w (K w.params) k x mg fa h sp) :
    PySem.W.WalkO q loose XP YP l.row.toRowW d [] (fun f vs => PySem.call f vs) := by
  refine Att.attach_callB hn hdf fun w s₀ s₁ mg mb fa o pm cd doc a vs ns G Y ho hd hcd hmg hobj hints hlen hbits hg => ?_
  have KX := hY w _ Y
  obtain ⟨c, fd, cs, lq, eK, hT, nT, C, hcT, hb, hF⟩ := (F w mg fa _ Y KX G.T.g hmg).ex
  subst_vars
  exact law_endG (eK ▸ KX) G.T.g G.T.b G.T.builtins G.T.nolimit hg hT (eK ▸ nT) C hcT G.T.bmain hobj hints (Nat.le_trans hlen hn2) hr (eK ▸ hF) hb (hsp ns hlen)
end TL
namespace TL
open PySem PySem.Spec PyProof.Rows L2 LamX
open PySem.W (Frag findIn typeIn keepIn subIn mroIn codeIn nsIn clsIn kitOne exmOne hasDictIn specialIn takesIn ks_superIn codeHdIn ksFn tabObj)
open PySem.HandSPX (refsVE excO)
/-! ## what the end leans on, by one look at the written part -/
def gaL (K : Frag) (ns : List Str) (i : Nat) : Addr := He.ga K (ns.getD i (ns.headD Str.empty))
theorem gaL_all {K : Frag} {ns : List Str} {p : Addr → Bool} (h0 : ns ≠ []) (h : (ns.all fun x => p (He.ga K x)) = true) (i : Nat) : p (gaL K ns i) = true := by
  have a := List.all_eq_true.mp h
  unfold gaL
  by_cases hi : i < ns.length
  · rw [List.getD_eq_getElem?_getD, List.getElem?_eq_getElem hi]
    exact a _ (List.getElem_mem hi)
  · rw [List.getD_eq_getElem?_getD, List.getElem?_eq_none (by omega)]
    cases ns with
    | nil => exact absurd rfl h0
    | cons x ns => exact a x (by simp)
def fx (n i : Nat) : Nat := if i < n then i else 0
theorem gaL_fx (K : Frag) (ns : List Str) (i : Nat) : gaL K ns (fx ns.length i) = gaL K ns i := by
  unfold fx
  by_cases hi : i < ns.length
  · rw [if_pos hi]
  · rw [if_neg hi]
    unfold gaL
    rw [List.getD_eq_getElem?_getD, List.getD_eq_getElem?_getD, List.getElem?_eq_none (show ns.length ≤ i by omega)]
    cases ns <;> rfl
theorem fx_lt {n : Nat} (h : 0 < n) (i : Nat) : fx n i < n := by unfold fx; split <;> omega
/-- own classes: what isinstance and fields want -/
def clsB (K : Frag) (C : Addr) : Bool := (PySem.W.clsIn K C).isSome && (He.eqO (findIn K (.ref C) "__getattribute__") (some (some (.builtin "BaseException.__getattribute__"))) && (He.eqO (findIn K (.ref C) "__getattr__") (some none) &&
  (decide (subIn K (.ref C) (.type "BaseException") = some true) && (hasDictIn K C && (He.eqO (findIn K (.ref C) "__class__") (some (some (.builtin "object.__class__"))) && (He.eqO (specialIn K (.builtin "object.__class__") "__get__") (some (some (.builtin "getset_descriptor.__get__"))) &&
  (decide (takesIn K (.builtin "object.__class__") = some true) && (decide (mroIn K C (.type "object") = some true) && decide (typeIn K (.ref C) = some (.type "type"))))))))))
theorem clsB_ok {K : Frag} {C : Addr} (h : clsB K C = true) : ErrC K C ∧ typeIn K (.ref C) = some (.type "type") := by
  simp only [clsB, Bool.and_eq_true, decide_eq_true_eq] at h
  obtain ⟨h1, h2, h3, h4, h5, h6, h7, h8, h9, h10⟩ := h
  exact ⟨⟨h1, He.eqO_ok h2, He.eqO_ok h3, h4, h5, He.eqO_ok h6, He.eqO_ok h7, h8, h9⟩, h10⟩
def pairB (K : Frag) (ns : List Str) (f : Addr → Addr → Option Bool) (s : Nat → Nat → Bool) : Bool := (List.range ns.length).all fun i => (List.range ns.length).all fun j => decide (f (gaL K ns i) (gaL K ns j) = some (s i j))
theorem pairB_ok {K : Frag} {ns : List Str} {f : Addr → Addr → Option Bool} {s : Nat → Nat → Bool} (h0 : ns ≠ []) (hs : ∀ i j, s i j = s (fx ns.length i) (fx ns.length j)) (h : pairB K ns f s = true) (i j : Nat) : f (gaL K ns i) (gaL K ns j) = some (s i j) := by
  have l : 0 < ns.length := by cases ns; exact absurd rfl h0; simp
  have a := List.all_eq_true.mp (List.all_eq_true.mp h (fx ns.length i) (List.mem_range.mpr (fx_lt l i))) (fx ns.length j) (List.mem_range.mpr (fx_lt l j))
  have := of_decide_eq_true a
  rwa [gaL_fx, gaL_fx, ← hs] at this
theorem mro_ty (t : String) (C : Addr) (l : List Value) (h : fastBuiltinMro t = some l) : l.contains (.ref C) = false := by
  unfold fastBuiltinMro at h
  obtain ⟨m, _, rfl⟩ := Option.map_eq_some_iff.mp h
  rw [← Bool.not_eq_true, List.contains_iff_mem]
  intro hm
  obtain ⟨x, _, e⟩ := List.mem_map.mp hm
  cases e
theorem tyMro : ∀ t ∈ tyNames, (fastBuiltinMro t).isSome = true := by decide +kernel
theorem kty_of {K : Frag} {C : Addr} (h : ErrC K C ∧ typeIn K (.ref C) = some (.type "type")) : ∀ t ∈ tyNames, kitOne K (.type t) (.ref C) = some false := by
  intro t ht
  obtain ⟨l, hl⟩ := Option.isSome_iff_exists.mp (tyMro t ht)
  have e : (Value.type t == Value.ref C) = false := beq_eq_false_iff_ne.mpr (fun z => by cases z)
  unfold kitOne
  rw [e, if_neg (by simp)]
  have e2 : PySem.W.kitCls K (.type t) (.ref C) = if ((clsIn K C).isSome && typeIn K (.ref C) == some (.type "type")) = true then subIn K (.type t) (.ref C) else none := rfl
  rw [e2, h.2, h.1.hcl, if_pos (by simp)]
  simp only [subIn, hl, Option.map_some, mro_ty t C l hl]
theorem own_of {K : Frag} {C : Addr} : ∀ cls b, exmOne K cls (.ref C) = some b → b = true → ∃ C', cls = .ref C' := by
  intro cls b h hb
  subst hb
  have e2 : exmOne K cls (.ref C) = if (subIn K (.ref C) (.type "BaseException") == some true) = true then (if ((clsIn K C).isSome && typeIn K (.ref C) == some (.type "type")) = true then subIn K cls (.ref C) else none) else none := rfl
  rw [e2] at h
  split at h
  · split at h
    · cases cls with
      | ref a => exact ⟨a, rfl⟩
      | type t =>
        simp only [subIn] at h
        obtain ⟨l, hl, e⟩ := Option.map_eq_some_iff.mp h
        rw [mro_ty t C l hl] at e
        cases e
      | _ => cases h
    · cases h
  · cases h
/-! ### an own error's text -/
def excB (K : Frag) (C : Addr) : Bool := match K.lookup C with
  | some ⟨.type t, _, .cls cd, sl⟩ => decide (t = "type") && (cd.hasDict && (!cd.hasDel && ((match cd.mro with
      | .ref C' :: bm => decide (C' = C) && refsVE bm
      | _ => false) && (match sl.toList with
      | [_, _, _, _, some (.builtin i), _] => decide (i = "ValueError.__new__")
      | _ => false))))
  | _ => false
theorem excB_ok {K : Frag} {C : Addr} (h : excB K C = true) : ∃ nm q N bs bm sn sub ab col dd k0 k1 k2 k3 k5, K.lookup C = some (excClassObj nm q C N bs bm true sn sub ab col dd k0 k1 k2 k3 k5 "ValueError.__new__") ∧ refsVE bm = true := by
  unfold excB at h
  split at h
  · rename_i t dd cd sl hl
    simp only [Bool.and_eq_true, decide_eq_true_eq] at h
    obtain ⟨rfl, h1, h2, h3, h4⟩ := h
    split at h3
    · rename_i C' bm hm
      simp only [Bool.and_eq_true, decide_eq_true_eq] at h3
      obtain ⟨rfl, h5⟩ := h3
      split at h4
      · rename_i k0 k1 k2 k3 i k5 hs
        have h4 := of_decide_eq_true h4
        subst h4
        obtain ⟨sl⟩ := sl
        simp only at hs
        subst hs
        obtain ⟨a1, a2, a3, a4, a5, a6, a7, a8, a9, a10, a11⟩ := cd
        simp only at hm h1 h2
        subst hm h1
        simp only [Bool.not_eq_true'] at h2
        subst h2
        exact ⟨_, _, _, _, bm, _, _, _, _, _, _, _, _, _, _, hl, h5⟩
      · cases h4
    · cases h3
  · cases h
abbrev EV := Option (Str × Str × Arguments × FuncBody × Scope × Addr × List (Str × Addr) × Value × Value × Addr)
def eObs (K : Frag) (f : Addr) : EV := match K.lookup f with
  | some ⟨_, _, .func fd, _⟩ => some (fd.name, fd.qualname, fd.params, fd.body, fd.scope, fd.globals, fd.closure, fd.defaults, fd.kwdefaults, fd.builtins)
  | _ => none
def cdOf (K : Frag) (f : Addr) : Addr := match K.lookup f with
  | some ⟨_, _, .func fd, _⟩ => (match fd.code with
    | .ref c => c
    | _ => 0)
  | _ => 0
def ccOf (K : Frag) (f : Addr) : Addr := match K.lookup f with
  | some ⟨_, _, .func fd, _⟩ => (match fd.closure with
    | [(_, c)] => c
    | _ => 0)
  | _ => 0
def cdB (K : Frag) (f : Addr) (q : Str) : Bool := match K.lookup f with
  | some ⟨_, _, .func fd, _⟩ => (match fd.code with
    | .ref c => codeIn K (.ref c) q
    | _ => false)
  | _ => false
theorem eObs_ok {K : Frag} {f : Addr} {x q : Str} {a : Arguments} {b : FuncBody} {s : Scope} {g bn : Addr} {cl : List (Str × Addr)} {dV kV : Value} (h : eObs K f = some (x, q, a, b, s, g, cl, dV, kV, bn)) (h2 : cdB K f q = true) :
    ∃ oc od doc pm an ct osl, K.lookup f = some ⟨oc, od, .func ⟨x, q, a, b, s, g, cl, dV, kV, doc, pm, an, .ref (cdOf K f), ct, bn⟩, osl⟩ ∧ codeIn K (.ref (cdOf K f)) q = true := by
  unfold eObs at h
  unfold cdB at h2
  unfold cdOf
  cases e : K.lookup f with
  | none => rw [e] at h2; cases h2
  | some o =>
    obtain ⟨oc, od, dt, osl⟩ := o
    rw [e] at h h2
    cases dt with
    | func fd =>
      obtain ⟨n1, n2, n3, n4, n5, n6, n7, n8, n9, n10, n11, n12, n13, n14, n15⟩ := fd
      simp only [Option.some.injEq, Prod.mk.injEq] at h
      obtain ⟨rfl, rfl, rfl, rfl, rfl, rfl, rfl, rfl, rfl, rfl⟩ := h
      cases n13 with
      | ref c => exact ⟨oc, od, n10, n11, n12, n14, osl, rfl, h2⟩
      | _ => cases h2
    | _ => cases h2
def fileB (P : Program) (K : Frag) (c : Addr) : Bool := match K.lookup c with
  | some ⟨_, _, .fields vs, _⟩ => (match (vs[2]? : Option Value) with
    | some (.str file _) => (P.main.file : Str) == file
    | _ => false)
  | _ => false
def cellB (K : Frag) (c C : Addr) : Bool := match K.lookup c with
  | some ⟨_, _, .cell (some (.ref C')), _⟩ => decide (C' = C)
  | _ => false
def errB (P : Program) (K : Frag) (C : Addr) (F : Str) : Bool := excB K C && (He.eqO (findIn K (.ref C) "__setattr__") (some (some (.builtin "object.__setattr__"))) && (He.eqO (findIn K (.ref C) F) (some none) && (He.eqO (findIn K (.ref C) "__init__") (some (some (.ref (He.ma K C "__init__")))) &&
  (decide (typeIn K (.ref (He.ma K C "__init__")) = some (.type "function")) && (keepIn K (.ref C) && (decide (subIn K (.ref C) (.type "BaseException") = some true) && (decide (typeIn K (.ref C) = some (.type "type")) && (decide (subIn K (.ref C) (.type "ValueError") = some true) &&
  (decide (mroIn K C (.ref C) = some true) && (He.eqO (ks_superIn K C C "__init__") (some (some (.builtin "ValueError.__init__"))) && (He.eqO (nsIn K cStatics "thirdparty.any") (some none) && (!(P.main.scope.names.lookup ("super" : Str)).isSome && ((K.all fun p => !(p.2.cls == .ref C)) &&
  (fileB P K (cdOf K (He.ma K C "__init__")) && cellB K (ccOf K (He.ma K C "__init__")) C))))))))))))))
theorem lookup_mem {K : Frag} {a : Addr} {o : Obj} (h : K.lookup a = some o) : ∃ b, (b, o) ∈ K := by
  induction K with
  | nil => cases h
  | cons p K ih =>
    obtain ⟨b, u⟩ := p
    rw [List.lookup_cons] at h
    split at h
    · cases h; exact ⟨b, by simp⟩
    · obtain ⟨c, hc⟩ := ih h; exact ⟨c, by simp [hc]⟩
theorem errTxt_of {P : Program} {K : Frag} {C : Addr} {F T q : Str} {p1 p2 a0 a1 a2 a3 a4 a5 q1 q2 q3 q4 : Pos} (B : errB P K C F = true) (nf : F ≠ PySem.Str.ofString "self" ∧ F ≠ PySem.Str.ofString "__class__" ∧ F ≠ PySem.Str.ofString "super" ∧ (F == ("__debug__" : Str)) = false)
    (ob : eObs K (He.ma K C "__init__") = (some ("__init__", q, eA F p1 p2, .stmts (eB F T a0 a1 a2 a3 a4 a5 q1 q2 q3 q4), eS F, mainGlobals, [("__class__", ccOf K (He.ma K C "__init__"))], .none, .none, builtinsNs) : EV)) (cd : cdB K (He.ma K C "__init__") q = true)
    (bnd : ∀ doc pm an cda ct cc x v, bindArgs (ksFn "__init__" q (eA F p1 p2) (eB F T a0 a1 a2 a3 a4 a5 q1 q2 q3 q4) (eS F) .none .none doc pm an (.ref cda) ct cc) ⟨[x, v], []⟩ = pure [(PySem.Str.ofString "self", x), (F, v)])
    (ev : ∃ pl : Sem Bool, ∀ (f cda cc L : Addr), eval (.Call (.Attribute (.Call (.Name "super" a0) [] [] a1) "__init__" a2) [.Constant (.str T) 0 a3] [] a4) (PySem.W.ksEnv q (eS F) L f (.ref cda) cc) = (do
        let ov ← attributeBase (.Call (.Name "super" a0) [] [] a1) "__init__" (PySem.W.ksEnv q (eS F) L f (.ref cda) cc) (eval (.Call (.Name "super" a0) [] [] a1) (PySem.W.ksEnv q (eS F) L f (.ref cda) cc))
        standAt a2.atName
        let (f', first) ← holding [ov] (getMethod ov "__init__" pl)
        callWith a4 f' first (backTo a4 (starEach [.Constant (.str T) 0 a3] (PySem.W.ksEnv q (eS F) L f (.ref cda) cc))) [])) :
    ErrTxt P K C (He.ma K C "__init__") F := by
  simp only [errB, Bool.and_eq_true, decide_eq_true_eq, Bool.not_eq_true'] at B
  obtain ⟨b1, b2, b3, b4, b5, b6, b7, b8, b9, b10, b11, b12, b13, b14, b15, b16⟩ := B
  obtain ⟨oc, od, doc, pm, an, ct, osl, l, ci⟩ := eObs_ok ob cd
  refine ⟨excB_ok b1, He.eqO_ok b2, He.eqO_ok b3, He.eqO_ok b4, b5, b6, b7, b8, b9, b10, He.eqO_ok b11, He.eqO_ok b12, nf, b13, ?_, oc, od, q, T, doc, pm, an, _, _, ct, osl, p1, p2, a0, a1, a2, a3, a4, a5, q1, q2, q3, q4, l, ci, ?_, ?_, ?_, ?_⟩
  · intro x t e
    obtain ⟨b, hb⟩ := lookup_mem e
    have := List.all_eq_true.mp b14 _ hb
    simp at this
  · unfold fileB at b15
    split at b15
    · rename_i ccl cdd vs ccs hl
      split at b15
      · rename_i file tf hv
        exact ⟨_, _, _, _, _, _, hl, hv, b15⟩
      · cases b15
    · cases b15
  · unfold cellB at b16
    split at b16
    · rename_i cl cld C' csl hl
      have := of_decide_eq_true b16
      subst this
      exact ⟨_, _, _, hl⟩
    · cases b16
  · exact fun x v => bnd doc pm an _ ct _ x v
  · obtain ⟨pl, ev⟩ := ev
    exact ⟨pl, fun L => ev _ _ _ L⟩
/-! ### defs, names -/
def fnL (top : Nat → Stmt) (ds : List (Str × Nat)) : List He.FnD := ds.map fun p => ⟨(p.1, none), p.1, p.1, defArgs (top p.2), defBody (top p.2), defScope (top p.2)⟩
def faL (ds : List (Str × Nat)) (frees : List Str) (its : List (Str × Int)) (zts : List (Str × Str)) : List He.Fa := (ds.map fun p => .glo p.1) ++ ((ds.map fun p => .keep p.1) ++ (frees.map .free ++ ((its.map fun p => .int p.1 p.2) ++ zts.map fun p => .str p.1 p.2)))
theorem says_fact {fa : List He.Fa} {fn : List He.FnD} {K : Frag} (c : He.SaysE fa fn K) {f : He.Fa} (h : f ∈ fa) : f.ok K = true := by
  obtain ⟨i, hi, e⟩ := List.mem_iff_getElem.mp h
  exact c.fact i (by rw [List.getElem?_eq_getElem hi, e])
theorem says_def {fa : List He.Fa} {fn : List He.FnD} {K : Frag} (c : He.SaysE fa fn K) {d : He.FnD} (h : d ∈ fn) : ∃ oc od osl kV doc pm an cdv ct, K.lookup (He.fAd K d.at_) = some ⟨oc, od, .func (PySem.W.fnOf d.name d.qual d.params d.body d.scope .none kV doc pm an cdv ct), osl⟩ ∧ codeIn K cdv d.qual = true := by
  obtain ⟨i, hi, e⟩ := List.mem_iff_getElem.mp h
  exact c.def_ i (by rw [List.getElem?_eq_getElem hi, e])
section
variable {top : Nat → Stmt} {ds : List (Str × Nat)} {frees : List Str} {its : List (Str × Int)} {zts : List (Str × Str)} {c : Wc} {h : Heap} {mg : Str → Option Value}
theorem def_of (S : He.SaysE (faL ds frees its zts) (fnL top ds) c.K) (X : c.K.In h) (G : h.Ns mainGlobals mg) (k : Nat) {x : Str} {i : Nat} (e : ds[k]? = some (x, i) := by rfl) : Def0 c mg x (top i) := by
  have m : (x, i) ∈ ds := List.mem_of_getElem? e
  obtain ⟨oc, od, osl, kV, doc, pm, an, cdv, ct, l, ci⟩ := says_def S (d := ⟨(x, none), x, x, defArgs (top i), defBody (top i), defScope (top i)⟩) (List.mem_map.mpr ⟨_, m, rfl⟩)
  have g : (He.Fa.glo x).ok c.K = true := says_fact S (List.mem_append_left _ (List.mem_map.mpr ⟨_, m, rfl⟩))
  have kp : (He.Fa.keep x).ok c.K = true := says_fact S (List.mem_append_right _ (List.mem_append_left _ (List.mem_map.mpr ⟨_, m, rfl⟩)))
  exact ⟨_, _, fun_mk (st := top i) l ci kp, He.glo_ok X G g⟩
theorem fre_of (S : He.SaysE (faL ds frees its zts) (fnL top ds) c.K) (X : c.K.In h) (G : h.Ns mainGlobals mg) (k : Nat) {x : Str} (e : frees[k]? = some x := by rfl) : mg x = none :=
  He.free_ok X G (says_fact S (List.mem_append_right _ (List.mem_append_right _ (List.mem_append_left _ (List.mem_map.mpr ⟨_, List.mem_of_getElem? e, rfl⟩)))))
theorem int_of (S : He.SaysE (faL ds frees its zts) (fnL top ds) c.K) (X : c.K.In h) (G : h.Ns mainGlobals mg) (k : Nat) {x : Str} {i : Int} (e : its[k]? = some (x, i) := by rfl) : ∃ t, mg x = some (.int i t) :=
  He.int_ok X G (says_fact S (List.mem_append_right _ (List.mem_append_right _ (List.mem_append_right _ (List.mem_append_left _ (List.mem_map.mpr ⟨_, List.mem_of_getElem? e, rfl⟩))))))
theorem str_of (S : He.SaysE (faL ds frees its zts) (fnL top ds) c.K) (X : c.K.In h) (G : h.Ns mainGlobals mg) (k : Nat) {x z : Str} (e : zts[k]? = some (x, z) := by rfl) : ∃ t, mg x = some (.str z t) :=
  He.str_ok X G (says_fact S (List.mem_append_right _ (List.mem_append_right _ (List.mem_append_right _ (List.mem_append_right _ (List.mem_map.mpr ⟨_, List.mem_of_getElem? e, rfl⟩))))))
end
/-! ### the classes -/
def clsesB (K : Frag) (ns : List Str) (flds : List (List Str)) (s : Nat → Nat → Bool) (ok : Nat → Bool) (ci : Nat) : Bool := (ns.all fun x => clsB K (He.ga K x)) && ((ns.all fun x => (He.Fa.glo x).ok K) && (pairB K ns (fun a b => kitOne K (.ref a) (.ref b)) s &&
  (pairB K ns (fun a _ => exmOne K (.ref a) (.ref (gaL K ns ci))) (fun i _ => ok i) && (List.range ns.length).all fun i => (flds.getD i []).all fun F => He.eqO (findIn K (.ref (gaL K ns i)) F) (some none))))
structure Clses (K : Frag) (ns : List Str) (flds : List (List Str)) (s : Nat → Nat → Bool) (ok : Nat → Bool) (ci : Nat) : Prop where
  errs : ∀ i, ErrC K (gaL K ns i)
  kit : ∀ i j, kitOne K (.ref (gaL K ns i)) (.ref (gaL K ns j)) = some (s i j)
  kty : ∀ t ∈ tyNames, ∀ k, kitOne K (.type t) (.ref (gaL K ns k)) = some false
  no : ∀ i F, flds.getD i [] = [F] → findIn K (.ref (gaL K ns i)) F = some none
  own : ∀ cls b, exmOne K cls (.ref (gaL K ns ci)) = some b → b = true → ∃ C, cls = .ref C
  exm : ∀ i, exmOne K (.ref (gaL K ns i)) (.ref (gaL K ns ci)) = some (ok i)
  glo : ∀ (h : Heap) (mg : Str → Option Value), K.In h → h.Ns mainGlobals mg → ∀ (i : Nat) (x : Str), ns[i]? = some x → mg x = some (.ref (gaL K ns i))
theorem clses_of {K : Frag} {ns : List Str} {flds : List (List Str)} {s : Nat → Nat → Bool} {ok : Nat → Bool} {ci : Nat} (h0 : ns ≠ []) (hf : flds.length = ns.length) (hs : ∀ i j, s i j = s (fx ns.length i) (fx ns.length j)) (hok : ∀ i, ok i = ok (fx ns.length i)) (B : clsesB K ns flds s ok ci = true) : Clses K ns flds s ok ci := by
  simp only [clsesB, Bool.and_eq_true] at B
  obtain ⟨b1, b2, b3, b4, b5⟩ := B
  refine ⟨fun i => (clsB_ok (gaL_all (p := clsB K) h0 b1 i)).1, pairB_ok (f := fun a b => kitOne K (.ref a) (.ref b)) h0 hs b3, fun t ht k => kty_of (clsB_ok (gaL_all (p := clsB K) h0 b1 k)) t ht, fun i F e => ?_, own_of, fun i => pairB_ok (f := fun a _ => exmOne K (.ref a) (.ref (gaL K ns ci))) (s := fun i _ => ok i) h0 (fun i _ => hok i) b4 i i, fun h mg X G i x e => ?_⟩
  · by_cases hi : i < ns.length
    · have a := List.all_eq_true.mp (List.all_eq_true.mp b5 i (List.mem_range.mpr hi)) F (by rw [e]; simp)
      exact He.eqO_ok a
    · rw [List.getD_eq_getElem?_getD, List.getElem?_eq_none (by omega)] at e
      cases e
  · have a := He.glo_ok X G (List.all_eq_true.mp b2 x (List.mem_of_getElem? e))
    rw [a]
    unfold gaL
    rw [List.getD_eq_getElem?_getD, e]
    rfl
/-! ### the law's own def -/
def tabOf (K : Frag) (c : Addr) : Addr := match K.lookup c with
  | some ⟨_, _, .fields vs, _⟩ => (match (vs[11]? : Option Value) with
    | some (.ref P) => P
    | _ => 0)
  | _ => 0
def lawB (K : Frag) (x : Str) : Bool := (He.Fa.glo x).ok K && ((He.Fa.keep x).ok K && (cdB K (He.ga K x) x && (codeHdIn K (cdOf K (He.ga K x)) (tabOf K (cdOf K (He.ga K x))) && (K.lookup (tabOf K (cdOf K (He.ga K x)))).isNone)))
theorem funC_of {K : Frag} {x : Str} {st : Stmt} (B : lawB K x = true) (ob : eObs K (He.ga K x) = (some (x, x, defArgs st, .stmts (defBody st), defScope st, mainGlobals, [], .none, .none, builtinsNs) : EV)) : ∃ fd, FunC K x x st (He.ga K x) fd (cdOf K (He.ga K x)) := by
  simp only [lawB, Bool.and_eq_true] at B
  obtain ⟨b1, b2, b3, b4, b5⟩ := B
  obtain ⟨oc, od, doc, pm, an, ct, osl, l, ci⟩ := eObs_ok ob b3
  exact ⟨_, ⟨⟨oc, od, _, doc, pm, an, ct, osl, rfl, l, ci⟩, He.keep_ok b2⟩⟩
theorem lawG_of {l : PySem.W.OpenLaw} {w : World} {K : Frag} {k : Nat} {x : Str} {y lq : Str} {mg : Str → Option Value} {fa : Addr} {h : Heap} {sp : SpD} {st : Stmt} {ts : List Addr} {c : Wc} (X : K.In h) (G : h.Ns mainGlobals mg) (hfa : mg x = some (.ref fa)) (T8 : ∀ P ∈ ts, h.get? P = some (tabObj #[]))
    (B : lawB K x = true) (ob : eObs K (He.ga K x) = (some (x, x, defArgs st, .stmts (defBody st), defScope st, mainGlobals, [], .none, .none, builtinsNs) : EV)) (hm : tabOf K (cdOf K (He.ga K x)) ∈ ts) (eK : c.K = K) (eT : c.T = [(tabOf K (cdOf K (He.ga K x)), lq)])
    (bnd : ∀ (kV doc pm : Value) (an : Option Addr) (cdv ct : Value) (u : Value), bindArgs (PySem.W.fnOf x x (defArgs st) (defBody st) (defScope st) .none kV doc pm an cdv ct) ⟨[u], []⟩ = pure [(y, u)])
    (F : ∀ (fd : FuncData) (base : Heap), FunC K x x st fa fd (cdOf K (He.ga K x)) → TabB base mg (cdOf K (He.ga K x)) (tabOf K (cdOf K (He.ga K x))) → FnG l.prog w c mg base k fa fd [y] sp) : LawG l w K k y mg fa h sp := by
  obtain ⟨fd, FC⟩ := funC_of B ob
  simp only [lawB, Bool.and_eq_true] at B
  obtain ⟨b1, b2, b3, b4, b5⟩ := B
  have ef := hfa.symm.trans (He.glo_ok X G b1)
  cases ef
  refine ⟨c, fd, [(cdOf K (He.ga K x), tabOf K (cdOf K (He.ga K x)))], lq, eK, ?_, ?_, ?_, eT, ?_, fun base _ _ TB => F fd base FC (TB _ (List.mem_singleton.mpr rfl))⟩
  · intro p hp
    rw [List.mem_singleton.mp hp]
    exact T8 _ hm
  · intro p hp
    rw [List.mem_singleton.mp hp]
    exact Option.isNone_iff_eq_none.mp b5
  · intro p hp
    rw [List.mem_singleton.mp hp]
    exact PySem.W.codeHd_of_K X b4
  · obtain ⟨oc, od, kV, doc, pm, an, ct, osl, rfl, _, _⟩ := FC.ex
    exact fun s u => .of_eq (bnd _ _ _ _ _ _ _)
end TL
namespace Law
open PySem PySem.Spec PyProof.Rows L2 LamX TL
def topS (i : Nat) : Stmt := PySem.Challenge.pw_turnedletters_k02_whole_forms_of_sums.main.body.getD i (.Pass ⟨0, 0, 0, 0⟩)
def lamQ : Str := (envOfC "law" (defScope (topS 55)) 0 0 .none).qual ++ ("<lambda>" : Str)
def subK (i j : Nat) : Bool := let f := fun (n : Nat) => if n < 4 then n else 0; decide ((f i, f j) ∈ ([(0, 0), (1, 1), (1, 0), (2, 2), (2, 0), (3, 3), (3, 0)] : List (Nat × Nat)))
def cokK (i : Nat) : Bool := subK i 0
structure Tx (P : Program) (c : Wc) (fi : Nat → Addr) (mg : Str → Option Value) : Prop where
  errs : ∀ i, ErrC c.K (c.cls i)
  kit : ∀ i j, PySem.W.kitOne c.K (.ref (c.cls i)) (.ref (c.cls j)) = some (subK i j)
  kty : ∀ t ∈ tyNames, ∀ k, PySem.W.kitOne c.K (.type t) (.ref (c.cls k)) = some false
  l_BadNumber : c.fld 1 = [("part" : Str)]
  e_BadNumber : ErrTxt P c.K (c.cls 1) (fi 1) "part"
  l_TooMany : c.fld 2 = [("most" : Str)]
  e_TooMany : ErrTxt P c.K (c.cls 2) (fi 2) "most"
  l_BadSum : c.fld 3 = [("part" : Str)]
  e_BadSum : ErrTxt P c.K (c.cls 3) (fi 3) "part"
  no_most : ∀ i, c.fld i = [("most" : Str)] → PySem.W.findIn c.K (.ref (c.cls i)) "most" = some none
  no_part : ∀ i, c.fld i = [("part" : Str)] → PySem.W.findIn c.K (.ref (c.cls i)) "part" = some none
  n_int : mg "int" = none
  n_isinstance : mg "isinstance" = none
  n_bool : mg "bool" = none
  n_tuple : mg "tuple" = none
  n_len : mg "len" = none
  n_super : mg "super" = none
  g_BadNumber : mg "BadNumber" = some (.ref (c.cls 1))
  g_TooMany : mg "TooMany" = some (.ref (c.cls 2))
  n_abs : mg "abs" = none
  k_SHORT : ∃ t, mg "SHORT" = some (.int 10000000000000000000000000000000000000000000000000000000000000000 t)
  n_all : mg "all" = none
  k_MOST_EXPONENT : ∃ t, mg "MOST_EXPONENT" = some (.int 1000000000000 t)
  k_MOST_DIGITS : ∃ t, mg "MOST_DIGITS" = some (.int 4000 t)
  n_range : mg "range" = none
  k_MOST_TERMS : ∃ t, mg "MOST_TERMS" = some (.int 2000 t)
  k_MOST_LETTERS : ∃ t, mg "MOST_LETTERS" = some (.int 16 t)
  g_BadSum : mg "BadSum" = some (.ref (c.cls 3))
  n_sorted : mg "sorted" = none
  n_min : mg "min" = none
  n_max : mg "max" = none
  n_repr : mg "repr" = none
  n_list : mg "list" = none
  g_caught : mg "TurnError" = some (.ref (c.cls 0))
  own : ∀ cls b, PySem.W.exmOne c.K cls (.ref (c.cls 0)) = some b → b = true → ∃ C, cls = .ref C
  exm : ∀ i, PySem.W.exmOne c.K (.ref (c.cls i)) (.ref (c.cls 0)) = some (cokK i)
theorem Tx.isi {P : Program} {fi : Nat → Addr} {w : Wd} {X : Cx} (T : Tx P w.toWc fi X.mg) (hK : X.K = w.K) : CallD w X (.builtin "isinstance") (c2D (isiD subK)) := cd_isi subK (hK ▸ T.errs) (hK ▸ T.kit) (hK ▸ T.kty)
def isLong (n m : Int) : Bool := decide (10000000000000000000000000000000000000000000000000000000000000000 ≤ n.natAbs) && decide (10 ^ m.toNat ≤ n.natAbs)
def small (i : Int) : Bool := decide (-1000000000000 < i) && decide (i < 1000000000000)
def isRow (d : D) (v : Int) : Bool := isTup d v && (tpl d).all isI
def isTerm (v : Int) (d : D) : Bool := match d with
  | .tup [r, c] => isRow r v && isI c && (tpl r).all (fun e => small (iOf e)) && !isLong (iOf c) 4000
  | _ => false
def rowOf (d : D) : D := match d with
  | .tup (r :: _) => r
  | _ => .non
def cntI (d : D) : Int := match d with
  | .tup [_, c] => iOf c
  | _ => 0
def ascAt (ts : List D) (k : Nat) : Bool := HT.lexLt (rowI (rowOf (ts.getD k .non))) (rowI (rowOf (ts.getD (k + 1) .non)))
def isSum (v : Int) (d : D) : Bool := match d with
  | .tup ts => decide (ts.length ≤ 2000) && ts.all (isTerm v) && ts.all (fun t => decide (cntI t ≠ 0)) && (List.range (ts.length - 1)).all (ascAt ts)
  | _ => false
def trm (t : List Int × Int) : D := .tup [rowD t.1, .int t.2]
def smD (ts : List (List Int × Int)) : D := .tup (ts.map trm)
/-! ## promises -/
def sp_is_number : SpD := fun ds M q _ => match ds with | [d] => pln d = true ∧ q (.bl (isI d)) M | _ => False
def sp_is_between : SpD := fun ds M q _ => match ds with | [d, .int lo, .int hi] => pln d = true ∧ q (.bl (btw d lo hi)) M | _ => False
def sp_is_tuple : SpD := fun ds M q _ => match ds with | [d, .int n] => pln d = true ∧ q (.bl (isTup d n)) M | _ => False
def sp_need_between : SpD := fun ds M q x => match ds with | [d, .int lo, .int hi, p] => pln d = true ∧ if btw d lo hi = true then q .non M else x 1 [p] M | _ => False
def sp_need_few : SpD := fun ds M q x => match ds with | [.int n, .int m] => if m < n then x 2 [.int m] M else q .non M | _ => False
def sp_ten_up : SpD := fun ds M q _ => match ds with | [.int m] => 0 ≤ m ∧ m ≤ 4096 ∧ q (.int (10 ^ m.toNat)) M | _ => False
def sp_is_long : SpD := fun ds M q _ => match ds with | [.int n, .int m] => 0 ≤ m ∧ m ≤ 4096 ∧ q (.bl (isLong n m)) M | _ => False
def sp_need_digits : SpD := fun ds M q x => match ds with | [.int n, .int m] => 0 ≤ m ∧ m ≤ 4096 ∧ if isLong n m = true then x 2 [.int m] M else q .non M | _ => False
def sp_is_row : SpD := fun ds M q _ => match ds with | [d, .int v] => pln d = true ∧ q (.bl (isRow d v)) M | _ => False
def sp_is_small_row : SpD := fun ds M q _ => match ds with | [.tup es] => es.length ≤ sizeLine ∧ es.all isI = true ∧ q (.bl (es.all fun e => small (iOf e))) M | _ => False
def sp_is_term : SpD := fun ds M q _ => match ds with | [d, .int v] => pln d = true ∧ q (.bl (isTerm v d)) M | _ => False
def sp_is_sum_told : SpD := fun ds M q _ => match ds with | [.int v, d] => pln d = true ∧ q (.bl (isSum v d)) M | _ => False
def sp_need_letters : SpD := fun ds M q x => match ds with | [d] => pln d = true ∧ if btw d 1 16 = true then q .non M else x 1 [.str "v"] M | _ => False
def sp_need_sum : SpD := fun ds M q x => match ds with | [.int v, d, p] => pln d = true ∧ if isSum v d = true then q .non M else x 3 [p] M | _ => False
/-! ## dicts of rows -/
def getR (p : List (List Int) × List Int) (e : List Int) : Int := (lkp p.1 p.2 e).getD 0
def putR (p : List (List Int) × List Int) (e : List Int) (c : Int) : List (List Int) × List Int := (putKs p.1 e, putVs p.1 p.2 e c)
def addR (p : List (List Int) × List Int) (t : List Int × Int) : List (List Int) × List Int := putR p t.1 (getR p t.1 + t.2)
def coll (ts : List (List Int × Int)) : List (List Int) × List Int := ts.foldl addR ([], [])
def sumP (p : List (List Int) × List Int) : List (List Int × Int) := ((sortR p.1).filter fun e => decide (getR p e ≠ 0)).map fun e => (e, getR p e)
def letR (v : Nat) (k : Int) : List Int := (List.range v).map fun (j : Nat) => if (j : Int) = k then 1 else 0
def minL (ns : List Int) : Int := ns.min?.getD 0
def maxL (ns : List Int) : Int := ns.max?.getD 0
def leastR (ts : List (List Int × Int)) (v : Nat) : List Int := (List.range v).map fun k => minL (ts.map fun t => t.1.getD k 0)
def greatR (ts : List (List Int × Int)) (v : Nat) : List Int := (List.range v).map fun k => maxL (ts.map fun t => t.1.getD k 0)
def okT (t : List Int × Int) : Prop := t.1.length ≤ 100 ∧ t.1.all small = true ∧ t.2.natAbs < 10000000000000000000000000000000000000000000000000000000000000000
def big2000 (ts : List (List Int × Int)) : Prop := 2000 < ts.length
def sp_collected : SpD := fun ds M q _ => match ds with | [.tup ps] => ∃ ts : List (List Int × Int), ps = ts.map trm ∧ ts.length ≤ 100000 ∧ (∀ t ∈ ts, t.1 ≠ []) ∧ q (smD (sumP (coll ts))) M | _ => False
def sp_few_terms : SpD := fun ds M q x => match ds with | [.tup ps] => ∃ ts : List (List Int × Int), ps = ts.map trm ∧ (∀ t ∈ ts, okT t) ∧ if 2000 < ts.length then x 2 [.int 2000] M else q (.tup ps) M | _ => False
def sp_letter_told : SpD := fun ds M q _ => match ds with | [.int v, .int k] => 0 ≤ v ∧ v ≤ 100 ∧ q (smD [(letR v.toNat (k - 1), 1)]) M | _ => False
def sp_number_told : SpD := fun ds M q _ => match ds with | [.int v, .int n] => 0 ≤ v ∧ v ≤ 100 ∧ q (smD (if n = 0 then [] else [(List.replicate v.toNat 0, n)])) M | _ => False
def sp_is_sum : SpD := fun ds M q x => match ds with | [vd, d] => pln vd = true ∧ pln d = true ∧ if btw vd 1 16 = true then q (.bl (isSum (iOf vd) d)) M else x 1 [.str "v"] M | _ => False
def sp_letter_sum : SpD := fun ds M q x => match ds with | [.int v, k] => 1 ≤ v ∧ v ≤ 16 ∧ pln k = true ∧ if btw k 1 v = true then q (smD [(letR v.toNat (iOf k - 1), 1)]) M else x 1 [.str "k"] M | _ => False
def sp_number_sum : SpD := fun ds M q x => match ds with | [.int v, n] => 1 ≤ v ∧ v ≤ 16 ∧ pln n = true ∧ if isI n = true then (iOf n).natAbs < 10000000000000000000000000000000000000000000000000000000000000000 ∧ q (smD (if iOf n = 0 then [] else [(List.replicate v.toNat 0, iOf n)])) M else x 1 [.str "number"] M | _ => False
def isT (d : D) : Bool := match d with | .tup _ => true | _ => false
def sp_sum_of : SpD := fun ds M q x => match ds with
  | [.int v, d] => 1 ≤ v ∧ v ≤ 16 ∧ pln d = true ∧ if (isT d && (tpl d).all (isTerm v)) = true then ∃ ts : List (List Int × Int), d = smD ts ∧ ts.length ≤ 100000 ∧ (∀ t ∈ sumP (coll ts), okT t) ∧ if 2000 < (sumP (coll ts)).length then x 2 [.int 2000] M else q (smD (sumP (coll ts))) M else x 3 [.str "pairs"] M
  | _ => False
def sp_least_told : SpD := fun ds M q _ => match ds with | [.tup ps] => ∃ (ts : List (List Int × Int)) (v : Nat), ps = ts.map trm ∧ ts ≠ [] ∧ ts.length ≤ 2000 ∧ v ≤ 100 ∧ (∀ t ∈ ts, t.1.length = v) ∧ q (rowD (leastR ts v)) M | _ => False
def sp_greatest_told : SpD := fun ds M q _ => match ds with | [.tup ps] => ∃ (ts : List (List Int × Int)) (v : Nat), ps = ts.map trm ∧ ts ≠ [] ∧ ts.length ≤ 2000 ∧ v ≤ 100 ∧ (∀ t ∈ ts, t.1.length = v) ∧ q (rowD (greatR ts v)) M | _ => False
def isSome' (v : Int) (d : D) : Bool := isSum v d && !(tpl d).isEmpty
def sp_need_some_sum : SpD := fun ds M q x => match ds with | [.int v, d, p] => pln d = true ∧ if isSome' v d = true then q .non M else x 3 [p] M | _ => False
def sp_least_exponents : SpD := fun ds M q x => match ds with | [.int v, d] => 1 ≤ v ∧ v ≤ 16 ∧ pln d = true ∧ if isSome' v d = true then ∀ ts, d = smD ts → q (rowD (leastR ts v.toNat)) M else x 3 [.str "one"] M | _ => False
def sp_greatest_exponents : SpD := fun ds M q x => match ds with | [.int v, d] => 1 ≤ v ∧ v ≤ 16 ∧ pln d = true ∧ if isSome' v d = true then ∀ ts, d = smD ts → q (rowD (greatR ts v.toNat)) M else x 3 [.str "one"] M | _ => False
/-! ## the drawing -/
structure Draw (i j n : Nat) (M : Sto) : Prop where
  ne : i ≠ j
  ex : ∃ (large cells : List Int) (r t : Int), M[i]? = some (.dk [.inr "large", .inr "cells", .inr "rest", .inr "turn"] [.obj j, .lst (cells.map .int), .int r, .int t]) ∧ M[j]? = some (.lst (large.map .int)) ∧ large.length ≤ 63 ∧ cells.length ≤ 63 ∧ 0 ≤ t ∧ t ≤ n
def SameBut (i j : Nat) (M M' : Sto) : Prop := M'.length = M.length ∧ ∀ k, k ≠ i → k ≠ j → M'[k]? = M[k]?
def sp__law_begun : SpD := fun ds M q _ => match ds with | [.scr ns] => ns.length ≤ 63 ∧ ∀ M', M'.length = M.length + 2 → (∀ k, k < M.length → M'[k]? = M[k]?) → D.bdL M'.length M' = true → Draw (M.length + 1) M.length 0 M' → q (.obj (M.length + 1)) M' | _ => False
def sp__law_blend : SpD := fun ds M q _ => match ds with | [.obj i] => ∃ j n, Draw i j n M ∧ n < 2 ^ 64 ∧ ∀ r M', SameBut i j M M' → Draw i j (n + 1) M' → M'[j]? = M[j]? → q (.int r) M' | _ => False
def sp__law_take : SpD := fun ds M q _ => match ds with | [.obj i, .int z] => 0 < z ∧ z < 2 ^ 64 ∧ ∃ j n, Draw i j n M ∧ n < 2 ^ 64 ∧ ∀ r M', 0 ≤ r → r < z → SameBut i j M M' → Draw i j (n + 1) M' → q (.int r) M' | _ => False
def sp__law_pick : SpD := fun ds M q _ => match ds with | [.obj i, .lst es] => 0 < es.length ∧ es.length ≤ 100000 ∧ ∃ j n, Draw i j n M ∧ n < 2 ^ 64 ∧ ∀ d M', d ∈ es → SameBut i j M M' → Draw i j (n + 1) M' → q d M' | _ => False
/-! ## the law's own -/
def ReprOk (d : D) : Prop := pln d = true ∧ (pdv d).depth ≤ 60 ∧ (pdv d).showable = true ∧ (pdv d).shown.length ≤ sizeLine
def sp__law_same : SpD := fun ds M q _ => match ds with | [a, b] => a = b ∧ ReprOk a ∧ q (.bl true) M | _ => False
def dR (p : List (List Int) × List Int) : List (List Key) × List D := (p.1.map keyL, p.2.map .int)
def okP (p : List (List Int) × List Int) : Prop := p.1.length = p.2.length ∧ p.1.length ≤ 100000 ∧ (∀ e ∈ p.1, e ≠ []) ∧ p.1.Nodup
def sp__law_sum : SpD := fun ds M q _ => match ds with | [d] => ∃ p, dtOf M d = some (dR p) ∧ okP p ∧ q (smD (sumP p)) M | _ => False
def sp__law_number : SpD := fun ds M q _ => match ds with | [.int v, .int n] => 0 ≤ v ∧ v ≤ 100 ∧ q (if n = 0 then .dt [] [] else .dt [keyL (List.replicate v.toNat 0)] [.int n]) M | _ => False
def sp__law_letter : SpD := fun ds M q _ => match ds with | [.int v, .int k] => 0 ≤ v ∧ v ≤ 100 ∧ q (.dt [keyL (letR v.toNat k)] [.int 1]) M | _ => False
def okC (c : Int) : Prop := c ≠ 0 ∧ c.natAbs ≤ 1000000000000
def sp__law_drawn : SpD := fun ds M q _ => match ds with
  | [.obj i, .int v, .int many, .int lo, .int hi] => 1 ≤ v ∧ v ≤ 16 ∧ 0 ≤ many ∧ many ≤ 100 ∧ lo ≤ hi ∧ -1000 ≤ lo ∧ hi ≤ 1000 ∧ i < M.length ∧ ∃ j n, Draw i j n M ∧ j < M.length ∧ n + 3000 < 2 ^ 64 ∧
    ∀ p M', okP p → p.1.length ≤ many.toNat → (∀ e ∈ p.1, (e.length : Int) = v ∧ ∀ y ∈ e, lo ≤ y ∧ y ≤ hi) → (∀ c ∈ p.2, okC c) → M'.length = M.length + 1 → (∀ k, k < M.length → k ≠ i → k ≠ j → M'[k]? = M[k]?) → Draw i j (n + 3000) M' → M'[M.length]? = some (.dt (dR p).1 (dR p).2) → D.bdL M'.length M' = true → q (.obj M.length) M'
  | _ => False
def okD (d : D) : Prop := ∀ ts : List D, d = .tup ts → ∀ t ∈ ts, ∀ r c : D, t = .tup [r, c] → (∀ e, r = .tup e → ∀ i, .int i ∈ e → small i = true) ∧ ∀ i, c = .int i → isLong i 4000 = false
def sp__law_is_sum_here : SpD := fun ds M q _ => match ds with | [.int v, d] => v ≤ 100 ∧ pln d = true ∧ okD d ∧ q (.bl (isSum v d)) M | _ => False
def badC (i : Nat) : CTD → List D → Sto → QD → XCD → Prop := fun t ds M q _ => match ds with | [p] => ReprOk p ∧ t (fun _ _ => False) (fun j es M' => j = i ∧ es = [p] ∧ M.length ≤ M'.length ∧ D.bdL M'.length M' = true ∧ q (.bl true) M') | _ => False
def sp__law_is_bad_number : CTD → List D → Sto → QD → XCD → Prop := badC 1
def sp__law_is_bad_sum : CTD → List D → Sto → QD → XCD → Prop := badC 3
def sp__law_is_too_many : CTD → List D → Sto → QD → XCD → Prop := badC 2
def sp_law : SpD := fun ds M q _ => match ds with | [.scr ns] => M = [] ∧ ns.length ≤ 63 ∧ ∀ M', q (.bl true) M' | _ => False
theorem len_badC (i : Nat) : ∀ t ds M q x, badC i t ds M q x → ds.length + 1 = 2 := by intro t ds M q x h; simp only [badC] at h; split at h <;> first | rfl | exact h.elim
theorem len__law_is_bad_number : ∀ t ds M q x, sp__law_is_bad_number t ds M q x → ds.length + 1 = 2 := len_badC 1
theorem len__law_is_bad_sum : ∀ t ds M q x, sp__law_is_bad_sum t ds M q x → ds.length + 1 = 2 := len_badC 3
theorem len__law_is_too_many : ∀ t ds M q x, sp__law_is_too_many t ds M q x → ds.length + 1 = 2 := len_badC 2
def rd_is_number (c : Wc) : TSD := (dSeq (dRet (dAnd (dApp (c2D (isiD subK)) (dCons (dVar 0) (dCons (dC (.raw (.ty "int"))) dNil))) (dNot (dApp (c2D (isiD subK)) (dCons (dVar 0) (dCons (dC (.raw (.ty "bool"))) dNil)))))) dNext)
def rd_is_between (c : Wc) : TSD := (dSeq (dRet (dAnd (dCall sp_is_number (dCons (dVar 0) dNil)) (dChain (iiD (fun _ _ => True) fun i j => .bl (decide (i ≤ j))) (iiD (fun _ _ => True) fun i j => .bl (decide (i ≤ j))) (dVar 1) (dVar 0) (dVar 2)))) dNext)
def rd_is_tuple (c : Wc) : TSD := (dSeq (dRet (dAnd (dApp (c2D (isiD subK)) (dCons (dVar 0) (dCons (dC (.raw (.ty "tuple"))) dNil))) (dBin eqD (dApp (c1D lenD) (dCons (dVar 0) dNil)) (dVar 1)))) dNext)
def rd_need_between (c : Wc) : TSD := (dSeq (dIf (dNot (dCall sp_is_between (dCons (dVar 0) (dCons (dVar 1) (dCons (dVar 2) dNil))))) (dSeq (dRaise 1 (dVar 3)) dNext) dNext) dNext)
def rd_need_few (c : Wc) : TSD := (dSeq (dIf (dBin (iiD (fun _ _ => True) fun i j => .bl (decide (j < i))) (dVar 0) (dVar 1)) (dSeq (dRaise 2 (dVar 1)) dNext) dNext) dNext)
def rd_ten_up (c : Wc) : TSD := (dSeq (dAsg (dTup (dCons (dC (.int 1)) (dCons (dC (.int 10)) dNil))) (dgTup 2 (dgCons (dgName 1) (dgCons (dgName 2) dgNil)))) (dSeq (dWhile (dBin (iiD (fun _ _ => True) fun i j => .bl (decide (j < i))) (dVar 0) (dC (.int 0))) (dSeq (dIf (dBin eqD (dBin (iiD (fun _ j => 0 < j) fun i j => .int (i % j)) (dVar 0) (dC (.int 2))) (dC (.int 1))) (dSeq (dAsg (dBin mulD (dVar 1) (dVar 2)) (dgName 1)) dNext) dNext) (dSeq (dPar 2 0 (dCons (dBin mulD (dVar 2) (dVar 2)) (dCons (dBin (iiD CDivW fun i j => .int (i / j)) (dVar 0) (dC (.int 2))) dNil))) dNext))) (dSeq (dRet (dVar 1)) dNext)))
def rd_is_long (c : Wc) : TSD := (dSeq (dRet (dAnd (dBin (iiD (fun _ _ => True) fun i j => .bl (decide (j ≤ i))) (dApp (c1D absD) (dCons (dVar 0) dNil)) (dC (.int 10000000000000000000000000000000000000000000000000000000000000000))) (dBin (iiD (fun _ _ => True) fun i j => .bl (decide (j ≤ i))) (dApp (c1D absD) (dCons (dVar 0) dNil)) (dCall sp_ten_up (dCons (dVar 1) dNil))))) dNext)
def rd_need_digits (c : Wc) : TSD := (dSeq (dIf (dCall sp_is_long (dCons (dVar 0) (dCons (dVar 1) dNil))) (dSeq (dRaise 2 (dVar 1)) dNext) dNext) dNext)
def rd_is_row (c : Wc) : TSD := (dSeq (dRet (dAnd (dCall sp_is_tuple (dCons (dVar 0) (dCons (dVar 1) dNil))) (dApp (c1D allD) (dCons (dLc false [2] (dSeqI (dVar 0)) (dgName 2) (dC (.bl true)) (dCall sp_is_number (dCons (dVar 2) dNil))) dNil)))) dNext)
def rd_is_small_row (c : Wc) : TSD := (dSeq (dRet (dApp (c1D allD) (dCons (dLc false [1] (dSeqI (dVar 0)) (dgName 1) (dC (.bl true)) (dChain ltD ltD (dUn negD (dC (.int 1000000000000))) (dVar 1) (dC (.int 1000000000000)))) dNil))) dNext)
def rd_is_term (c : Wc) : TSD := (dSeq (dIf (dOr (dNot (dCall sp_is_tuple (dCons (dVar 0) (dCons (dC (.int 2)) dNil)))) (dOr (dNot (dCall sp_is_row (dCons (dBin ixG (dVar 0) (dC (.int 0))) (dCons (dVar 1) dNil)))) (dNot (dCall sp_is_number (dCons (dBin ixG (dVar 0) (dC (.int 1))) dNil))))) (dSeq (dRet (dC (.bl false))) dNext) dNext) (dSeq (dRet (dAnd (dCall sp_is_small_row (dCons (dBin ixG (dVar 0) (dC (.int 0))) dNil)) (dNot (dCall sp_is_long (dCons (dBin ixG (dVar 0) (dC (.int 1))) (dCons (dC (.int 4000)) dNil)))))) dNext))
def rd_is_sum_told (c : Wc) : TSD := (dSeq (dIf (dOr (dNot (dApp (c2D (isiD subK)) (dCons (dVar 1) (dCons (dC (.raw (.ty "tuple"))) dNil)))) (dOr (dBin (iiD (fun _ _ => True) fun i j => .bl (decide (j < i))) (dApp (c1D lenD) (dCons (dVar 1) dNil)) (dC (.int 2000))) (dNot (dApp (c1D allD) (dCons (dLc false [2] (dSeqI (dVar 1)) (dgName 2) (dC (.bl true)) (dCall sp_is_term (dCons (dVar 2) (dCons (dVar 0) dNil)))) dNil))))) (dSeq (dRet (dC (.bl false))) dNext) dNext) (dSeq (dIf (dNot (dApp (c1D allD) (dCons (dLc false [2] (dSeqI (dVar 1)) (dgName 2) (dC (.bl true)) (dBin neD (dBin ixG (dVar 2) (dC (.int 1))) (dC (.int 0)))) dNil))) (dSeq (dRet (dC (.bl false))) dNext) dNext) (dSeq (dRet (dApp (c1D allD) (dCons (dLc false [3] (dRg1 (dBin (iiD (fun _ _ => True) fun i j => .int (i - j)) (dApp (c1D lenD) (dCons (dVar 1) dNil)) (dC (.int 1)))) (dgName 3) (dC (.bl true)) (dBin ltD (dBin ixG (dBin ixG (dVar 1) (dVar 3)) (dC (.int 0))) (dBin ixG (dBin ixG (dVar 1) (dBin (addD false) (dVar 3) (dC (.int 1)))) (dC (.int 0))))) dNil))) dNext)))
def rd_need_letters (c : Wc) : TSD := (dSeq (dDrop (dCall sp_need_between (dCons (dVar 0) (dCons (dC (.int 1)) (dCons (dC (.int 16)) (dCons (dC (.str "v")) dNil)))))) dNext)
def rd_need_sum (c : Wc) : TSD := (dSeq (dIf (dNot (dCall sp_is_sum_told (dCons (dVar 0) (dCons (dVar 1) dNil)))) (dSeq (dRaise 3 (dVar 2)) dNext) dNext) dNext)
def rd_collected (c : Wc) : TSD := (dSeq (dAsg (dNewD true true) (dgName 1)) (dSeq (dFor (dSeqI (dVar 0)) (dgTup 2 (dgCons (dgName 2) (dgCons (dgName 3) dgNil))) (dSeq (dPut (dVar 1) (dVar 2) (dBin (addD false) (dGet2 (dVar 1) (dVar 2) (dC (.int 0))) (dVar 3))) dNext)) (dSeq (dRet (dApp (c1D tupOfD) (dCons (dLc false [2] (dSeqI (dApp (c1D (sortD false)) (dCons (dVar 1) dNil))) (dgName 2) (dBin neD (dBin ixG (dVar 1) (dVar 2)) (dC (.int 0))) (dTup (dCons (dVar 2) (dCons (dBin ixG (dVar 1) (dVar 2)) dNil)))) dNil))) dNext)))
def rd_few_terms (c : Wc) : TSD := (dSeq (dDrop (dCall sp_need_few (dCons (dApp (c1D lenD) (dCons (dVar 0) dNil)) (dCons (dC (.int 2000)) dNil)))) (dSeq (dFor (dSeqI (dVar 0)) (dgTup 2 (dgCons (dgName 1) (dgCons (dgName 2) dgNil))) (dSeq (dDrop (dCall sp_need_digits (dCons (dVar 2) (dCons (dC (.int 4000)) dNil)))) (dSeq (dIf (dNot (dCall sp_is_small_row (dCons (dVar 1) dNil))) (dSeq (dRaise 2 (dC (.int 1000000000000))) dNext) dNext) dNext))) (dSeq (dRet (dVar 0)) dNext)))
def rd_letter_told (c : Wc) : TSD := (dSeq (dRet (dTup (dCons (dTup (dCons (dApp (c1D tupOfD) (dCons (dLc false [2] (dRg2 (dC (.int 1)) (dBin (addD false) (dVar 0) (dC (.int 1)))) (dgName 2) (dC (.bl true)) (dApp (c1D intD) (dCons (dBin eqD (dVar 2) (dVar 1)) dNil))) dNil)) (dCons (dC (.int 1)) dNil))) dNil))) dNext)
def rd_number_told (c : Wc) : TSD := (dSeq (dRet (dIfE (dBin neD (dVar 1) (dC (.int 0))) (dTup (dCons (dTup (dCons (dBin mulD (dTup (dCons (dC (.int 0)) dNil)) (dVar 0)) (dCons (dVar 1) dNil))) dNil)) (dTup dNil))) dNext)
def rd_is_sum (c : Wc) : TSD := (dSeq (dDrop (dCall sp_need_letters (dCons (dVar 0) dNil))) (dSeq (dRet (dCall sp_is_sum_told (dCons (dVar 0) (dCons (dVar 1) dNil)))) dNext))
def rd_letter_sum (c : Wc) : TSD := (dSeq (dDrop (dCall sp_need_letters (dCons (dVar 0) dNil))) (dSeq (dDrop (dCall sp_need_between (dCons (dVar 1) (dCons (dC (.int 1)) (dCons (dVar 0) (dCons (dC (.str "k")) dNil)))))) (dSeq (dRet (dCall sp_letter_told (dCons (dVar 0) (dCons (dVar 1) dNil)))) dNext)))
def rd_number_sum (c : Wc) : TSD := (dSeq (dDrop (dCall sp_need_letters (dCons (dVar 0) dNil))) (dSeq (dIf (dNot (dCall sp_is_number (dCons (dVar 1) dNil))) (dSeq (dRaise 1 (dC (.str "number"))) dNext) dNext) (dSeq (dRet (dCall sp_few_terms (dCons (dCall sp_number_told (dCons (dVar 0) (dCons (dVar 1) dNil))) dNil))) dNext)))
def rd_sum_of (c : Wc) : TSD := (dSeq (dDrop (dCall sp_need_letters (dCons (dVar 0) dNil))) (dSeq (dIf (dOr (dNot (dApp (c2D (isiD subK)) (dCons (dVar 1) (dCons (dC (.raw (.ty "tuple"))) dNil)))) (dNot (dApp (c1D allD) (dCons (dLc false [2] (dSeqI (dVar 1)) (dgName 2) (dC (.bl true)) (dCall sp_is_term (dCons (dVar 2) (dCons (dVar 0) dNil)))) dNil)))) (dSeq (dRaise 3 (dC (.str "pairs"))) dNext) dNext) (dSeq (dRet (dCall sp_few_terms (dCons (dCall sp_collected (dCons (dVar 1) dNil)) dNil))) dNext)))
def rd_least_told (c : Wc) : TSD := (dSeq (dRet (dApp (c1D tupOfD) (dCons (dLc false [2] (dRg1 (dApp (c1D lenD) (dCons (dBin ixG (dBin ixG (dVar 0) (dC (.int 0))) (dC (.int 0))) dNil))) (dgName 2) (dC (.bl true)) (dApp (fun xs M q => c1D minD xs M q ∨ c2D min2D xs M q) (dCons (dLc false [1] (dSeqI (dVar 0)) (dgName 1) (dC (.bl true)) (dBin ixG (dBin ixG (dVar 1) (dC (.int 0))) (dVar 2))) dNil))) dNil))) dNext)
def rd_greatest_told (c : Wc) : TSD := (dSeq (dRet (dApp (c1D tupOfD) (dCons (dLc false [2] (dRg1 (dApp (c1D lenD) (dCons (dBin ixG (dBin ixG (dVar 0) (dC (.int 0))) (dC (.int 0))) dNil))) (dgName 2) (dC (.bl true)) (dApp (fun xs M q => c1D maxD xs M q ∨ c2D max2D xs M q) (dCons (dLc false [1] (dSeqI (dVar 0)) (dgName 1) (dC (.bl true)) (dBin ixG (dBin ixG (dVar 1) (dC (.int 0))) (dVar 2))) dNil))) dNil))) dNext)
def rd_need_some_sum (c : Wc) : TSD := (dSeq (dDrop (dCall sp_need_sum (dCons (dVar 0) (dCons (dVar 1) (dCons (dVar 2) dNil))))) (dSeq (dIf (dBin eqD (dVar 1) (dTup dNil)) (dSeq (dRaise 3 (dVar 2)) dNext) dNext) dNext))
def rd_least_exponents (c : Wc) : TSD := (dSeq (dDrop (dCall sp_need_letters (dCons (dVar 0) dNil))) (dSeq (dDrop (dCall sp_need_some_sum (dCons (dVar 0) (dCons (dVar 1) (dCons (dC (.str "one")) dNil))))) (dSeq (dRet (dCall sp_least_told (dCons (dVar 1) dNil))) dNext)))
def rd_greatest_exponents (c : Wc) : TSD := (dSeq (dDrop (dCall sp_need_letters (dCons (dVar 0) dNil))) (dSeq (dDrop (dCall sp_need_some_sum (dCons (dVar 0) (dCons (dVar 1) (dCons (dC (.str "one")) dNil))))) (dSeq (dRet (dCall sp_greatest_told (dCons (dVar 1) dNil))) dNext)))
def rd__law_begun (c : Wc) : TSD := (dSeq (dAsg (dLc true [2] (dSeqI (dVar 0)) (dgName 2) (dBin (iiD (fun _ _ => True) fun i j => .bl (decide (j ≤ i))) (dApp (c1D absD) (dCons (dVar 2) dNil)) (dBin (iiD CPow fun i j => .int (i ^ j.toNat)) (dC (.int 10)) (dC (.int 18)))) (dBin (iiD (fun _ _ => True) fun i j => .int (i - j)) (dApp (c1D absD) (dCons (dVar 2) dNil)) (dBin (iiD CPow fun i j => .int (i ^ j.toNat)) (dC (.int 10)) (dC (.int 18))))) (dgName 1)) (dSeq (dRet (dDispK true [((dC (.str "large")), (dVar 1)), ((dC (.str "cells")), (dLc false [2] (dSeqI (dVar 0)) (dgName 2) (dC (.bl true)) (dApp (c1D absD) (dCons (dVar 2) dNil)))), ((dC (.str "rest")), (dC (.int 0))), ((dC (.str "turn")), (dC (.int 0)))])) dNext))
def rd__law_blend (c : Wc) : TSD := (dSeq (dPar 1 2 (dCons (dBin (addD false) (dBin ixG (dVar 0) (dC (.str "turn"))) (dC (.int 1))) (dCons (dC (.int 0)) dNil))) (dSeq (dPut (dVar 0) (dC (.str "turn")) (dVar 1)) (dSeq (dFor (dSeqI (dLst false (dCons (dC (.int 2147483629)) (dCons (dC (.int 2147483587)) (dCons (dC (.int 2147483579)) dNil))))) (dgName 3) (dSeq (dAsg (dBin (iiD (fun _ j => 0 < j) fun i j => .int (i % j)) (dApp (c1D intD) (dCons (dBin (addD false) (dBin mulD (dVar 1) (dC (.int 69621))) (dBin (iiD CDivW fun i j => .int (i / j)) (dVar 3) (dC (.int 13)))) dNil)) (dVar 3)) (dgName 4)) (dSeq (dFor (dSeqI (dBin ixG (dVar 0) (dC (.str "cells")))) (dgName 5) (dSeq (dAsg (dBin (iiD (fun _ j => 0 < j) fun i j => .int (i % j)) (dApp (c1D intD) (dCons (dBin (addD false) (dBin (addD false) (dBin mulD (dVar 4) (dC (.int 48271))) (dApp (c1D intD) (dCons (dVar 5) dNil))) (dC (.int 5))) dNil)) (dVar 3)) (dgName 4)) dNext)) (dSeq (dAsg (dBin (addD false) (dBin mulD (dVar 2) (dC (.int 2147483647))) (dBin (iiD (fun _ j => 0 < j) fun i j => .int (i % j)) (dApp (c1D intD) (dCons (dBin (iiD CPow fun i j => .int (i ^ j.toNat)) (dVar 4) (dC (.int 5))) dNil)) (dVar 3))) (dgName 2)) dNext)))) (dSeq (dRet (dVar 2)) dNext))))
def rd__law_take (c : Wc) : TSD := (dSeq (dWhile (dAnd (dBin eqD (dBin ixG (dVar 0) (dC (.str "rest"))) (dC (.int 0))) (dBin neD (dBin ixG (dVar 0) (dC (.str "large"))) (dLst false dNil))) (dSeq (dPut (dVar 0) (dC (.str "rest")) (dMt "list" popD (dBin ixG (dVar 0) (dC (.str "large"))) (dCons (dC (.int 0)) dNil))) dNext)) (dSeq (dIf (dBin eqD (dBin ixG (dVar 0) (dC (.str "rest"))) (dC (.int 0))) (dSeq (dPut (dVar 0) (dC (.str "rest")) (dCall sp__law_blend (dCons (dVar 0) dNil))) dNext) dNext) (dSeq (dAsg (dBin (iiD (fun _ j => 0 < j) fun i j => .int (i % j)) (dApp (c1D intD) (dCons (dBin ixG (dVar 0) (dC (.str "rest"))) dNil)) (dVar 1)) (dgName 2)) (dSeq (dPut (dVar 0) (dC (.str "rest")) (dBin (iiD CDivW fun i j => .int (i / j)) (dApp (c1D intD) (dCons (dBin ixG (dVar 0) (dC (.str "rest"))) dNil)) (dVar 1))) (dSeq (dRet (dVar 2)) dNext)))))
def rd__law_pick (c : Wc) : TSD := (dSeq (dRet (dBin ixG (dVar 1) (dCall sp__law_take (dCons (dVar 0) (dCons (dApp (c1D lenD) (dCons (dVar 1) dNil)) dNil))))) dNext)
def rd__law_same (c : Wc) : TSD := (dSeq (dRet (dBin eqD (dApp (c1D reprD) (dCons (dVar 0) dNil)) (dApp (c1D reprD) (dCons (dVar 1) dNil)))) dNext)
def rd__law_sum (c : Wc) : TSD := (dSeq (dRet (dApp (c1D tupOfD) (dCons (dLc false [1] (dSeqI (dApp (c1D (sortD false)) (dCons (dVar 0) dNil))) (dgName 1) (dBin neD (dBin ixG (dVar 0) (dVar 1)) (dC (.int 0))) (dTup (dCons (dVar 1) (dCons (dBin ixG (dVar 0) (dVar 1)) dNil)))) dNil))) dNext)
def rd__law_number (c : Wc) : TSD := (dSeq (dRet (dIfE (dBin neD (dVar 1) (dC (.int 0))) (dDispT false (dBin mulD (dTup (dCons (dC (.int 0)) dNil)) (dVar 0)) (dVar 1)) (dNewD false true))) dNext)
def rd__law_letter (c : Wc) : TSD := (dSeq (dRet (dDispT false (dApp (c1D tupOfD) (dCons (dLc false [2] (dRg1 (dVar 0)) (dgName 2) (dC (.bl true)) (dIfE (dBin eqD (dVar 2) (dVar 1)) (dC (.int 1)) (dC (.int 0)))) dNil)) (dC (.int 1)))) dNext)
def rd__law_drawn (c : Wc) : TSD := (dSeq (dAsg (dNewD true true) (dgName 5)) (dSeq (dFor (dRg1 (dCall sp__law_take (dCons (dVar 0) (dCons (dBin (addD false) (dVar 2) (dC (.int 1))) dNil)))) (dgName 6) (dSeq (dAsg (dApp (c1D tupOfD) (dCons (dLc false [8] (dRg1 (dVar 1)) (dgName 8) (dC (.bl true)) (dBin (addD false) (dVar 3) (dCall sp__law_take (dCons (dVar 0) (dCons (dBin (addD false) (dBin (iiD (fun _ _ => True) fun i j => .int (i - j)) (dVar 4) (dVar 3)) (dC (.int 1))) dNil))))) dNil)) (dgName 7)) (dSeq (dPut (dVar 5) (dVar 7) (dCall sp__law_pick (dCons (dVar 0) (dCons (dLst false (dCons (dC (.int 1)) (dCons (dC (.int 1)) (dCons (dC (.int 2)) (dCons (dUn negD (dC (.int 1))) (dCons (dC (.int 3)) (dCons (dUn negD (dC (.int 2))) (dCons (dC (.int 5)) (dCons (dBin (iiD CPow fun i j => .int (i ^ j.toNat)) (dC (.int 10)) (dC (.int 12))) dNil))))))))) dNil)))) dNext))) (dSeq (dRet (dVar 5)) dNext)))
def rd__law_is_sum_here (c : Wc) : TSD := (dSeq (dIf (dOr (dNot (dApp (c2D (isiD subK)) (dCons (dVar 1) (dCons (dC (.raw (.ty "tuple"))) dNil)))) (dBin (iiD (fun _ _ => True) fun i j => .bl (decide (j < i))) (dApp (c1D lenD) (dCons (dVar 1) dNil)) (dC (.int 2000)))) (dSeq (dRet (dC (.bl false))) dNext) dNext) (dSeq (dFor (dSeqI (dVar 1)) (dgName 2) (dSeq (dIf (dOr (dNot (dApp (c2D (isiD subK)) (dCons (dVar 2) (dCons (dC (.raw (.ty "tuple"))) dNil)))) (dOr (dBin neD (dApp (c1D lenD) (dCons (dVar 2) dNil)) (dC (.int 2))) (dOr (dNot (dApp (c2D (isiD subK)) (dCons (dBin ixG (dVar 2) (dC (.int 0))) (dCons (dC (.raw (.ty "tuple"))) dNil)))) (dBin neD (dApp (c1D lenD) (dCons (dBin ixG (dVar 2) (dC (.int 0))) dNil)) (dVar 0))))) (dSeq (dRet (dC (.bl false))) dNext) dNext) (dSeq (dIf (dOr (dBin neD (dLc false [3] (dSeqI (dBin (addD false) (dBin ixG (dVar 2) (dC (.int 0))) (dTup (dCons (dBin ixG (dVar 2) (dC (.int 1))) dNil)))) (dgName 3) (dOr (dNot (dApp (c2D (isiD subK)) (dCons (dVar 3) (dCons (dC (.raw (.ty "int"))) dNil)))) (dApp (c2D (isiD subK)) (dCons (dVar 3) (dCons (dC (.raw (.ty "bool"))) dNil)))) (dC (.int 1))) (dLst false dNil)) (dBin eqD (dBin ixG (dVar 2) (dC (.int 1))) (dC (.int 0)))) (dSeq (dRet (dC (.bl false))) dNext) dNext) dNext))) (dSeq (dRet (dBin eqD (dLc false [4] (dRg1 (dBin (iiD (fun _ _ => True) fun i j => .int (i - j)) (dApp (c1D lenD) (dCons (dVar 1) dNil)) (dC (.int 1)))) (dgName 4) (dNot (dBin ltD (dBin ixG (dBin ixG (dVar 1) (dVar 4)) (dC (.int 0))) (dBin ixG (dBin ixG (dVar 1) (dBin (addD false) (dVar 4) (dC (.int 1)))) (dC (.int 0))))) (dC (.int 1))) (dLst false dNil))) dNext)))
def st_law_220 (c : Wc) : TSD := (dRet (dClo sp__law_is_bad_number (dCall sp_number_sum (dCons (dC (.int 2)) (dCons (dCall sp__law_pick (dCons (dVar 1) (dCons (dLst false (dCons (dC .non) (dCons (dC (.bl true)) (dCons (dC (.str "1")) dNil)))) dNil))) dNil))) (dCons (dC (.str "number")) dNil)))
def st_law_218 (c : Wc) : TSD := (dIf (dNot (dClo sp__law_is_bad_sum (dCall sp_least_exponents (dCons (dC (.int 2)) (dCons (dCall sp__law_pick (dCons (dVar 1) (dCons (dLst false (dCons (dTup dNil) (dCons (dC .non) (dCons (dTup (dCons (dTup (dCons (dTup (dCons (dC (.int 0)) (dCons (dC (.int 0)) dNil))) (dCons (dC (.int 0)) dNil))) dNil)) dNil)))) dNil))) dNil))) (dCons (dC (.str "one")) dNil))) (dSeq (dRet (dC (.bl false))) dNext) dNext)
def st_law_216 (c : Wc) : TSD := (dIf (dNot (dClo sp__law_is_bad_sum (dCall sp_sum_of (dCons (dC (.int 2)) (dCons (dCall sp__law_pick (dCons (dVar 1) (dCons (dLst false (dCons (dC .non) (dCons (dLst false (dCons (dTup (dCons (dTup (dCons (dC (.int 0)) (dCons (dC (.int 0)) dNil))) (dCons (dC (.int 1)) dNil))) dNil)) (dCons (dTup (dCons (dTup (dCons (dTup (dCons (dC (.int 0)) dNil)) (dCons (dC (.int 1)) dNil))) dNil)) (dCons (dTup (dCons (dTup (dCons (dTup (dCons (dC (.int 0)) (dCons (dC (.int 0)) dNil))) (dCons (dC (.bl true)) dNil))) dNil)) dNil))))) dNil))) dNil))) (dCons (dC (.str "pairs")) dNil))) (dSeq (dRet (dC (.bl false))) dNext) dNext)
def st_law_214 (c : Wc) : TSD := (dIf (dNot (dClo sp__law_is_bad_number (dCall sp_letter_sum (dCons (dC (.int 2)) (dCons (dCall sp__law_pick (dCons (dVar 1) (dCons (dLst false (dCons (dC (.int 0)) (dCons (dC (.int 3)) (dCons (dC .non) (dCons (dC (.bl true)) dNil))))) dNil))) dNil))) (dCons (dC (.str "k")) dNil))) (dSeq (dRet (dC (.bl false))) dNext) dNext)
def st_law_212 (c : Wc) : TSD := (dIf (dNot (dClo sp__law_is_bad_number (dCall sp_is_sum (dCons (dVar 17) (dCons (dC .non) dNil))) (dCons (dC (.str "v")) dNil))) (dSeq (dRet (dC (.bl false))) dNext) dNext)
def st_law_211 (c : Wc) : TSD := (dAsg (dCall sp__law_pick (dCons (dVar 1) (dCons (dLst false (dCons (dC .non) (dCons (dC (.int 0)) (dCons (dC (.int 17)) (dCons (dC (.bl true)) (dCons (dC (.str "1")) dNil)))))) dNil))) (dgName 17))
def st_law_209 (c : Wc) : TSD := (dIf (dOr (dAnd (dBin (iiD (fun _ _ => True) fun i j => .bl (decide (j < i))) (dApp (c1D lenD) (dCons (dVar 16) dNil)) (dC (.int 2000))) (dNot (dClo sp__law_is_too_many (dCall sp_sum_of (dCons (dC (.int 1)) (dCons (dVar 16) dNil))) (dCons (dC (.int 2000)) dNil)))) (dAnd (dBin eqD (dApp (c1D lenD) (dCons (dVar 16) dNil)) (dC (.int 2000))) (dBin neD (dCall sp_sum_of (dCons (dC (.int 1)) (dCons (dRev false (dVar 16)) dNil))) (dVar 16)))) (dSeq (dRet (dC (.bl false))) dNext) dNext)
def st_law_207 (c : Wc) : TSD := (dIf (dBin neD (dCall sp_is_sum (dCons (dC (.int 1)) (dCons (dVar 16) dNil))) (dBin eqD (dApp (c1D lenD) (dCons (dVar 16) dNil)) (dC (.int 2000)))) (dSeq (dRet (dC (.bl false))) dNext) dNext)
def st_law_206 (c : Wc) : TSD := (dAsg (dApp (c1D tupOfD) (dCons (dLc false [9] (dRg1 (dBin (addD false) (dC (.int 2000)) (dCall sp__law_take (dCons (dVar 1) (dCons (dC (.int 2)) dNil))))) (dgName 9) (dC (.bl true)) (dTup (dCons (dTup (dCons (dVar 9) dNil)) (dCons (dC (.int 1)) dNil)))) dNil)) (dgName 16))
def st_law_202 (c : Wc) : TSD := (dIf (dBin neD (dVar 4) (dTup dNil)) (dSeq (dAsg (dLc false [11, 12] (dSeqI (dVar 4)) (dgTup 2 (dgCons (dgName 11) (dgCons (dgName 12) dgNil))) (dC (.bl true)) (dVar 11)) (dgName 14)) (dSeq (dIf (dOr (dBin neD (dCall sp_least_exponents (dCons (dVar 3) (dCons (dVar 4) dNil))) (dApp (c1D tupOfD) (dCons (dLc false [15] (dRg1 (dVar 3)) (dgName 15) (dC (.bl true)) (dApp (fun xs M q => c1D minD xs M q ∨ c2D min2D xs M q) (dCons (dLc false [5] (dSeqI (dVar 14)) (dgName 5) (dC (.bl true)) (dBin ixG (dVar 5) (dVar 15))) dNil))) dNil))) (dBin neD (dCall sp_greatest_exponents (dCons (dVar 3) (dCons (dVar 4) dNil))) (dApp (c1D tupOfD) (dCons (dLc false [15] (dRg1 (dVar 3)) (dgName 15) (dC (.bl true)) (dApp (fun xs M q => c1D maxD xs M q ∨ c2D max2D xs M q) (dCons (dLc false [5] (dSeqI (dVar 14)) (dgName 5) (dC (.bl true)) (dBin ixG (dVar 5) (dVar 15))) dNil))) dNil)))) (dSeq (dRet (dC (.bl false))) dNext) dNext) dNext)) dNext)
def st_law_200 (c : Wc) : TSD := (dIf (dNot (dCall sp__law_same (dCons (dCall sp_number_sum (dCons (dVar 3) (dCons (dVar 13) dNil))) (dCons (dCall sp__law_sum (dCons (dCall sp__law_number (dCons (dVar 3) (dCons (dVar 13) dNil))) dNil)) dNil)))) (dSeq (dRet (dC (.bl false))) dNext) dNext)
def st_law_199 (c : Wc) : TSD := (dAsg (dCall sp__law_pick (dCons (dVar 1) (dCons (dLst false (dCons (dC (.int 0)) (dCons (dC (.int 1)) (dCons (dUn negD (dC (.int 7))) (dCons (dBin (iiD CPow fun i j => .int (i ^ j.toNat)) (dC (.int 10)) (dC (.int 40))) dNil))))) dNil))) (dgName 13))
def st_law_197 (c : Wc) : TSD := (dIf (dOr (dNot (dCall sp__law_same (dCons (dCall sp_sum_of (dCons (dVar 3) (dCons (dApp (c1D tupOfD) (dCons (dVar 8) dNil)) dNil))) (dCons (dCall sp__law_sum (dCons (dVar 10) dNil)) dNil)))) (dNot (dCall sp__law_same (dCons (dCall sp_letter_sum (dCons (dVar 3) (dCons (dVar 3) dNil))) (dCons (dCall sp__law_sum (dCons (dCall sp__law_letter (dCons (dVar 3) (dCons (dBin (iiD (fun _ _ => True) fun i j => .int (i - j)) (dVar 3) (dC (.int 1))) dNil))) dNil)) dNil))))) (dSeq (dRet (dC (.bl false))) dNext) dNext)
def st_law_194 (c : Wc) : TSD := (dAsg (dNewD true true) (dgName 10))
def st_law_193 (c : Wc) : TSD := (dAsg (dLc false [9] (dRg1 (dCall sp__law_take (dCons (dVar 1) (dCons (dC (.int 9)) dNil)))) (dgName 9) (dC (.bl true)) (dCall sp__law_pick (dCons (dVar 1) (dCons (dBin (addD false) (dApp (c1D (lstOfD false)) (dCons (dVar 4) dNil)) (dLst false (dCons (dTup (dCons (dVar 5) (dCons (dC (.int 3)) dNil))) (dCons (dTup (dCons (dVar 5) (dCons (dUn negD (dC (.int 3))) dNil))) dNil)))) dNil)))) (dgName 8))
def st_law_191 (c : Wc) : TSD := (dIf (dBin neD (dCall sp_is_sum (dCons (dVar 3) (dCons (dVar 7) dNil))) (dCall sp__law_is_sum_here (dCons (dVar 3) (dCons (dVar 7) dNil)))) (dSeq (dRet (dC (.bl false))) dNext) dNext)
def st_law_190 (c : Wc) : TSD := (dAsg (dCall sp__law_pick (dCons (dVar 1) (dCons (dVar 6) dNil))) (dgName 7))
def st_law_189 (c : Wc) : TSD := (dAsg (dLst false (dCons (dApp (c1D (lstOfD false)) (dCons (dVar 4) dNil)) (dCons (dBin (addD false) (dVar 4) (dTup (dCons (dTup (dCons (dVar 5) (dCons (dC (.int 0)) dNil))) dNil))) (dCons (dBin (addD false) (dVar 4) (dVar 4)) (dCons (dRev false (dVar 4)) (dCons (dBin (addD false) (dVar 4) (dTup (dCons (dTup (dCons (dBin (addD false) (dVar 5) (dTup (dCons (dC (.int 1)) dNil))) (dCons (dC (.int 1)) dNil))) dNil))) (dCons (dBin (addD false) (dVar 4) (dTup (dCons (dTup (dCons (dApp (c1D (lstOfD false)) (dCons (dVar 5) dNil)) (dCons (dC (.int 1)) dNil))) dNil))) (dCons (dBin (addD false) (dVar 4) (dTup (dCons (dTup (dCons (dVar 5) (dCons (dC (.bl true)) dNil))) dNil))) (dCons (dBin (addD false) (dVar 4) (dTup (dCons (dTup (dCons (dVar 5) dNil)) dNil))) (dCons (dC .non) (dCons (dC (.int 5)) (dCons (dTup (dCons (dTup (dCons (dVar 5) (dCons (dC (.int 1)) dNil))) (dCons (dTup (dCons (dVar 5) (dCons (dC (.int 1)) dNil))) dNil))) (dCons (dTup (dCons (dTup (dCons (dBin mulD (dTup (dCons (dC (.bl true)) dNil)) (dVar 3)) (dCons (dC (.int 1)) dNil))) dNil)) dNil))))))))))))) (dgName 6))
def st_law_188 (c : Wc) : TSD := (dAsg (dBin mulD (dTup (dCons (dC (.int 0)) dNil)) (dVar 3)) (dgName 5))
def st_law_186 (c : Wc) : TSD := (dIf (dBin isNotD (dCall sp_is_sum (dCons (dVar 3) (dCons (dVar 4) dNil))) (dC (.bl true))) (dSeq (dRet (dC (.bl false))) dNext) dNext)
def st_law_185 (c : Wc) : TSD := (dAsg (dCall sp__law_sum (dCons (dCall sp__law_drawn (dCons (dVar 1) (dCons (dVar 3) (dCons (dC (.int 6)) (dCons (dUn negD (dC (.int 2))) (dCons (dC (.int 3)) dNil)))))) dNil)) (dgName 4))
def st_law_184 (c : Wc) : TSD := (dAsg (dBin (addD false) (dC (.int 1)) (dCall sp__law_take (dCons (dVar 1) (dCons (dC (.int 5)) dNil)))) (dgName 3))
def st_law_182 (c : Wc) : TSD := (dAsg (dCall sp__law_begun (dCons (dVar 0) dNil)) (dgName 1))
def rd_law (c : Wc) : TSD := (dSeq (st_law_182 c) (dSeq (dFor (dRg1 (dBin (addD false) (dC (.int 6)) (dApp (fun xs M q => c1D minD xs M q ∨ c2D min2D xs M q) (dCons (dApp (c1D lenD) (dCons (dVar 0) dNil)) (dCons (dC (.int 6)) dNil))))) (dgName 2) (dSeq (st_law_184 c) (dSeq (st_law_185 c) (dSeq (st_law_186 c) (dSeq (st_law_188 c) (dSeq (st_law_189 c) (dSeq (st_law_190 c) (dSeq (st_law_191 c) (dSeq (st_law_193 c) (dSeq (st_law_194 c) (dSeq (dFor (dSeqI (dVar 8)) (dgTup 2 (dgCons (dgName 11) (dgCons (dgName 12) dgNil))) (dSeq (dPut (dVar 10) (dVar 11) (dBin (addD false) (dIfE (dBin inD (dVar 11) (dVar 10)) (dBin ixG (dVar 10) (dVar 11)) (dC (.int 0))) (dVar 12))) dNext)) (dSeq (st_law_197 c) (dSeq (st_law_199 c) (dSeq (st_law_200 c) (dSeq (st_law_202 c) dNext))))))))))))))) (dSeq (st_law_206 c) (dSeq (st_law_207 c) (dSeq (st_law_209 c) (dSeq (st_law_211 c) (dSeq (st_law_212 c) (dSeq (st_law_214 c) (dSeq (st_law_216 c) (dSeq (st_law_218 c) (dSeq (st_law_220 c) dNext)))))))))))
def rd__law_is_bad_number (c : Wc) : TSD := (dSeq (dRet (dAnd (dApp (c2D (isiD subK)) (dCons (dVar 2) (dCons (dC (.cls 1)) dNil))) (dCall sp__law_same (dCons (dUn (fldD c "part") (dVar 2)) (dCons (dVar 1) dNil))))) dNext)
def rd__law_is_bad_sum (c : Wc) : TSD := (dSeq (dRet (dAnd (dApp (c2D (isiD subK)) (dCons (dVar 2) (dCons (dC (.cls 3)) dNil))) (dCall sp__law_same (dCons (dUn (fldD c "part") (dVar 2)) (dCons (dVar 1) dNil))))) dNext)
def rd__law_is_too_many (c : Wc) : TSD := (dSeq (dRet (dAnd (dApp (c2D (isiD subK)) (dCons (dVar 2) (dCons (dC (.cls 2)) dNil))) (dCall sp__law_same (dCons (dUn (fldD c "most") (dVar 2)) (dCons (dVar 1) dNil))))) dNext)
theorem len__law_begun : ∀ ds M q x, sp__law_begun ds M q x → ds.length = 1 := by intro ds M q x h; simp only [sp__law_begun] at h; split at h <;> first | rfl | exact h.elim
theorem len__law_blend : ∀ ds M q x, sp__law_blend ds M q x → ds.length = 1 := by intro ds M q x h; simp only [sp__law_blend] at h; split at h <;> first | rfl | exact h.elim
theorem len__law_drawn : ∀ ds M q x, sp__law_drawn ds M q x → ds.length = 5 := by intro ds M q x h; simp only [sp__law_drawn] at h; split at h <;> first | rfl | exact h.elim
theorem len__law_is_sum_here : ∀ ds M q x, sp__law_is_sum_here ds M q x → ds.length = 2 := by intro ds M q x h; simp only [sp__law_is_sum_here] at h; split at h <;> first | rfl | exact h.elim
theorem len__law_letter : ∀ ds M q x, sp__law_letter ds M q x → ds.length = 2 := by intro ds M q x h; simp only [sp__law_letter] at h; split at h <;> first | rfl | exact h.elim
theorem len__law_number : ∀ ds M q x, sp__law_number ds M q x → ds.length = 2 := by intro ds M q x h; simp only [sp__law_number] at h; split at h <;> first | rfl | exact h.elim
theorem len__law_pick : ∀ ds M q x, sp__law_pick ds M q x → ds.length = 2 := by intro ds M q x h; simp only [sp__law_pick] at h; split at h <;> first | rfl | exact h.elim
theorem len__law_same : ∀ ds M q x, sp__law_same ds M q x → ds.length = 2 := by intro ds M q x h; simp only [sp__law_same] at h; split at h <;> first | rfl | exact h.elim
theorem len__law_sum : ∀ ds M q x, sp__law_sum ds M q x → ds.length = 1 := by intro ds M q x h; simp only [sp__law_sum] at h; split at h <;> first | rfl | exact h.elim
theorem len__law_take : ∀ ds M q x, sp__law_take ds M q x → ds.length = 2 := by intro ds M q x h; simp only [sp__law_take] at h; split at h <;> first | rfl | exact h.elim
theorem len_collected : ∀ ds M q x, sp_collected ds M q x → ds.length = 1 := by intro ds M q x h; simp only [sp_collected] at h; split at h <;> first | rfl | exact h.elim
theorem len_few_terms : ∀ ds M q x, sp_few_terms ds M q x → ds.length = 1 := by intro ds M q x h; simp only [sp_few_terms] at h; split at h <;> first | rfl | exact h.elim
theorem len_greatest_exponents : ∀ ds M q x, sp_greatest_exponents ds M q x → ds.length = 2 := by intro ds M q x h; simp only [sp_greatest_exponents] at h; split at h <;> first | rfl | exact h.elim
theorem len_greatest_told : ∀ ds M q x, sp_greatest_told ds M q x → ds.length = 1 := by intro ds M q x h; simp only [sp_greatest_told] at h; split at h <;> first | rfl | exact h.elim
theorem len_is_between : ∀ ds M q x, sp_is_between ds M q x → ds.length = 3 := by intro ds M q x h; simp only [sp_is_between] at h; split at h <;> first | rfl | exact h.elim
theorem len_is_long : ∀ ds M q x, sp_is_long ds M q x → ds.length = 2 := by intro ds M q x h; simp only [sp_is_long] at h; split at h <;> first | rfl | exact h.elim
theorem len_is_number : ∀ ds M q x, sp_is_number ds M q x → ds.length = 1 := by intro ds M q x h; simp only [sp_is_number] at h; split at h <;> first | rfl | exact h.elim
theorem len_is_row : ∀ ds M q x, sp_is_row ds M q x → ds.length = 2 := by intro ds M q x h; simp only [sp_is_row] at h; split at h <;> first | rfl | exact h.elim
theorem len_is_small_row : ∀ ds M q x, sp_is_small_row ds M q x → ds.length = 1 := by intro ds M q x h; simp only [sp_is_small_row] at h; split at h <;> first | rfl | exact h.elim
theorem len_is_sum : ∀ ds M q x, sp_is_sum ds M q x → ds.length = 2 := by intro ds M q x h; simp only [sp_is_sum] at h; split at h <;> first | rfl | exact h.elim
theorem len_is_sum_told : ∀ ds M q x, sp_is_sum_told ds M q x → ds.length = 2 := by intro ds M q x h; simp only [sp_is_sum_told] at h; split at h <;> first | rfl | exact h.elim
theorem len_is_term : ∀ ds M q x, sp_is_term ds M q x → ds.length = 2 := by intro ds M q x h; simp only [sp_is_term] at h; split at h <;> first | rfl | exact h.elim
theorem len_is_tuple : ∀ ds M q x, sp_is_tuple ds M q x → ds.length = 2 := by intro ds M q x h; simp only [sp_is_tuple] at h; split at h <;> first | rfl | exact h.elim
theorem len_law : ∀ ds M q x, sp_law ds M q x → ds.length = 1 := by intro ds M q x h; simp only [sp_law] at h; split at h <;> first | rfl | exact h.elim
theorem len_least_exponents : ∀ ds M q x, sp_least_exponents ds M q x → ds.length = 2 := by intro ds M q x h; simp only [sp_least_exponents] at h; split at h <;> first | rfl | exact h.elim
theorem len_least_told : ∀ ds M q x, sp_least_told ds M q x → ds.length = 1 := by intro ds M q x h; simp only [sp_least_told] at h; split at h <;> first | rfl | exact h.elim
theorem len_letter_sum : ∀ ds M q x, sp_letter_sum ds M q x → ds.length = 2 := by intro ds M q x h; simp only [sp_letter_sum] at h; split at h <;> first | rfl | exact h.elim
theorem len_letter_told : ∀ ds M q x, sp_letter_told ds M q x → ds.length = 2 := by intro ds M q x h; simp only [sp_letter_told] at h; split at h <;> first | rfl | exact h.elim
theorem len_need_between : ∀ ds M q x, sp_need_between ds M q x → ds.length = 4 := by intro ds M q x h; simp only [sp_need_between] at h; split at h <;> first | rfl | exact h.elim
theorem len_need_digits : ∀ ds M q x, sp_need_digits ds M q x → ds.length = 2 := by intro ds M q x h; simp only [sp_need_digits] at h; split at h <;> first | rfl | exact h.elim
theorem len_need_few : ∀ ds M q x, sp_need_few ds M q x → ds.length = 2 := by intro ds M q x h; simp only [sp_need_few] at h; split at h <;> first | rfl | exact h.elim
theorem len_need_letters : ∀ ds M q x, sp_need_letters ds M q x → ds.length = 1 := by intro ds M q x h; simp only [sp_need_letters] at h; split at h <;> first | rfl | exact h.elim
theorem len_need_some_sum : ∀ ds M q x, sp_need_some_sum ds M q x → ds.length = 3 := by intro ds M q x h; simp only [sp_need_some_sum] at h; split at h <;> first | rfl | exact h.elim
theorem len_need_sum : ∀ ds M q x, sp_need_sum ds M q x → ds.length = 3 := by intro ds M q x h; simp only [sp_need_sum] at h; split at h <;> first | rfl | exact h.elim
theorem len_number_sum : ∀ ds M q x, sp_number_sum ds M q x → ds.length = 2 := by intro ds M q x h; simp only [sp_number_sum] at h; split at h <;> first | rfl | exact h.elim
theorem len_number_told : ∀ ds M q x, sp_number_told ds M q x → ds.length = 2 := by intro ds M q x h; simp only [sp_number_told] at h; split at h <;> first | rfl | exact h.elim
theorem len_sum_of : ∀ ds M q x, sp_sum_of ds M q x → ds.length = 2 := by intro ds M q x h; simp only [sp_sum_of] at h; split at h <;> first | rfl | exact h.elim
theorem len_ten_up : ∀ ds M q x, sp_ten_up ds M q x → ds.length = 1 := by intro ds M q x h; simp only [sp_ten_up] at h; split at h <;> first | rfl | exact h.elim
end Law
namespace Law
open PySem PySem.Spec PyProof.Rows L2 LamX TL
theorem pl_is_number (c : Wc) : PL sp_is_number 1 (rd_is_number c) := by
  intro ds M q x b1 b2 h; simp only [sp_is_number] at h; split at h; case h_2 => exact h.elim
  rename_i d
  obtain ⟨h1, h⟩ := h
  cases d <;> simp [dSeq, dRet, dNext, dIf, dAnd, dOr, dNot, dIfE, dApp, dCons, dNil, dVar, dC, dBin, dUn, dCall, dChain, dRaise, dDrop, dAsg, dgName, dPar, dTup, dLst, startD, c1D, c2D, iiD, ltD, ixG, ixD, sqD, atI_0, atI_1, dget_tup, dget_lst, sp_is_number, sp_is_between, sp_is_tuple, sp_need_between, sp_need_few, sp_is_long, sp_need_digits, sp_is_row, sp_is_small_row, sp_is_term, sp_is_sum_told, sp_need_letters, sp_need_sum, sp_ten_up, pln] at h1 <;> simp [dSeq, dRet, dNext, dIf, dAnd, dOr, dNot, dIfE, dApp, dCons, dNil, dVar, dC, dBin, dUn, dCall, dChain, dRaise, dDrop, dAsg, dgName, dPar, dTup, dLst, startD, c1D, c2D, iiD, ltD, ixG, ixD, sqD, atI_0, atI_1, dget_tup, dget_lst, sp_is_number, sp_is_between, sp_is_tuple, sp_need_between, sp_need_few, sp_is_long, sp_need_digits, sp_is_row, sp_is_small_row, sp_is_term, sp_is_sum_told, sp_need_letters, sp_need_sum, sp_ten_up, rd_is_number, isiD, tyD, bsub, tyNames] <;> exact gcQ_here rfl b1 h
theorem pl_is_between (c : Wc) : PL sp_is_between 3 (rd_is_between c) := by
  intro ds M q x b1 b2 h; simp only [sp_is_between] at h; split at h; case h_2 => exact h.elim
  rename_i d lo hi
  obtain ⟨h1, h⟩ := h
  cases d <;> simp [dSeq, dRet, dNext, dIf, dAnd, dOr, dNot, dIfE, dApp, dCons, dNil, dVar, dC, dBin, dUn, dCall, dChain, dRaise, dDrop, dAsg, dgName, dPar, dTup, dLst, startD, c1D, c2D, iiD, ltD, ixG, ixD, sqD, atI_0, atI_1, dget_tup, dget_lst, sp_is_number, sp_is_between, sp_is_tuple, sp_need_between, sp_need_few, sp_is_long, sp_need_digits, sp_is_row, sp_is_small_row, sp_is_term, sp_is_sum_told, sp_need_letters, sp_need_sum, sp_ten_up, pln] at h1 <;> simp [dSeq, dRet, dNext, dIf, dAnd, dOr, dNot, dIfE, dApp, dCons, dNil, dVar, dC, dBin, dUn, dCall, dChain, dRaise, dDrop, dAsg, dgName, dPar, dTup, dLst, startD, c1D, c2D, iiD, ltD, ixG, ixD, sqD, atI_0, atI_1, dget_tup, dget_lst, sp_is_number, sp_is_between, sp_is_tuple, sp_need_between, sp_need_few, sp_is_long, sp_need_digits, sp_is_row, sp_is_small_row, sp_is_term, sp_is_sum_told, sp_need_letters, sp_need_sum, sp_ten_up, rd_is_between, pln, h1, isI] <;> try exact gcQ_here rfl b1 h
  rename_i i
  by_cases h2 : lo ≤ i
  · simp [dSeq, dRet, dNext, dIf, dAnd, dOr, dNot, dIfE, dApp, dCons, dNil, dVar, dC, dBin, dUn, dCall, dChain, dRaise, dDrop, dAsg, dgName, dPar, dTup, dLst, startD, c1D, c2D, iiD, ltD, ixG, ixD, sqD, atI_0, atI_1, dget_tup, dget_lst, sp_is_number, sp_is_between, sp_is_tuple, sp_need_between, sp_need_few, sp_is_long, sp_need_digits, sp_is_row, sp_is_small_row, sp_is_term, sp_is_sum_told, sp_need_letters, sp_need_sum, sp_ten_up, h2]; exact gcQ_here rfl b1 (by simpa [dSeq, dRet, dNext, dIf, dAnd, dOr, dNot, dIfE, dApp, dCons, dNil, dVar, dC, dBin, dUn, dCall, dChain, dRaise, dDrop, dAsg, dgName, dPar, dTup, dLst, startD, c1D, c2D, iiD, ltD, ixG, ixD, sqD, atI_0, atI_1, dget_tup, dget_lst, sp_is_number, sp_is_between, sp_is_tuple, sp_need_between, sp_need_few, sp_is_long, sp_need_digits, sp_is_row, sp_is_small_row, sp_is_term, sp_is_sum_told, sp_need_letters, sp_need_sum, sp_ten_up, btw, h2] using h)
  · simp [dSeq, dRet, dNext, dIf, dAnd, dOr, dNot, dIfE, dApp, dCons, dNil, dVar, dC, dBin, dUn, dCall, dChain, dRaise, dDrop, dAsg, dgName, dPar, dTup, dLst, startD, c1D, c2D, iiD, ltD, ixG, ixD, sqD, atI_0, atI_1, dget_tup, dget_lst, sp_is_number, sp_is_between, sp_is_tuple, sp_need_between, sp_need_few, sp_is_long, sp_need_digits, sp_is_row, sp_is_small_row, sp_is_term, sp_is_sum_told, sp_need_letters, sp_need_sum, sp_ten_up, h2]; exact gcQ_here rfl b1 (by simpa [dSeq, dRet, dNext, dIf, dAnd, dOr, dNot, dIfE, dApp, dCons, dNil, dVar, dC, dBin, dUn, dCall, dChain, dRaise, dDrop, dAsg, dgName, dPar, dTup, dLst, startD, c1D, c2D, iiD, ltD, ixG, ixD, sqD, atI_0, atI_1, dget_tup, dget_lst, sp_is_number, sp_is_between, sp_is_tuple, sp_need_between, sp_need_few, sp_is_long, sp_need_digits, sp_is_row, sp_is_small_row, sp_is_term, sp_is_sum_told, sp_need_letters, sp_need_sum, sp_ten_up, btw, h2] using h)
theorem pl_is_tuple (c : Wc) : PL sp_is_tuple 2 (rd_is_tuple c) := by
  intro ds M q x b1 b2 h; simp only [sp_is_tuple] at h; split at h; case h_2 => exact h.elim
  rename_i d n
  obtain ⟨h1, h⟩ := h
  cases d <;> simp [dSeq, dRet, dNext, dIf, dAnd, dOr, dNot, dIfE, dApp, dCons, dNil, dVar, dC, dBin, dUn, dCall, dChain, dRaise, dDrop, dAsg, dgName, dPar, dTup, dLst, startD, c1D, c2D, iiD, ltD, ixG, ixD, sqD, atI_0, atI_1, dget_tup, dget_lst, sp_is_number, sp_is_between, sp_is_tuple, sp_need_between, sp_need_few, sp_is_long, sp_need_digits, sp_is_row, sp_is_small_row, sp_is_term, sp_is_sum_told, sp_need_letters, sp_need_sum, sp_ten_up, pln] at h1 <;> simp [dSeq, dRet, dNext, dIf, dAnd, dOr, dNot, dIfE, dApp, dCons, dNil, dVar, dC, dBin, dUn, dCall, dChain, dRaise, dDrop, dAsg, dgName, dPar, dTup, dLst, startD, c1D, c2D, iiD, ltD, ixG, ixD, sqD, atI_0, atI_1, dget_tup, dget_lst, sp_is_number, sp_is_between, sp_is_tuple, sp_need_between, sp_need_few, sp_is_long, sp_need_digits, sp_is_row, sp_is_small_row, sp_is_term, sp_is_sum_told, sp_need_letters, sp_need_sum, sp_ten_up, rd_is_tuple, isiD, tyD, bsub, tyNames, lenD, eqD] <;> exact gcQ_here rfl b1 h
theorem pl_need_between (c : Wc) : PL sp_need_between 4 (rd_need_between c) := by
  intro ds M q x b1 b2 h; simp only [sp_need_between] at h; split at h; case h_2 => exact h.elim
  obtain ⟨h1, h⟩ := h
  rename_i d lo hi p
  simp [dSeq, dRet, dNext, dIf, dAnd, dOr, dNot, dIfE, dApp, dCons, dNil, dVar, dC, dBin, dUn, dCall, dChain, dRaise, dDrop, dAsg, dgName, dPar, dTup, dLst, startD, c1D, c2D, iiD, ltD, ixG, ixD, sqD, atI_0, atI_1, dget_tup, dget_lst, sp_is_number, sp_is_between, sp_is_tuple, sp_need_between, sp_need_few, sp_is_long, sp_need_digits, sp_is_row, sp_is_small_row, sp_is_term, sp_is_sum_told, sp_need_letters, sp_need_sum, sp_ten_up, rd_need_between, h1]
  by_cases h2 : btw d lo hi = true
  · simp [dSeq, dRet, dNext, dIf, dAnd, dOr, dNot, dIfE, dApp, dCons, dNil, dVar, dC, dBin, dUn, dCall, dChain, dRaise, dDrop, dAsg, dgName, dPar, dTup, dLst, startD, c1D, c2D, iiD, ltD, ixG, ixD, sqD, atI_0, atI_1, dget_tup, dget_lst, sp_is_number, sp_is_between, sp_is_tuple, sp_need_between, sp_need_few, sp_is_long, sp_need_digits, sp_is_row, sp_is_small_row, sp_is_term, sp_is_sum_told, sp_need_letters, sp_need_sum, sp_ten_up, h2] at h ⊢; exact gcQ_here rfl b1 h
  · simp [dSeq, dRet, dNext, dIf, dAnd, dOr, dNot, dIfE, dApp, dCons, dNil, dVar, dC, dBin, dUn, dCall, dChain, dRaise, dDrop, dAsg, dgName, dPar, dTup, dLst, startD, c1D, c2D, iiD, ltD, ixG, ixD, sqD, atI_0, atI_1, dget_tup, dget_lst, sp_is_number, sp_is_between, sp_is_tuple, sp_need_between, sp_need_few, sp_is_long, sp_need_digits, sp_is_row, sp_is_small_row, sp_is_term, sp_is_sum_told, sp_need_letters, sp_need_sum, sp_ten_up, h2] at h ⊢; exact gcX_here (by simp [dSeq, dRet, dNext, dIf, dAnd, dOr, dNot, dIfE, dApp, dCons, dNil, dVar, dC, dBin, dUn, dCall, dChain, dRaise, dDrop, dAsg, dgName, dPar, dTup, dLst, startD, c1D, c2D, iiD, ltD, ixG, ixD, sqD, atI_0, atI_1, dget_tup, dget_lst, sp_is_number, sp_is_between, sp_is_tuple, sp_need_between, sp_need_few, sp_is_long, sp_need_digits, sp_is_row, sp_is_small_row, sp_is_term, sp_is_sum_told, sp_need_letters, sp_need_sum, sp_ten_up, D.bdL] at b2 ⊢; exact b2.2.2.2) b1 h
theorem pl_need_few (c : Wc) : PL sp_need_few 2 (rd_need_few c) := by
  intro ds M q x b1 b2 h; simp only [sp_need_few] at h; split at h; case h_2 => exact h.elim
  rename_i n m
  simp [dSeq, dRet, dNext, dIf, dAnd, dOr, dNot, dIfE, dApp, dCons, dNil, dVar, dC, dBin, dUn, dCall, dChain, dRaise, dDrop, dAsg, dgName, dPar, dTup, dLst, startD, c1D, c2D, iiD, ltD, ixG, ixD, sqD, atI_0, atI_1, dget_tup, dget_lst, sp_is_number, sp_is_between, sp_is_tuple, sp_need_between, sp_need_few, sp_is_long, sp_need_digits, sp_is_row, sp_is_small_row, sp_is_term, sp_is_sum_told, sp_need_letters, sp_need_sum, sp_ten_up, rd_need_few]
  by_cases h2 : m < n
  · simp [dSeq, dRet, dNext, dIf, dAnd, dOr, dNot, dIfE, dApp, dCons, dNil, dVar, dC, dBin, dUn, dCall, dChain, dRaise, dDrop, dAsg, dgName, dPar, dTup, dLst, startD, c1D, c2D, iiD, ltD, ixG, ixD, sqD, atI_0, atI_1, dget_tup, dget_lst, sp_is_number, sp_is_between, sp_is_tuple, sp_need_between, sp_need_few, sp_is_long, sp_need_digits, sp_is_row, sp_is_small_row, sp_is_term, sp_is_sum_told, sp_need_letters, sp_need_sum, sp_ten_up, h2] at h ⊢; exact gcX_here rfl b1 h
  · simp [dSeq, dRet, dNext, dIf, dAnd, dOr, dNot, dIfE, dApp, dCons, dNil, dVar, dC, dBin, dUn, dCall, dChain, dRaise, dDrop, dAsg, dgName, dPar, dTup, dLst, startD, c1D, c2D, iiD, ltD, ixG, ixD, sqD, atI_0, atI_1, dget_tup, dget_lst, sp_is_number, sp_is_between, sp_is_tuple, sp_need_between, sp_need_few, sp_is_long, sp_need_digits, sp_is_row, sp_is_small_row, sp_is_term, sp_is_sum_told, sp_need_letters, sp_need_sum, sp_ten_up, h2] at h ⊢; exact gcQ_here rfl b1 h
theorem pow_cast (m : Nat) (n : Int) : decide ((10 : Int) ^ m ≤ (n.natAbs : Int)) = decide (10 ^ m ≤ n.natAbs) := by
  rw [decide_eq_decide]
  rw [← Int.ofNat_le]
  simp [dSeq, dRet, dNext, dIf, dAnd, dOr, dNot, dIfE, dApp, dCons, dNil, dVar, dC, dBin, dUn, dCall, dChain, dRaise, dDrop, dAsg, dgName, dPar, dTup, dLst, startD, c1D, c2D, iiD, ltD, ixG, ixD, sqD, atI_0, atI_1, dget_tup, dget_lst, sp_is_number, sp_is_between, sp_is_tuple, sp_need_between, sp_need_few, sp_is_long, sp_need_digits, sp_is_row, sp_is_small_row, sp_is_term, sp_is_sum_told, sp_need_letters, sp_need_sum, sp_ten_up]
theorem pl_is_long (c : Wc) : PL sp_is_long 2 (rd_is_long c) := by
  intro ds M q x b1 b2 h; simp only [sp_is_long] at h; split at h; case h_2 => exact h.elim
  obtain ⟨h0, h1, h⟩ := h
  rename_i n m
  have ab : (if n < 0 then -n else n) = (n.natAbs : Int) := by split <;> omega
  simp [dSeq, dRet, dNext, dIf, dAnd, dOr, dNot, dIfE, dApp, dCons, dNil, dVar, dC, dBin, dUn, dCall, dChain, dRaise, dDrop, dAsg, dgName, dPar, dTup, dLst, startD, c1D, c2D, iiD, ltD, ixG, ixD, sqD, atI_0, atI_1, dget_tup, dget_lst, sp_is_number, sp_is_between, sp_is_tuple, sp_need_between, sp_need_few, sp_is_long, sp_need_digits, sp_is_row, sp_is_small_row, sp_is_term, sp_is_sum_told, sp_need_letters, sp_need_sum, sp_ten_up, rd_is_long, absD, ab, h0, h1]
  by_cases h2 : 10000000000000000000000000000000000000000000000000000000000000000 ≤ (n.natAbs : Int)
  · have e : isLong n m = decide ((10 : Int) ^ m.toNat ≤ (n.natAbs : Int)) := by
      have h3 : 10000000000000000000000000000000000000000000000000000000000000000 ≤ n.natAbs := by omega
      unfold isLong
      rw [decide_eq_true h3, Bool.true_and, pow_cast]
    rw [if_pos h2]
    exact gcQ_here rfl b1 (e ▸ h)
  · have e : isLong n m = false := by
      have h3 : ¬ 10000000000000000000000000000000000000000000000000000000000000000 ≤ n.natAbs := by omega
      unfold isLong
      rw [decide_eq_false h3, Bool.false_and]
    rw [if_neg h2]
    exact gcQ_here rfl b1 (e ▸ h)
theorem pl_need_digits (c : Wc) : PL sp_need_digits 2 (rd_need_digits c) := by
  intro ds M q x b1 b2 h; simp only [sp_need_digits] at h; split at h; case h_2 => exact h.elim
  obtain ⟨h0, h1, h⟩ := h
  rename_i n m
  simp [dSeq, dRet, dNext, dIf, dAnd, dOr, dNot, dIfE, dApp, dCons, dNil, dVar, dC, dBin, dUn, dCall, dChain, dRaise, dDrop, dAsg, dgName, dPar, dTup, dLst, startD, c1D, c2D, iiD, ltD, ixG, ixD, sqD, atI_0, atI_1, dget_tup, dget_lst, sp_is_number, sp_is_between, sp_is_tuple, sp_need_between, sp_need_few, sp_is_long, sp_need_digits, sp_is_row, sp_is_small_row, sp_is_term, sp_is_sum_told, sp_need_letters, sp_need_sum, sp_ten_up, rd_need_digits, h0, h1]
  by_cases h2 : isLong n m = true
  · simp [dSeq, dRet, dNext, dIf, dAnd, dOr, dNot, dIfE, dApp, dCons, dNil, dVar, dC, dBin, dUn, dCall, dChain, dRaise, dDrop, dAsg, dgName, dPar, dTup, dLst, startD, c1D, c2D, iiD, ltD, ixG, ixD, sqD, atI_0, atI_1, dget_tup, dget_lst, sp_is_number, sp_is_between, sp_is_tuple, sp_need_between, sp_need_few, sp_is_long, sp_need_digits, sp_is_row, sp_is_small_row, sp_is_term, sp_is_sum_told, sp_need_letters, sp_need_sum, sp_ten_up, h2] at h ⊢; exact gcX_here rfl b1 h
  · simp [dSeq, dRet, dNext, dIf, dAnd, dOr, dNot, dIfE, dApp, dCons, dNil, dVar, dC, dBin, dUn, dCall, dChain, dRaise, dDrop, dAsg, dgName, dPar, dTup, dLst, startD, c1D, c2D, iiD, ltD, ixG, ixD, sqD, atI_0, atI_1, dget_tup, dget_lst, sp_is_number, sp_is_between, sp_is_tuple, sp_need_between, sp_need_few, sp_is_long, sp_need_digits, sp_is_row, sp_is_small_row, sp_is_term, sp_is_sum_told, sp_need_letters, sp_need_sum, sp_ten_up, h2] at h ⊢; exact gcQ_here rfl b1 h
theorem pl_is_row (c : Wc) : PL sp_is_row 3 (rd_is_row c) := by
  intro ds M q x b1 b2 h; simp only [sp_is_row] at h; split at h; case h_2 => exact h.elim
  obtain ⟨h1, h⟩ := h
  rename_i d v
  simp [dSeq, dRet, dNext, dIf, dAnd, dOr, dNot, dIfE, dApp, dCons, dNil, dVar, dC, dBin, dUn, dCall, dChain, dRaise, dDrop, dAsg, dgName, dPar, dTup, dLst, startD, c1D, c2D, iiD, ltD, ixG, ixD, sqD, atI_0, atI_1, dget_tup, dget_lst, sp_is_number, sp_is_between, sp_is_tuple, sp_need_between, sp_need_few, sp_is_long, sp_need_digits, sp_is_row, sp_is_small_row, sp_is_term, sp_is_sum_told, sp_need_letters, sp_need_sum, sp_ten_up, rd_is_row, h1]
  by_cases h2 : isTup d v = true
  · simp only [h2, if_true]
    cases d <;> simp [dSeq, dRet, dNext, dIf, dAnd, dOr, dNot, dIfE, dApp, dCons, dNil, dVar, dC, dBin, dUn, dCall, dChain, dRaise, dDrop, dAsg, dgName, dPar, dTup, dLst, startD, c1D, c2D, iiD, ltD, ixG, ixD, sqD, atI_0, atI_1, dget_tup, dget_lst, sp_is_number, sp_is_between, sp_is_tuple, sp_need_between, sp_need_few, sp_is_long, sp_need_digits, sp_is_row, sp_is_small_row, sp_is_term, sp_is_sum_told, sp_need_letters, sp_need_sum, sp_ten_up, isTup] at h2
    rename_i es
    simp [dSeq, dRet, dNext, dIf, dAnd, dOr, dNot, dIfE, dApp, dCons, dNil, dVar, dC, dBin, dUn, dCall, dChain, dRaise, dDrop, dAsg, dgName, dPar, dTup, dLst, startD, c1D, c2D, iiD, ltD, ixG, ixD, sqD, atI_0, atI_1, dget_tup, dget_lst, sp_is_number, sp_is_between, sp_is_tuple, sp_need_between, sp_need_few, sp_is_long, sp_need_digits, sp_is_row, sp_is_small_row, sp_is_term, sp_is_sum_told, sp_need_letters, sp_need_sum, sp_ten_up, pln] at h1
    simp only [dLc, dSeqI, dVar, seqItems]
    refine ⟨_, rfl, ?_⟩
    refine wLc_pure (fun e => .bl (isI e)) trivial es [] (by simpa [dSeq, dRet, dNext, dIf, dAnd, dOr, dNot, dIfE, dApp, dCons, dNil, dVar, dC, dBin, dUn, dCall, dChain, dRaise, dDrop, dAsg, dgName, dPar, dTup, dLst, startD, c1D, c2D, iiD, ltD, ixG, ixD, sqD, atI_0, atI_1, dget_tup, dget_lst, sp_is_number, sp_is_between, sp_is_tuple, sp_need_between, sp_need_few, sp_is_long, sp_need_digits, sp_is_row, sp_is_small_row, sp_is_term, sp_is_sum_told, sp_need_letters, sp_need_sum, sp_ten_up] using h1.1) ?_ fun e he q hq => ?_
    · simp [dSeq, dRet, dNext, dIf, dAnd, dOr, dNot, dIfE, dApp, dCons, dNil, dVar, dC, dBin, dUn, dCall, dChain, dRaise, dDrop, dAsg, dgName, dPar, dTup, dLst, startD, c1D, c2D, iiD, ltD, ixG, ixD, sqD, atI_0, atI_1, dget_tup, dget_lst, sp_is_number, sp_is_between, sp_is_tuple, sp_need_between, sp_need_few, sp_is_long, sp_need_digits, sp_is_row, sp_is_small_row, sp_is_term, sp_is_sum_told, sp_need_letters, sp_need_sum, sp_ten_up, mkL, allD]
      refine ⟨es.map isI, by simp [dSeq, dRet, dNext, dIf, dAnd, dOr, dNot, dIfE, dApp, dCons, dNil, dVar, dC, dBin, dUn, dCall, dChain, dRaise, dDrop, dAsg, dgName, dPar, dTup, dLst, startD, c1D, c2D, iiD, ltD, ixG, ixD, sqD, atI_0, atI_1, dget_tup, dget_lst, sp_is_number, sp_is_between, sp_is_tuple, sp_need_between, sp_need_few, sp_is_long, sp_need_digits, sp_is_row, sp_is_small_row, sp_is_term, sp_is_sum_told, sp_need_letters, sp_need_sum, sp_ten_up, lsD], gcQ_here rfl b1 ?_⟩
      simpa [dSeq, dRet, dNext, dIf, dAnd, dOr, dNot, dIfE, dApp, dCons, dNil, dVar, dC, dBin, dUn, dCall, dChain, dRaise, dDrop, dAsg, dgName, dPar, dTup, dLst, startD, c1D, c2D, iiD, ltD, ixG, ixD, sqD, atI_0, atI_1, dget_tup, dget_lst, sp_is_number, sp_is_between, sp_is_tuple, sp_need_between, sp_need_few, sp_is_long, sp_need_digits, sp_is_row, sp_is_small_row, sp_is_term, sp_is_sum_told, sp_need_letters, sp_need_sum, sp_ten_up, isRow, isTup, tpl, h2, List.all_map, Function.comp_def] using h
    · simp [dSeq, dRet, dNext, dIf, dAnd, dOr, dNot, dIfE, dApp, dCons, dNil, dVar, dC, dBin, dUn, dCall, dChain, dRaise, dDrop, dAsg, dgName, dPar, dTup, dLst, startD, c1D, c2D, iiD, ltD, ixG, ixD, sqD, atI_0, atI_1, dget_tup, dget_lst, sp_is_number, sp_is_between, sp_is_tuple, sp_need_between, sp_need_few, sp_is_long, sp_need_digits, sp_is_row, sp_is_small_row, sp_is_term, sp_is_sum_told, sp_need_letters, sp_need_sum, sp_ten_up, wipeD]
      exact ⟨plnL_all.mp h1.2 e he, hq⟩
  · simp [dSeq, dRet, dNext, dIf, dAnd, dOr, dNot, dIfE, dApp, dCons, dNil, dVar, dC, dBin, dUn, dCall, dChain, dRaise, dDrop, dAsg, dgName, dPar, dTup, dLst, startD, c1D, c2D, iiD, ltD, ixG, ixD, sqD, atI_0, atI_1, dget_tup, dget_lst, sp_is_number, sp_is_between, sp_is_tuple, sp_need_between, sp_need_few, sp_is_long, sp_need_digits, sp_is_row, sp_is_small_row, sp_is_term, sp_is_sum_told, sp_need_letters, sp_need_sum, sp_ten_up, h2]; exact gcQ_here rfl b1 (by simpa [dSeq, dRet, dNext, dIf, dAnd, dOr, dNot, dIfE, dApp, dCons, dNil, dVar, dC, dBin, dUn, dCall, dChain, dRaise, dDrop, dAsg, dgName, dPar, dTup, dLst, startD, c1D, c2D, iiD, ltD, ixG, ixD, sqD, atI_0, atI_1, dget_tup, dget_lst, sp_is_number, sp_is_between, sp_is_tuple, sp_need_between, sp_need_few, sp_is_long, sp_need_digits, sp_is_row, sp_is_small_row, sp_is_term, sp_is_sum_told, sp_need_letters, sp_need_sum, sp_ten_up, isRow, h2] using h)
theorem pl_is_small_row (c : Wc) : PL sp_is_small_row 2 (rd_is_small_row c) := by
  intro ds M q x b1 b2 h; simp only [sp_is_small_row] at h; split at h; case h_2 => exact h.elim
  obtain ⟨h0, h1, h⟩ := h
  rename_i es
  simp [dSeq, dRet, dNext, dIf, dAnd, dOr, dNot, dIfE, dApp, dCons, dNil, dVar, dC, dBin, dUn, dCall, dChain, dRaise, dDrop, dAsg, dgName, dPar, dTup, dLst, startD, c1D, c2D, iiD, ltD, ixG, ixD, sqD, atI_0, atI_1, dget_tup, dget_lst, sp_is_number, sp_is_between, sp_is_tuple, sp_need_between, sp_need_few, sp_is_long, sp_need_digits, sp_is_row, sp_is_small_row, sp_is_term, sp_is_sum_told, sp_need_letters, sp_need_sum, sp_ten_up, rd_is_small_row]
  simp only [dLc, dSeqI, dVar, seqItems]
  refine ⟨_, rfl, ?_⟩
  refine wLc_pure (fun e => .bl (small (iOf e))) trivial es [] (by simpa [dSeq, dRet, dNext, dIf, dAnd, dOr, dNot, dIfE, dApp, dCons, dNil, dVar, dC, dBin, dUn, dCall, dChain, dRaise, dDrop, dAsg, dgName, dPar, dTup, dLst, startD, c1D, c2D, iiD, ltD, ixG, ixD, sqD, atI_0, atI_1, dget_tup, dget_lst, sp_is_number, sp_is_between, sp_is_tuple, sp_need_between, sp_need_few, sp_is_long, sp_need_digits, sp_is_row, sp_is_small_row, sp_is_term, sp_is_sum_told, sp_need_letters, sp_need_sum, sp_ten_up] using h0) ?_ fun e he q hq => ?_
  · simp [dSeq, dRet, dNext, dIf, dAnd, dOr, dNot, dIfE, dApp, dCons, dNil, dVar, dC, dBin, dUn, dCall, dChain, dRaise, dDrop, dAsg, dgName, dPar, dTup, dLst, startD, c1D, c2D, iiD, ltD, ixG, ixD, sqD, atI_0, atI_1, dget_tup, dget_lst, sp_is_number, sp_is_between, sp_is_tuple, sp_need_between, sp_need_few, sp_is_long, sp_need_digits, sp_is_row, sp_is_small_row, sp_is_term, sp_is_sum_told, sp_need_letters, sp_need_sum, sp_ten_up, mkL, allD]
    refine ⟨es.map fun e => small (iOf e), by simp [dSeq, dRet, dNext, dIf, dAnd, dOr, dNot, dIfE, dApp, dCons, dNil, dVar, dC, dBin, dUn, dCall, dChain, dRaise, dDrop, dAsg, dgName, dPar, dTup, dLst, startD, c1D, c2D, iiD, ltD, ixG, ixD, sqD, atI_0, atI_1, dget_tup, dget_lst, sp_is_number, sp_is_between, sp_is_tuple, sp_need_between, sp_need_few, sp_is_long, sp_need_digits, sp_is_row, sp_is_small_row, sp_is_term, sp_is_sum_told, sp_need_letters, sp_need_sum, sp_ten_up, lsD], gcQ_here rfl b1 ?_⟩
    simpa [dSeq, dRet, dNext, dIf, dAnd, dOr, dNot, dIfE, dApp, dCons, dNil, dVar, dC, dBin, dUn, dCall, dChain, dRaise, dDrop, dAsg, dgName, dPar, dTup, dLst, startD, c1D, c2D, iiD, ltD, ixG, ixD, sqD, atI_0, atI_1, dget_tup, dget_lst, sp_is_number, sp_is_between, sp_is_tuple, sp_need_between, sp_need_few, sp_is_long, sp_need_digits, sp_is_row, sp_is_small_row, sp_is_term, sp_is_sum_told, sp_need_letters, sp_need_sum, sp_ten_up, List.all_map, Function.comp_def] using h
  · have := List.all_eq_true.mp h1 e he
    cases e <;> simp [dSeq, dRet, dNext, dIf, dAnd, dOr, dNot, dIfE, dApp, dCons, dNil, dVar, dC, dBin, dUn, dCall, dChain, dRaise, dDrop, dAsg, dgName, dPar, dTup, dLst, startD, c1D, c2D, iiD, ltD, ixG, ixD, sqD, atI_0, atI_1, dget_tup, dget_lst, sp_is_number, sp_is_between, sp_is_tuple, sp_need_between, sp_need_few, sp_is_long, sp_need_digits, sp_is_row, sp_is_small_row, sp_is_term, sp_is_sum_told, sp_need_letters, sp_need_sum, sp_ten_up, isI] at this
    rename_i i
    simp [dSeq, dRet, dNext, dIf, dAnd, dOr, dNot, dIfE, dApp, dCons, dNil, dVar, dC, dBin, dUn, dCall, dChain, dRaise, dDrop, dAsg, dgName, dPar, dTup, dLst, startD, c1D, c2D, iiD, ltD, ixG, ixD, sqD, atI_0, atI_1, dget_tup, dget_lst, sp_is_number, sp_is_between, sp_is_tuple, sp_need_between, sp_need_few, sp_is_long, sp_need_digits, sp_is_row, sp_is_small_row, sp_is_term, sp_is_sum_told, sp_need_letters, sp_need_sum, sp_ten_up, wipeD, negD]
    by_cases h3 : -1000000000000 < i
    · simp [dSeq, dRet, dNext, dIf, dAnd, dOr, dNot, dIfE, dApp, dCons, dNil, dVar, dC, dBin, dUn, dCall, dChain, dRaise, dDrop, dAsg, dgName, dPar, dTup, dLst, startD, c1D, c2D, iiD, ltD, ixG, ixD, sqD, atI_0, atI_1, dget_tup, dget_lst, sp_is_number, sp_is_between, sp_is_tuple, sp_need_between, sp_need_few, sp_is_long, sp_need_digits, sp_is_row, sp_is_small_row, sp_is_term, sp_is_sum_told, sp_need_letters, sp_need_sum, sp_ten_up, small, iOf, h3] at hq; simp [dSeq, dRet, dNext, dIf, dAnd, dOr, dNot, dIfE, dApp, dCons, dNil, dVar, dC, dBin, dUn, dCall, dChain, dRaise, dDrop, dAsg, dgName, dPar, dTup, dLst, startD, c1D, c2D, iiD, ltD, ixG, ixD, sqD, atI_0, atI_1, dget_tup, dget_lst, sp_is_number, sp_is_between, sp_is_tuple, sp_need_between, sp_need_few, sp_is_long, sp_need_digits, sp_is_row, sp_is_small_row, sp_is_term, sp_is_sum_told, sp_need_letters, sp_need_sum, sp_ten_up, h3]; exact hq
    · simp [dSeq, dRet, dNext, dIf, dAnd, dOr, dNot, dIfE, dApp, dCons, dNil, dVar, dC, dBin, dUn, dCall, dChain, dRaise, dDrop, dAsg, dgName, dPar, dTup, dLst, startD, c1D, c2D, iiD, ltD, ixG, ixD, sqD, atI_0, atI_1, dget_tup, dget_lst, sp_is_number, sp_is_between, sp_is_tuple, sp_need_between, sp_need_few, sp_is_long, sp_need_digits, sp_is_row, sp_is_small_row, sp_is_term, sp_is_sum_told, sp_need_letters, sp_need_sum, sp_ten_up, small, iOf, h3] at hq; simp [dSeq, dRet, dNext, dIf, dAnd, dOr, dNot, dIfE, dApp, dCons, dNil, dVar, dC, dBin, dUn, dCall, dChain, dRaise, dDrop, dAsg, dgName, dPar, dTup, dLst, startD, c1D, c2D, iiD, ltD, ixG, ixD, sqD, atI_0, atI_1, dget_tup, dget_lst, sp_is_number, sp_is_between, sp_is_tuple, sp_need_between, sp_need_few, sp_is_long, sp_need_digits, sp_is_row, sp_is_small_row, sp_is_term, sp_is_sum_told, sp_need_letters, sp_need_sum, sp_ten_up, h3]; exact hq
theorem pl_need_letters (c : Wc) : PL sp_need_letters 1 (rd_need_letters c) := by
  intro ds M q x b1 b2 h; simp only [sp_need_letters] at h; split at h; case h_2 => exact h.elim
  obtain ⟨h1, h⟩ := h
  rename_i d
  simp [dSeq, dRet, dNext, dIf, dAnd, dOr, dNot, dIfE, dApp, dCons, dNil, dVar, dC, dBin, dUn, dCall, dChain, dRaise, dDrop, dAsg, dgName, dPar, dTup, dLst, startD, c1D, c2D, iiD, ltD, ixG, ixD, sqD, atI_0, atI_1, dget_tup, dget_lst, sp_is_number, sp_is_between, sp_is_tuple, sp_need_between, sp_need_few, sp_is_long, sp_need_digits, sp_is_row, sp_is_small_row, sp_is_term, sp_is_sum_told, sp_need_letters, sp_need_sum, sp_ten_up, rd_need_letters, h1]
  by_cases h2 : btw d 1 16 = true
  · simp [dSeq, dRet, dNext, dIf, dAnd, dOr, dNot, dIfE, dApp, dCons, dNil, dVar, dC, dBin, dUn, dCall, dChain, dRaise, dDrop, dAsg, dgName, dPar, dTup, dLst, startD, c1D, c2D, iiD, ltD, ixG, ixD, sqD, atI_0, atI_1, dget_tup, dget_lst, sp_is_number, sp_is_between, sp_is_tuple, sp_need_between, sp_need_few, sp_is_long, sp_need_digits, sp_is_row, sp_is_small_row, sp_is_term, sp_is_sum_told, sp_need_letters, sp_need_sum, sp_ten_up, h2] at h ⊢; exact gcQ_here rfl b1 h
  · simp [dSeq, dRet, dNext, dIf, dAnd, dOr, dNot, dIfE, dApp, dCons, dNil, dVar, dC, dBin, dUn, dCall, dChain, dRaise, dDrop, dAsg, dgName, dPar, dTup, dLst, startD, c1D, c2D, iiD, ltD, ixG, ixD, sqD, atI_0, atI_1, dget_tup, dget_lst, sp_is_number, sp_is_between, sp_is_tuple, sp_need_between, sp_need_few, sp_is_long, sp_need_digits, sp_is_row, sp_is_small_row, sp_is_term, sp_is_sum_told, sp_need_letters, sp_need_sum, sp_ten_up, h2] at h ⊢; exact gcX_here rfl b1 h
theorem pl_need_sum (c : Wc) : PL sp_need_sum 3 (rd_need_sum c) := by
  intro ds M q x b1 b2 h; simp only [sp_need_sum] at h; split at h; case h_2 => exact h.elim
  obtain ⟨h1, h⟩ := h
  rename_i v d p
  simp [dSeq, dRet, dNext, dIf, dAnd, dOr, dNot, dIfE, dApp, dCons, dNil, dVar, dC, dBin, dUn, dCall, dChain, dRaise, dDrop, dAsg, dgName, dPar, dTup, dLst, startD, c1D, c2D, iiD, ltD, ixG, ixD, sqD, atI_0, atI_1, dget_tup, dget_lst, sp_is_number, sp_is_between, sp_is_tuple, sp_need_between, sp_need_few, sp_is_long, sp_need_digits, sp_is_row, sp_is_small_row, sp_is_term, sp_is_sum_told, sp_need_letters, sp_need_sum, sp_ten_up, rd_need_sum, h1]
  by_cases h2 : isSum v d = true
  · simp [dSeq, dRet, dNext, dIf, dAnd, dOr, dNot, dIfE, dApp, dCons, dNil, dVar, dC, dBin, dUn, dCall, dChain, dRaise, dDrop, dAsg, dgName, dPar, dTup, dLst, startD, c1D, c2D, iiD, ltD, ixG, ixD, sqD, atI_0, atI_1, dget_tup, dget_lst, sp_is_number, sp_is_between, sp_is_tuple, sp_need_between, sp_need_few, sp_is_long, sp_need_digits, sp_is_row, sp_is_small_row, sp_is_term, sp_is_sum_told, sp_need_letters, sp_need_sum, sp_ten_up, h2] at h ⊢; exact gcQ_here rfl b1 h
  · simp [dSeq, dRet, dNext, dIf, dAnd, dOr, dNot, dIfE, dApp, dCons, dNil, dVar, dC, dBin, dUn, dCall, dChain, dRaise, dDrop, dAsg, dgName, dPar, dTup, dLst, startD, c1D, c2D, iiD, ltD, ixG, ixD, sqD, atI_0, atI_1, dget_tup, dget_lst, sp_is_number, sp_is_between, sp_is_tuple, sp_need_between, sp_need_few, sp_is_long, sp_need_digits, sp_is_row, sp_is_small_row, sp_is_term, sp_is_sum_told, sp_need_letters, sp_need_sum, sp_ten_up, h2] at h ⊢; exact gcX_here (by simp [dSeq, dRet, dNext, dIf, dAnd, dOr, dNot, dIfE, dApp, dCons, dNil, dVar, dC, dBin, dUn, dCall, dChain, dRaise, dDrop, dAsg, dgName, dPar, dTup, dLst, startD, c1D, c2D, iiD, ltD, ixG, ixD, sqD, atI_0, atI_1, dget_tup, dget_lst, sp_is_number, sp_is_between, sp_is_tuple, sp_need_between, sp_need_few, sp_is_long, sp_need_digits, sp_is_row, sp_is_small_row, sp_is_term, sp_is_sum_told, sp_need_letters, sp_need_sum, sp_ten_up, D.bdL] at b2 ⊢; exact b2.2.2) b1 h
theorem pl_is_term (c : Wc) : PL sp_is_term 2 (rd_is_term c) := by
  intro ds M q x b1 b2 h; simp only [sp_is_term] at h; split at h; case h_2 => exact h.elim
  obtain ⟨h1, h⟩ := h
  rename_i d v
  simp [dSeq, dRet, dNext, dIf, dAnd, dOr, dNot, dIfE, dApp, dCons, dNil, dVar, dC, dBin, dUn, dCall, dChain, dRaise, dDrop, dAsg, dgName, dPar, dTup, dLst, startD, c1D, c2D, iiD, ltD, ixG, ixD, sqD, atI_0, atI_1, dget_tup, dget_lst, sp_is_number, sp_is_between, sp_is_tuple, sp_need_between, sp_need_few, sp_is_long, sp_need_digits, sp_is_row, sp_is_small_row, sp_is_term, sp_is_sum_told, sp_need_letters, sp_need_sum, sp_ten_up, rd_is_term, h1]
  by_cases h2 : isTup d 2 = true
  · cases d <;> simp [dSeq, dRet, dNext, dIf, dAnd, dOr, dNot, dIfE, dApp, dCons, dNil, dVar, dC, dBin, dUn, dCall, dChain, dRaise, dDrop, dAsg, dgName, dPar, dTup, dLst, startD, c1D, c2D, iiD, ltD, ixG, ixD, sqD, atI_0, atI_1, dget_tup, dget_lst, sp_is_number, sp_is_between, sp_is_tuple, sp_need_between, sp_need_few, sp_is_long, sp_need_digits, sp_is_row, sp_is_small_row, sp_is_term, sp_is_sum_told, sp_need_letters, sp_need_sum, sp_ten_up, isTup] at h2
    rename_i es
    match es, h2 with
    | [r, k], _ =>
      simp [dSeq, dRet, dNext, dIf, dAnd, dOr, dNot, dIfE, dApp, dCons, dNil, dVar, dC, dBin, dUn, dCall, dChain, dRaise, dDrop, dAsg, dgName, dPar, dTup, dLst, startD, c1D, c2D, iiD, ltD, ixG, ixD, sqD, atI_0, atI_1, dget_tup, dget_lst, sp_is_number, sp_is_between, sp_is_tuple, sp_need_between, sp_need_few, sp_is_long, sp_need_digits, sp_is_row, sp_is_small_row, sp_is_term, sp_is_sum_told, sp_need_letters, sp_need_sum, sp_ten_up, pln, plnL] at h1
      simp [dSeq, dRet, dNext, dIf, dAnd, dOr, dNot, dIfE, dApp, dCons, dNil, dVar, dC, dBin, dUn, dCall, dChain, dRaise, dDrop, dAsg, dgName, dPar, dTup, dLst, startD, c1D, c2D, iiD, ltD, ixG, ixD, sqD, atI_0, atI_1, dget_tup, dget_lst, sp_is_number, sp_is_between, sp_is_tuple, sp_need_between, sp_need_few, sp_is_long, sp_need_digits, sp_is_row, sp_is_small_row, sp_is_term, sp_is_sum_told, sp_need_letters, sp_need_sum, sp_ten_up, isTup, ixD, sqD, atI_0, atI_1, h1]
      by_cases h3 : isRow r v = true
      · by_cases hk : isI k = true
        · obtain ⟨k, rfl⟩ := isI_ex hk
          obtain ⟨es, rfl, _⟩ := isTup_ex (d := r) (n := v) (by simp [dSeq, dRet, dNext, dIf, dAnd, dOr, dNot, dIfE, dApp, dCons, dNil, dVar, dC, dBin, dUn, dCall, dChain, dRaise, dDrop, dAsg, dgName, dPar, dTup, dLst, startD, c1D, c2D, iiD, ltD, ixG, ixD, sqD, atI_0, atI_1, dget_tup, dget_lst, sp_is_number, sp_is_between, sp_is_tuple, sp_need_between, sp_need_few, sp_is_long, sp_need_digits, sp_is_row, sp_is_small_row, sp_is_term, sp_is_sum_told, sp_need_letters, sp_need_sum, sp_ten_up, isRow] at h3; exact h3.1)
          simp [dSeq, dRet, dNext, dIf, dAnd, dOr, dNot, dIfE, dApp, dCons, dNil, dVar, dC, dBin, dUn, dCall, dChain, dRaise, dDrop, dAsg, dgName, dPar, dTup, dLst, startD, c1D, c2D, iiD, ltD, ixG, ixD, sqD, atI_0, atI_1, dget_tup, dget_lst, sp_is_number, sp_is_between, sp_is_tuple, sp_need_between, sp_need_few, sp_is_long, sp_need_digits, sp_is_row, sp_is_small_row, sp_is_term, sp_is_sum_told, sp_need_letters, sp_need_sum, sp_ten_up, isRow, isTup, tpl] at h3
          simp [dSeq, dRet, dNext, dIf, dAnd, dOr, dNot, dIfE, dApp, dCons, dNil, dVar, dC, dBin, dUn, dCall, dChain, dRaise, dDrop, dAsg, dgName, dPar, dTup, dLst, startD, c1D, c2D, iiD, ltD, ixG, ixD, sqD, atI_0, atI_1, dget_tup, dget_lst, sp_is_number, sp_is_between, sp_is_tuple, sp_need_between, sp_need_few, sp_is_long, sp_need_digits, sp_is_row, sp_is_small_row, sp_is_term, sp_is_sum_told, sp_need_letters, sp_need_sum, sp_ten_up, pln] at h1
          have h5 : es.all isI = true := List.all_eq_true.mpr h3.2
          have h6 : isRow (.tup es) v = true := by simp only [isRow, isTup, tpl, h5]; simp [dSeq, dRet, dNext, dIf, dAnd, dOr, dNot, dIfE, dApp, dCons, dNil, dVar, dC, dBin, dUn, dCall, dChain, dRaise, dDrop, dAsg, dgName, dPar, dTup, dLst, startD, c1D, c2D, iiD, ltD, ixG, ixD, sqD, atI_0, atI_1, dget_tup, dget_lst, sp_is_number, sp_is_between, sp_is_tuple, sp_need_between, sp_need_few, sp_is_long, sp_need_digits, sp_is_row, sp_is_small_row, sp_is_term, sp_is_sum_told, sp_need_letters, sp_need_sum, sp_ten_up, h3.1]
          have h7 : isI (.int k) = true := rfl
          simp only [h6, h7, h5, Bool.not_true, pln]
          simp [dSeq, dRet, dNext, dIf, dAnd, dOr, dNot, dIfE, dApp, dCons, dNil, dVar, dC, dBin, dUn, dCall, dChain, dRaise, dDrop, dAsg, dgName, dPar, dTup, dLst, startD, c1D, c2D, iiD, ltD, ixG, ixD, sqD, atI_0, atI_1, dget_tup, dget_lst, sp_is_number, sp_is_between, sp_is_tuple, sp_need_between, sp_need_few, sp_is_long, sp_need_digits, sp_is_row, sp_is_small_row, sp_is_term, sp_is_sum_told, sp_need_letters, sp_need_sum, sp_ten_up, h1]
          refine ⟨h3.2, ?_⟩
          by_cases h4 : (es.all fun e => small (iOf e)) = true
          · rw [if_pos (List.all_eq_true.mp h4)]
            refine gcQ_here rfl b1 ?_
            have e : isTerm v (.tup [.tup es, .int k]) = !isLong k 4000 := by
              show (isRow _ _ && isI _ && (es.all fun e => small (iOf e)) && !isLong k 4000) = _
              rw [h6, h7, h4]; rfl
            rwa [e] at h
          · rw [if_neg (fun z => h4 (List.all_eq_true.mpr z))]
            refine gcQ_here rfl b1 ?_
            have e : isTerm v (.tup [.tup es, .int k]) = false := by
              show (isRow _ _ && isI _ && (es.all fun e => small (iOf e)) && !isLong k 4000) = _
              rw [Bool.of_not_eq_true h4, Bool.and_false]; rfl
            rwa [e] at h
        · simp [dSeq, dRet, dNext, dIf, dAnd, dOr, dNot, dIfE, dApp, dCons, dNil, dVar, dC, dBin, dUn, dCall, dChain, dRaise, dDrop, dAsg, dgName, dPar, dTup, dLst, startD, c1D, c2D, iiD, ltD, ixG, ixD, sqD, atI_0, atI_1, dget_tup, dget_lst, sp_is_number, sp_is_between, sp_is_tuple, sp_need_between, sp_need_few, sp_is_long, sp_need_digits, sp_is_row, sp_is_small_row, sp_is_term, sp_is_sum_told, sp_need_letters, sp_need_sum, sp_ten_up, h3, hk]; exact gcQ_here rfl b1 (by simpa [dSeq, dRet, dNext, dIf, dAnd, dOr, dNot, dIfE, dApp, dCons, dNil, dVar, dC, dBin, dUn, dCall, dChain, dRaise, dDrop, dAsg, dgName, dPar, dTup, dLst, startD, c1D, c2D, iiD, ltD, ixG, ixD, sqD, atI_0, atI_1, dget_tup, dget_lst, sp_is_number, sp_is_between, sp_is_tuple, sp_need_between, sp_need_few, sp_is_long, sp_need_digits, sp_is_row, sp_is_small_row, sp_is_term, sp_is_sum_told, sp_need_letters, sp_need_sum, sp_ten_up, isTerm, h3, hk] using h)
      · simp [dSeq, dRet, dNext, dIf, dAnd, dOr, dNot, dIfE, dApp, dCons, dNil, dVar, dC, dBin, dUn, dCall, dChain, dRaise, dDrop, dAsg, dgName, dPar, dTup, dLst, startD, c1D, c2D, iiD, ltD, ixG, ixD, sqD, atI_0, atI_1, dget_tup, dget_lst, sp_is_number, sp_is_between, sp_is_tuple, sp_need_between, sp_need_few, sp_is_long, sp_need_digits, sp_is_row, sp_is_small_row, sp_is_term, sp_is_sum_told, sp_need_letters, sp_need_sum, sp_ten_up, h3]; exact gcQ_here rfl b1 (by simpa [dSeq, dRet, dNext, dIf, dAnd, dOr, dNot, dIfE, dApp, dCons, dNil, dVar, dC, dBin, dUn, dCall, dChain, dRaise, dDrop, dAsg, dgName, dPar, dTup, dLst, startD, c1D, c2D, iiD, ltD, ixG, ixD, sqD, atI_0, atI_1, dget_tup, dget_lst, sp_is_number, sp_is_between, sp_is_tuple, sp_need_between, sp_need_few, sp_is_long, sp_need_digits, sp_is_row, sp_is_small_row, sp_is_term, sp_is_sum_told, sp_need_letters, sp_need_sum, sp_ten_up, isTerm, h3] using h)
  · simp [dSeq, dRet, dNext, dIf, dAnd, dOr, dNot, dIfE, dApp, dCons, dNil, dVar, dC, dBin, dUn, dCall, dChain, dRaise, dDrop, dAsg, dgName, dPar, dTup, dLst, startD, c1D, c2D, iiD, ltD, ixG, ixD, sqD, atI_0, atI_1, dget_tup, dget_lst, sp_is_number, sp_is_between, sp_is_tuple, sp_need_between, sp_need_few, sp_is_long, sp_need_digits, sp_is_row, sp_is_small_row, sp_is_term, sp_is_sum_told, sp_need_letters, sp_need_sum, sp_ten_up, h2]
    refine gcQ_here rfl b1 ?_
    have e : isTerm v d = false := by
      unfold isTerm
      split
      · simp [dSeq, dRet, dNext, dIf, dAnd, dOr, dNot, dIfE, dApp, dCons, dNil, dVar, dC, dBin, dUn, dCall, dChain, dRaise, dDrop, dAsg, dgName, dPar, dTup, dLst, startD, c1D, c2D, iiD, ltD, ixG, ixD, sqD, atI_0, atI_1, dget_tup, dget_lst, sp_is_number, sp_is_between, sp_is_tuple, sp_need_between, sp_need_few, sp_is_long, sp_need_digits, sp_is_row, sp_is_small_row, sp_is_term, sp_is_sum_told, sp_need_letters, sp_need_sum, sp_ten_up, isTup] at h2
      · rfl
    rwa [e] at h
end Law
namespace Law
open PySem PySem.Spec PyProof.Rows L2 LamX TL
theorem isTerm_ex {v : Int} {d : D} (h : isTerm v d = true) : ∃ (e : List Int) (k : Int), d = .tup [rowD e, .int k] ∧ (e.length : Int) = v ∧ e.all small = true ∧ isLong k 4000 = false := by
  unfold isTerm at h
  split at h
  · simp only [Bool.and_eq_true, Bool.not_eq_true'] at h
    obtain ⟨⟨⟨h1, h2⟩, h3⟩, h4⟩ := h
    simp only [isRow, Bool.and_eq_true] at h1
    obtain ⟨es, rfl, hl⟩ := isTup_ex h1.1
    obtain ⟨k, rfl⟩ := isI_ex h2
    refine ⟨es.map iOf, k, ?_, by simpa [dSeq, dRet, dNext, dIf, dAnd, dOr, dNot, dIfE, dApp, dCons, dNil, dVar, dC, dBin, dUn, dCall, dChain, dRaise, dDrop, dAsg, dgName, dPar, dTup, dLst, startD, c1D, c2D, iiD, ltD, ixG, ixD, sqD, atI_0, atI_1, dget_tup, dget_lst, sp_is_number, sp_is_between, sp_is_tuple, sp_need_between, sp_need_few, sp_is_long, sp_need_digits, sp_is_row, sp_is_small_row, sp_is_term, sp_is_sum_told, sp_need_letters, sp_need_sum, sp_ten_up] using hl, by simpa [dSeq, dRet, dNext, dIf, dAnd, dOr, dNot, dIfE, dApp, dCons, dNil, dVar, dC, dBin, dUn, dCall, dChain, dRaise, dDrop, dAsg, dgName, dPar, dTup, dLst, startD, c1D, c2D, iiD, ltD, ixG, ixD, sqD, atI_0, atI_1, dget_tup, dget_lst, sp_is_number, sp_is_between, sp_is_tuple, sp_need_between, sp_need_few, sp_is_long, sp_need_digits, sp_is_row, sp_is_small_row, sp_is_term, sp_is_sum_told, sp_need_letters, sp_need_sum, sp_ten_up, tpl] using h3, h4⟩
    show _ = D.tup [.tup ((es.map iOf).map D.int), .int k]
    rw [rowD_rowI (es := es) (by simpa [dSeq, dRet, dNext, dIf, dAnd, dOr, dNot, dIfE, dApp, dCons, dNil, dVar, dC, dBin, dUn, dCall, dChain, dRaise, dDrop, dAsg, dgName, dPar, dTup, dLst, startD, c1D, c2D, iiD, ltD, ixG, ixD, sqD, atI_0, atI_1, dget_tup, dget_lst, sp_is_number, sp_is_between, sp_is_tuple, sp_need_between, sp_need_few, sp_is_long, sp_need_digits, sp_is_row, sp_is_small_row, sp_is_term, sp_is_sum_told, sp_need_letters, sp_need_sum, sp_ten_up, tpl] using h1.2)]
  · cases h
theorem pl_is_sum_told (c : Wc) : PL sp_is_sum_told 4 (rd_is_sum_told c) := by
  intro ds M q x b1 b2 h; simp only [sp_is_sum_told] at h; split at h; case h_2 => exact h.elim
  obtain ⟨h1, h⟩ := h
  rename_i v d
  have no : ∀ (_ : isSum v d = false), gcQ M.length q (.bl false) M := fun e => gcQ_here rfl b1 (e ▸ h)
  by_cases ht : ∃ ts, d = .tup ts
  · obtain ⟨ts, rfl⟩ := ht
    simp [dSeq, dRet, dNext, dIf, dAnd, dOr, dNot, dIfE, dApp, dCons, dNil, dVar, dC, dBin, dUn, dCall, dChain, dRaise, dDrop, dAsg, dgName, dPar, dTup, dLst, startD, c1D, c2D, iiD, ltD, ixG, ixD, sqD, atI_0, atI_1, dget_tup, dget_lst, sp_is_number, sp_is_between, sp_is_tuple, sp_need_between, sp_need_few, sp_is_long, sp_need_digits, sp_is_row, sp_is_small_row, sp_is_term, sp_is_sum_told, sp_need_letters, sp_need_sum, sp_ten_up, pln] at h1
    have hp := plnL_all.mp h1.2
    simp [dSeq, dRet, dNext, dIf, dAnd, dOr, dNot, dIfE, dApp, dCons, dNil, dVar, dC, dBin, dUn, dCall, dChain, dRaise, dDrop, dAsg, dgName, dPar, dTup, dLst, startD, c1D, c2D, iiD, ltD, ixG, ixD, sqD, atI_0, atI_1, dget_tup, dget_lst, sp_is_number, sp_is_between, sp_is_tuple, sp_need_between, sp_need_few, sp_is_long, sp_need_digits, sp_is_row, sp_is_small_row, sp_is_term, sp_is_sum_told, sp_need_letters, sp_need_sum, sp_ten_up, rd_is_sum_told, isiD, tyD, bsub, tyNames, lenD]
    by_cases hl : ts.length ≤ 2000
    · rw [if_neg (by omega)]
      simp only [dLc, dSeqI, dVar, seqItems]
      refine ⟨_, rfl, ?_⟩
      refine wLc_pure (fun e => .bl (isTerm v e)) trivial ts [] (by simpa [dSeq, dRet, dNext, dIf, dAnd, dOr, dNot, dIfE, dApp, dCons, dNil, dVar, dC, dBin, dUn, dCall, dChain, dRaise, dDrop, dAsg, dgName, dPar, dTup, dLst, startD, c1D, c2D, iiD, ltD, ixG, ixD, sqD, atI_0, atI_1, dget_tup, dget_lst, sp_is_number, sp_is_between, sp_is_tuple, sp_need_between, sp_need_few, sp_is_long, sp_need_digits, sp_is_row, sp_is_small_row, sp_is_term, sp_is_sum_told, sp_need_letters, sp_need_sum, sp_ten_up] using h1.1) ?_ fun e he q hq => ?_
      · simp only [mkL, allD]
        refine ⟨ts.map (isTerm v), by simp [dSeq, dRet, dNext, dIf, dAnd, dOr, dNot, dIfE, dApp, dCons, dNil, dVar, dC, dBin, dUn, dCall, dChain, dRaise, dDrop, dAsg, dgName, dPar, dTup, dLst, startD, c1D, c2D, iiD, ltD, ixG, ixD, sqD, atI_0, atI_1, dget_tup, dget_lst, sp_is_number, sp_is_between, sp_is_tuple, sp_need_between, sp_need_few, sp_is_long, sp_need_digits, sp_is_row, sp_is_small_row, sp_is_term, sp_is_sum_told, sp_need_letters, sp_need_sum, sp_ten_up, lsD], ?_⟩
        simp only [List.all_map, Function.id_comp]
        by_cases hT : ts.all (isTerm v) = true
        · have hx := List.all_eq_true.mp hT
          have e1 : (ts.all (isTerm v)) = true := hT
          simp only [e1]
          refine .inr ⟨trivial, _, rfl, ?_⟩
          refine wLc_pure (fun t => .bl (decide (cntI t ≠ 0))) trivial ts [] (by simpa [dSeq, dRet, dNext, dIf, dAnd, dOr, dNot, dIfE, dApp, dCons, dNil, dVar, dC, dBin, dUn, dCall, dChain, dRaise, dDrop, dAsg, dgName, dPar, dTup, dLst, startD, c1D, c2D, iiD, ltD, ixG, ixD, sqD, atI_0, atI_1, dget_tup, dget_lst, sp_is_number, sp_is_between, sp_is_tuple, sp_need_between, sp_need_few, sp_is_long, sp_need_digits, sp_is_row, sp_is_small_row, sp_is_term, sp_is_sum_told, sp_need_letters, sp_need_sum, sp_ten_up] using h1.1) ?_ fun t ht q hq => ?_
          · simp only [mkL, allD]
            refine ⟨ts.map fun t => decide (cntI t ≠ 0), by simp [dSeq, dRet, dNext, dIf, dAnd, dOr, dNot, dIfE, dApp, dCons, dNil, dVar, dC, dBin, dUn, dCall, dChain, dRaise, dDrop, dAsg, dgName, dPar, dTup, dLst, startD, c1D, c2D, iiD, ltD, ixG, ixD, sqD, atI_0, atI_1, dget_tup, dget_lst, sp_is_number, sp_is_between, sp_is_tuple, sp_need_between, sp_need_few, sp_is_long, sp_need_digits, sp_is_row, sp_is_small_row, sp_is_term, sp_is_sum_told, sp_need_letters, sp_need_sum, sp_ten_up, lsD], ?_⟩
            simp only [List.all_map, Function.id_comp]
            by_cases hC : ts.all (fun t => decide (cntI t ≠ 0)) = true
            · simp only [hC]
              refine .inr ⟨trivial, ?_⟩
              simp only [dRg1]
              simp only [dBin, dApp, dCons, dVar, dNil, dC, c1D, lenD, iiD]
              refine ⟨_, rfl, trivial, _, rfl, by omega, ?_⟩
              have hn : ((ts.length : Int) - 1).toNat = ts.length - 1 := by omega
              rw [hn]
              refine wLc_pure (fun e => .bl (ascAt ts (iOf e).toNat)) trivial (rgD 0 (ts.length - 1)) [] (by rw [rgD_len]; have := small_sz (n := ts.length) (by omega); simp [dSeq, dRet, dNext, dIf, dAnd, dOr, dNot, dIfE, dApp, dCons, dNil, dVar, dC, dBin, dUn, dCall, dChain, dRaise, dDrop, dAsg, dgName, dPar, dTup, dLst, startD, c1D, c2D, iiD, ltD, ixG, ixD, sqD, atI_0, atI_1, dget_tup, dget_lst, sp_is_number, sp_is_between, sp_is_tuple, sp_need_between, sp_need_few, sp_is_long, sp_need_digits, sp_is_row, sp_is_small_row, sp_is_term, sp_is_sum_told, sp_need_letters, sp_need_sum, sp_ten_up]; omega) ?_ fun e he q hq => ?_
              · simp only [mkL]
                refine ⟨(List.range (ts.length - 1)).map (ascAt ts), ?_, ?_⟩
                · simp [dSeq, dRet, dNext, dIf, dAnd, dOr, dNot, dIfE, dApp, dCons, dNil, dVar, dC, dBin, dUn, dCall, dChain, dRaise, dDrop, dAsg, dgName, dPar, dTup, dLst, startD, c1D, c2D, iiD, ltD, ixG, ixD, sqD, atI_0, atI_1, dget_tup, dget_lst, sp_is_number, sp_is_between, sp_is_tuple, sp_need_between, sp_need_few, sp_is_long, sp_need_digits, sp_is_row, sp_is_small_row, sp_is_term, sp_is_sum_told, sp_need_letters, sp_need_sum, sp_ten_up, lsD, rgD_map, iOf, Function.comp_def]
                · refine gcQ_here rfl b1 ?_
                  have e : isSum v (.tup ts) = (List.range (ts.length - 1)).all (ascAt ts) := by
                    show (decide (ts.length ≤ 2000) && ts.all (isTerm v) && ts.all (fun t => decide (cntI t ≠ 0)) && _) = _
                    rw [hT, hC, decide_eq_true hl]; rfl
                  rw [e] at h
                  simpa [dSeq, dRet, dNext, dIf, dAnd, dOr, dNot, dIfE, dApp, dCons, dNil, dVar, dC, dBin, dUn, dCall, dChain, dRaise, dDrop, dAsg, dgName, dPar, dTup, dLst, startD, c1D, c2D, iiD, ltD, ixG, ixD, sqD, atI_0, atI_1, dget_tup, dget_lst, sp_is_number, sp_is_between, sp_is_tuple, sp_need_between, sp_need_few, sp_is_long, sp_need_digits, sp_is_row, sp_is_small_row, sp_is_term, sp_is_sum_told, sp_need_letters, sp_need_sum, sp_ten_up, List.all_map, Function.comp_def] using h
              · obtain ⟨i, hi, rfl⟩ := rgD_mem he
                have g1 : ts[i]? = some ts[i] := List.getElem?_eq_getElem (by omega)
                have g2 : ts[i + 1]? = some ts[i + 1] := List.getElem?_eq_getElem (by omega)
                obtain ⟨e1, k1, h3, _⟩ := isTerm_ex (hx ts[i] (by simp [dSeq, dRet, dNext, dIf, dAnd, dOr, dNot, dIfE, dApp, dCons, dNil, dVar, dC, dBin, dUn, dCall, dChain, dRaise, dDrop, dAsg, dgName, dPar, dTup, dLst, startD, c1D, c2D, iiD, ltD, ixG, ixD, sqD, atI_0, atI_1, dget_tup, dget_lst, sp_is_number, sp_is_between, sp_is_tuple, sp_need_between, sp_need_few, sp_is_long, sp_need_digits, sp_is_row, sp_is_small_row, sp_is_term, sp_is_sum_told, sp_need_letters, sp_need_sum, sp_ten_up]))
                obtain ⟨e2, k2, h4, _⟩ := isTerm_ex (hx ts[i + 1] (by simp [dSeq, dRet, dNext, dIf, dAnd, dOr, dNot, dIfE, dApp, dCons, dNil, dVar, dC, dBin, dUn, dCall, dChain, dRaise, dDrop, dAsg, dgName, dPar, dTup, dLst, startD, c1D, c2D, iiD, ltD, ixG, ixD, sqD, atI_0, atI_1, dget_tup, dget_lst, sp_is_number, sp_is_between, sp_is_tuple, sp_need_between, sp_need_few, sp_is_long, sp_need_digits, sp_is_row, sp_is_small_row, sp_is_term, sp_is_sum_told, sp_need_letters, sp_need_sum, sp_ten_up]))
                rw [h3] at g1
                rw [h4] at g2
                have ha : ascAt ts i = HT.lexLt e1 e2 := by
                  unfold ascAt
                  rw [List.getD_eq_getElem?_getD, List.getD_eq_getElem?_getD, g1, g2]
                  simp [dSeq, dRet, dNext, dIf, dAnd, dOr, dNot, dIfE, dApp, dCons, dNil, dVar, dC, dBin, dUn, dCall, dChain, dRaise, dDrop, dAsg, dgName, dPar, dTup, dLst, startD, c1D, c2D, iiD, ltD, ixG, ixD, sqD, atI_0, atI_1, dget_tup, dget_lst, sp_is_number, sp_is_between, sp_is_tuple, sp_need_between, sp_need_few, sp_is_long, sp_need_digits, sp_is_row, sp_is_small_row, sp_is_term, sp_is_sum_told, sp_need_letters, sp_need_sum, sp_ten_up, rowOf, rowI_rowD]
                have a1 := atI_nat g1
                have a2 : atI ts ((i : Int) + 1) = _ := atI_nat (j := i + 1) g2
                simp [dSeq, dRet, dNext, dIf, dAnd, dOr, dNot, dIfE, dApp, dCons, dNil, dVar, dC, dBin, dUn, dCall, dChain, dRaise, dDrop, dAsg, dgName, dPar, dTup, dLst, startD, c1D, c2D, iiD, ltD, ixG, ixD, sqD, atI_0, atI_1, dget_tup, dget_lst, sp_is_number, sp_is_between, sp_is_tuple, sp_need_between, sp_need_few, sp_is_long, sp_need_digits, sp_is_row, sp_is_small_row, sp_is_term, sp_is_sum_told, sp_need_letters, sp_need_sum, sp_ten_up, iOf, ha] at hq
                simp [dSeq, dRet, dNext, dIf, dAnd, dOr, dNot, dIfE, dApp, dCons, dNil, dVar, dC, dBin, dUn, dCall, dChain, dRaise, dDrop, dAsg, dgName, dPar, dTup, dLst, startD, c1D, c2D, iiD, ltD, ixG, ixD, sqD, atI_0, atI_1, dget_tup, dget_lst, sp_is_number, sp_is_between, sp_is_tuple, sp_need_between, sp_need_few, sp_is_long, sp_need_digits, sp_is_row, sp_is_small_row, sp_is_term, sp_is_sum_told, sp_need_letters, sp_need_sum, sp_ten_up, wipeD, addD, a1, a2, rowD]
                exact ⟨e1, rfl, e2, rfl, hq⟩
            · simp only [hC]
              refine .inl ⟨trivial, no ?_⟩
              simp only [isSum, hC]; simp [dSeq, dRet, dNext, dIf, dAnd, dOr, dNot, dIfE, dApp, dCons, dNil, dVar, dC, dBin, dUn, dCall, dChain, dRaise, dDrop, dAsg, dgName, dPar, dTup, dLst, startD, c1D, c2D, iiD, ltD, ixG, ixD, sqD, atI_0, atI_1, dget_tup, dget_lst, sp_is_number, sp_is_between, sp_is_tuple, sp_need_between, sp_need_few, sp_is_long, sp_need_digits, sp_is_row, sp_is_small_row, sp_is_term, sp_is_sum_told, sp_need_letters, sp_need_sum, sp_ten_up]
          · obtain ⟨e, k, rfl, _⟩ := isTerm_ex (hx t ht)
            simp [dSeq, dRet, dNext, dIf, dAnd, dOr, dNot, dIfE, dApp, dCons, dNil, dVar, dC, dBin, dUn, dCall, dChain, dRaise, dDrop, dAsg, dgName, dPar, dTup, dLst, startD, c1D, c2D, iiD, ltD, ixG, ixD, sqD, atI_0, atI_1, dget_tup, dget_lst, sp_is_number, sp_is_between, sp_is_tuple, sp_need_between, sp_need_few, sp_is_long, sp_need_digits, sp_is_row, sp_is_small_row, sp_is_term, sp_is_sum_told, sp_need_letters, sp_need_sum, sp_ten_up, wipeD, neD, eqD]
            have e : decide (cntI (D.tup [rowD e, .int k]) ≠ 0) = !(k == 0) := by simp only [cntI, iOf]; by_cases h : k = 0 <;> simp [dSeq, dRet, dNext, dIf, dAnd, dOr, dNot, dIfE, dApp, dCons, dNil, dVar, dC, dBin, dUn, dCall, dChain, dRaise, dDrop, dAsg, dgName, dPar, dTup, dLst, startD, c1D, c2D, iiD, ltD, ixG, ixD, sqD, atI_0, atI_1, dget_tup, dget_lst, sp_is_number, sp_is_between, sp_is_tuple, sp_need_between, sp_need_few, sp_is_long, sp_need_digits, sp_is_row, sp_is_small_row, sp_is_term, sp_is_sum_told, sp_need_letters, sp_need_sum, sp_ten_up, h]
            rwa [e] at hq
        · simp [dSeq, dRet, dNext, dIf, dAnd, dOr, dNot, dIfE, dApp, dCons, dNil, dVar, dC, dBin, dUn, dCall, dChain, dRaise, dDrop, dAsg, dgName, dPar, dTup, dLst, startD, c1D, c2D, iiD, ltD, ixG, ixD, sqD, atI_0, atI_1, dget_tup, dget_lst, sp_is_number, sp_is_between, sp_is_tuple, sp_need_between, sp_need_few, sp_is_long, sp_need_digits, sp_is_row, sp_is_small_row, sp_is_term, sp_is_sum_told, sp_need_letters, sp_need_sum, sp_ten_up, hT]
          exact no (by simp [dSeq, dRet, dNext, dIf, dAnd, dOr, dNot, dIfE, dApp, dCons, dNil, dVar, dC, dBin, dUn, dCall, dChain, dRaise, dDrop, dAsg, dgName, dPar, dTup, dLst, startD, c1D, c2D, iiD, ltD, ixG, ixD, sqD, atI_0, atI_1, dget_tup, dget_lst, sp_is_number, sp_is_between, sp_is_tuple, sp_need_between, sp_need_few, sp_is_long, sp_need_digits, sp_is_row, sp_is_small_row, sp_is_term, sp_is_sum_told, sp_need_letters, sp_need_sum, sp_ten_up, isSum, hT])
      · simp [dSeq, dRet, dNext, dIf, dAnd, dOr, dNot, dIfE, dApp, dCons, dNil, dVar, dC, dBin, dUn, dCall, dChain, dRaise, dDrop, dAsg, dgName, dPar, dTup, dLst, startD, c1D, c2D, iiD, ltD, ixG, ixD, sqD, atI_0, atI_1, dget_tup, dget_lst, sp_is_number, sp_is_between, sp_is_tuple, sp_need_between, sp_need_few, sp_is_long, sp_need_digits, sp_is_row, sp_is_small_row, sp_is_term, sp_is_sum_told, sp_need_letters, sp_need_sum, sp_ten_up, wipeD]
        exact ⟨hp e he, hq⟩
    · rw [if_pos (by omega)]
      exact no (by simp [dSeq, dRet, dNext, dIf, dAnd, dOr, dNot, dIfE, dApp, dCons, dNil, dVar, dC, dBin, dUn, dCall, dChain, dRaise, dDrop, dAsg, dgName, dPar, dTup, dLst, startD, c1D, c2D, iiD, ltD, ixG, ixD, sqD, atI_0, atI_1, dget_tup, dget_lst, sp_is_number, sp_is_between, sp_is_tuple, sp_need_between, sp_need_few, sp_is_long, sp_need_digits, sp_is_row, sp_is_small_row, sp_is_term, sp_is_sum_told, sp_need_letters, sp_need_sum, sp_ten_up, isSum, hl])
  · have e : isSum v d = false := by
      unfold isSum; split
      · exact absurd ⟨_, rfl⟩ ht
      · rfl
    cases d <;> simp [dSeq, dRet, dNext, dIf, dAnd, dOr, dNot, dIfE, dApp, dCons, dNil, dVar, dC, dBin, dUn, dCall, dChain, dRaise, dDrop, dAsg, dgName, dPar, dTup, dLst, startD, c1D, c2D, iiD, ltD, ixG, ixD, sqD, atI_0, atI_1, dget_tup, dget_lst, sp_is_number, sp_is_between, sp_is_tuple, sp_need_between, sp_need_few, sp_is_long, sp_need_digits, sp_is_row, sp_is_small_row, sp_is_term, sp_is_sum_told, sp_need_letters, sp_need_sum, sp_ten_up, pln] at h1 <;> simp [dSeq, dRet, dNext, dIf, dAnd, dOr, dNot, dIfE, dApp, dCons, dNil, dVar, dC, dBin, dUn, dCall, dChain, dRaise, dDrop, dAsg, dgName, dPar, dTup, dLst, startD, c1D, c2D, iiD, ltD, ixG, ixD, sqD, atI_0, atI_1, dget_tup, dget_lst, sp_is_number, sp_is_between, sp_is_tuple, sp_need_between, sp_need_few, sp_is_long, sp_need_digits, sp_is_row, sp_is_small_row, sp_is_term, sp_is_sum_told, sp_need_letters, sp_need_sum, sp_ten_up, rd_is_sum_told, isiD, tyD, bsub, tyNames] <;> first | exact no e | exact absurd ⟨_, rfl⟩ ht
end Law
namespace Law
open PySem PySem.Spec PyProof.Rows L2 LamX TL
theorem lkp_keyL : ∀ (ks : List (List Int)) (cs : List Int) (e : List Int), lkp (ks.map keyL) (cs.map D.int) (keyL e) = (lkp ks cs e).map .int
  | [], _, _ => by simp [dSeq, dRet, dNext, dIf, dAnd, dOr, dNot, dIfE, dApp, dCons, dNil, dVar, dC, dBin, dUn, dCall, dChain, dRaise, dDrop, dAsg, dgName, dPar, dTup, dLst, startD, c1D, c2D, iiD, ltD, ixG, ixD, sqD, atI_0, atI_1, dget_tup, dget_lst, lkp]
  | _ :: _, [], _ => by simp [dSeq, dRet, dNext, dIf, dAnd, dOr, dNot, dIfE, dApp, dCons, dNil, dVar, dC, dBin, dUn, dCall, dChain, dRaise, dDrop, dAsg, dgName, dPar, dTup, dLst, startD, c1D, c2D, iiD, ltD, ixG, ixD, sqD, atI_0, atI_1, dget_tup, dget_lst, lkp]
  | k :: ks, c :: cs, e => by
    simp only [List.map_cons, lkp]
    by_cases h : k = e
    · subst h; simp [dSeq, dRet, dNext, dIf, dAnd, dOr, dNot, dIfE, dApp, dCons, dNil, dVar, dC, dBin, dUn, dCall, dChain, dRaise, dDrop, dAsg, dgName, dPar, dTup, dLst, startD, c1D, c2D, iiD, ltD, ixG, ixD, sqD, atI_0, atI_1, dget_tup, dget_lst]
    · rw [if_neg h, if_neg (fun z => h (keyL_inj z))]; exact lkp_keyL ks cs e
theorem mem_keyL {ks : List (List Int)} {e : List Int} : keyL e ∈ ks.map keyL ↔ e ∈ ks := by
  constructor
  · intro h; obtain ⟨a, ha, h2⟩ := List.mem_map.mp h; exact keyL_inj h2 ▸ ha
  · exact fun h => List.mem_map_of_mem h
theorem putKs_keyL (ks : List (List Int)) (e : List Int) : putKs (ks.map keyL) (keyL e) = (putKs ks e).map keyL := by
  unfold putKs
  by_cases h : e ∈ ks
  · rw [if_pos h, if_pos (mem_keyL.mpr h)]
  · rw [if_neg h, if_neg (fun z => h (mem_keyL.mp z))]; simp [dSeq, dRet, dNext, dIf, dAnd, dOr, dNot, dIfE, dApp, dCons, dNil, dVar, dC, dBin, dUn, dCall, dChain, dRaise, dDrop, dAsg, dgName, dPar, dTup, dLst, startD, c1D, c2D, iiD, ltD, ixG, ixD, sqD, atI_0, atI_1, dget_tup, dget_lst]
theorem putVs_keyL (ks : List (List Int)) (cs : List Int) (e : List Int) (c : Int) : putVs (ks.map keyL) (cs.map D.int) (keyL e) (.int c) = (putVs ks cs e c).map .int := by
  unfold putVs
  by_cases h : e ∈ ks
  · rw [if_pos h, if_pos (mem_keyL.mpr h)]
    clear h
    induction ks generalizing cs with
    | nil => simp [dSeq, dRet, dNext, dIf, dAnd, dOr, dNot, dIfE, dApp, dCons, dNil, dVar, dC, dBin, dUn, dCall, dChain, dRaise, dDrop, dAsg, dgName, dPar, dTup, dLst, startD, c1D, c2D, iiD, ltD, ixG, ixD, sqD, atI_0, atI_1, dget_tup, dget_lst]
    | cons k ks ih =>
      cases cs with
      | nil => simp [dSeq, dRet, dNext, dIf, dAnd, dOr, dNot, dIfE, dApp, dCons, dNil, dVar, dC, dBin, dUn, dCall, dChain, dRaise, dDrop, dAsg, dgName, dPar, dTup, dLst, startD, c1D, c2D, iiD, ltD, ixG, ixD, sqD, atI_0, atI_1, dget_tup, dget_lst]
      | cons c' cs =>
        simp only [List.map_cons, List.zipWith_cons_cons, ih]
        by_cases h : k = e
        · subst h; simp [dSeq, dRet, dNext, dIf, dAnd, dOr, dNot, dIfE, dApp, dCons, dNil, dVar, dC, dBin, dUn, dCall, dChain, dRaise, dDrop, dAsg, dgName, dPar, dTup, dLst, startD, c1D, c2D, iiD, ltD, ixG, ixD, sqD, atI_0, atI_1, dget_tup, dget_lst]
        · rw [if_neg h, if_neg (fun z => h (keyL_inj z))]
  · rw [if_neg h, if_neg (fun z => h (mem_keyL.mp z))]; simp [dSeq, dRet, dNext, dIf, dAnd, dOr, dNot, dIfE, dApp, dCons, dNil, dVar, dC, dBin, dUn, dCall, dChain, dRaise, dDrop, dAsg, dgName, dPar, dTup, dLst, startD, c1D, c2D, iiD, ltD, ixG, ixD, sqD, atI_0, atI_1, dget_tup, dget_lst]
theorem tkD_row (e : List Int) : tkD (rowD e) = some (keyL e) := by
  show (e.map D.int).mapM kD = some (e.map Sum.inl)
  induction e with
  | nil => rfl
  | cons i e ih => rw [List.map_cons, List.mapM_cons, ih]; rfl
theorem lkp_ex : ∀ {ks : List (List Int)} {cs : List Int} {e : List Int}, ks.length = cs.length → e ∈ ks → ∃ c, lkp ks cs e = some c
  | [], _, _, _, h => by cases h
  | k :: ks, [], _, h, _ => by cases h
  | k :: ks, c :: cs, e, h, hm => by
    simp only [lkp]
    by_cases h2 : k = e
    · exact ⟨c, if_pos h2⟩
    · rw [if_neg h2]
      exact lkp_ex (by simpa [dSeq, dRet, dNext, dIf, dAnd, dOr, dNot, dIfE, dApp, dCons, dNil, dVar, dC, dBin, dUn, dCall, dChain, dRaise, dDrop, dAsg, dgName, dPar, dTup, dLst, startD, c1D, c2D, iiD, ltD, ixG, ixD, sqD, atI_0, atI_1, dget_tup, dget_lst] using h) ((List.mem_cons.mp hm).resolve_left (Ne.symm h2))
theorem dR_put (p : List (List Int) × List Int) (e : List Int) (c : Int) : (putKs (dR p).1 (keyL e), putVs (dR p).1 (dR p).2 (keyL e) (.int c)) = dR (putR p e c) := by
  simp only [dR, putR, putKs_keyL, putVs_keyL]
theorem dget_dR {M : Sto} {x : D} {p : List (List Int) × List Int} (h : dtOf M x = some (dR p)) (hk : dkOf M x = none) (e : List Int) : dget M x (rowD e) = some ((lkp p.1 p.2 e).map .int) := by
  unfold dget
  rw [hk, h]
  simp only [tkD_row, Option.map_some, dR, lkp_keyL]
theorem dk_of_dt {M : Sto} {x : D} {r : List (List Key) × List D} (h : dtOf M x = some r) : dkOf M x = none := by
  cases x <;> simp [dSeq, dRet, dNext, dIf, dAnd, dOr, dNot, dIfE, dApp, dCons, dNil, dVar, dC, dBin, dUn, dCall, dChain, dRaise, dDrop, dAsg, dgName, dPar, dTup, dLst, startD, c1D, c2D, iiD, ltD, ixG, ixD, sqD, atI_0, atI_1, dget_tup, dget_lst, dtOf] at h <;> simp [dSeq, dRet, dNext, dIf, dAnd, dOr, dNot, dIfE, dApp, dCons, dNil, dVar, dC, dBin, dUn, dCall, dChain, dRaise, dDrop, dAsg, dgName, dPar, dTup, dLst, startD, c1D, c2D, iiD, ltD, ixG, ixD, sqD, atI_0, atI_1, dget_tup, dget_lst, dkOf]
  split at h
  · rename_i h2; rw [h2]
  · cases h
theorem putR_len {p : List (List Int) × List Int} (h : p.1.length = p.2.length) (e : List Int) (c : Int) : (putR p e c).1.length = (putR p e c).2.length := putKs_len _ _ _ _ h
theorem putR_nodup {p : List (List Int) × List Int} (h : p.1.Nodup) (e : List Int) (c : Int) : (putR p e c).1.Nodup := by
  unfold putR putKs
  by_cases h2 : e ∈ p.1
  · rw [if_pos h2]; exact h
  · simp only [if_neg h2]
    refine List.nodup_append.mpr ⟨h, by simp [dSeq, dRet, dNext, dIf, dAnd, dOr, dNot, dIfE, dApp, dCons, dNil, dVar, dC, dBin, dUn, dCall, dChain, dRaise, dDrop, dAsg, dgName, dPar, dTup, dLst, startD, c1D, c2D, iiD, ltD, ixG, ixD, sqD, atI_0, atI_1, dget_tup, dget_lst], fun a ha b hb => ?_⟩
    simp [dSeq, dRet, dNext, dIf, dAnd, dOr, dNot, dIfE, dApp, dCons, dNil, dVar, dC, dBin, dUn, dCall, dChain, dRaise, dDrop, dAsg, dgName, dPar, dTup, dLst, startD, c1D, c2D, iiD, ltD, ixG, ixD, sqD, atI_0, atI_1, dget_tup, dget_lst] at hb; subst hb; exact fun z => h2 (z ▸ ha)
theorem putR_mem {p : List (List Int) × List Int} {e a : List Int} {c : Int} (h : a ∈ (putR p e c).1) : a ∈ p.1 ∨ a = e := by
  unfold putR putKs at h
  by_cases h2 : e ∈ p.1
  · simp only [if_pos h2] at h; exact .inl h
  · simp only [if_neg h2] at h; simpa [dSeq, dRet, dNext, dIf, dAnd, dOr, dNot, dIfE, dApp, dCons, dNil, dVar, dC, dBin, dUn, dCall, dChain, dRaise, dDrop, dAsg, dgName, dPar, dTup, dLst, startD, c1D, c2D, iiD, ltD, ixG, ixD, sqD, atI_0, atI_1, dget_tup, dget_lst] using h
theorem putR_size (p : List (List Int) × List Int) (e : List Int) (c : Int) : (putR p e c).1.length ≤ p.1.length + 1 := by
  unfold putR putKs
  by_cases h2 : e ∈ p.1
  · simp only [if_pos h2]; omega
  · simp only [if_neg h2]; simp [dSeq, dRet, dNext, dIf, dAnd, dOr, dNot, dIfE, dApp, dCons, dNil, dVar, dC, dBin, dUn, dCall, dChain, dRaise, dDrop, dAsg, dgName, dPar, dTup, dLst, startD, c1D, c2D, iiD, ltD, ixG, ixD, sqD, atI_0, atI_1, dget_tup, dget_lst]
/-- {e: found[e] for e in sorted(found) if found[e] != 0} as a tuple -/
theorem sum_lc {M : Sto} {d : D} {p : List (List Int) × List Int} {i j : Nat} {σ : Std} {q : QD} {x : XD} (hd : dtOf M d = some (dR p)) (ho : okP p) (hs : σ[i]? = some (some d)) (hij : i ≠ j) (hj : j < σ.length) (h : q (smD (sumP p)) M) :
    dApp (c1D tupOfD) (dCons (dLc false [j] (dSeqI (dApp (c1D (sortD false)) (dCons (dVar i) dNil))) (dgName j) (dBin neD (dBin ixG (dVar i) (dVar j)) (dC (.int 0))) (dTup (dCons (dVar j) (dCons (dBin ixG (dVar i) (dVar j)) dNil)))) dNil) σ M q x := by
  have hk := dk_of_dt hd
  simp only [dApp, dCons, dNil, dLc, dSeqI, dVar, c1D]
  refine ⟨d, hs, .inr ⟨_, _, hd, ?_, ?_⟩⟩
  · exact sortOk_rows (by have := small_sz ho.2.1; exact this) ho.2.2.1
  · simp only [mkL, Bool.false_eq_true, if_false, dR]
    rw [sortedBy_rows]
    simp only [seqItems]
    have hw : (wipeD σ [j])[i]? = some (some d) := by simp [dSeq, dRet, dNext, dIf, dAnd, dOr, dNot, dIfE, dApp, dCons, dNil, dVar, dC, dBin, dUn, dCall, dChain, dRaise, dDrop, dAsg, dgName, dPar, dTup, dLst, startD, c1D, c2D, iiD, ltD, ixG, ixD, sqD, atI_0, atI_1, dget_tup, dget_lst, wipeD, List.getElem?_set, Ne.symm hij, hs]
    have hl : j < (wipeD σ [j]).length := by simp [dSeq, dRet, dNext, dIf, dAnd, dOr, dNot, dIfE, dApp, dCons, dNil, dVar, dC, dBin, dUn, dCall, dChain, dRaise, dDrop, dAsg, dgName, dPar, dTup, dLst, startD, c1D, c2D, iiD, ltD, ixG, ixD, sqD, atI_0, atI_1, dget_tup, dget_lst, wipeD, hj]
    refine wLc_filter (fun e => decide (getR p (rowI e) ≠ 0)) (fun e => trm (rowI e, getR p (rowI e))) trivial _ [] ?_ ?_ ?_
    · simp only [List.length_nil, List.length_map, Nat.zero_add]
      rw [(sortR_perm p.1).length_eq]
      exact small_sz ho.2.1
    · simp only [mkL, Bool.false_eq_true, if_false, tupOfD, sqD, lsD]
      refine ⟨_, rfl, ?_⟩
      have e : [] ++ (((sortR p.1).map rowD).filter fun e => decide (getR p (rowI e) ≠ 0)).map (fun e => trm (rowI e, getR p (rowI e))) = (sumP p).map trm := by
        simp only [sumP, List.nil_append, List.filter_map, List.map_map, Function.comp_def, rowI_rowD]
      rw [e]
      exact h
    · intro e he r s hb
      obtain ⟨e, hm, rfl⟩ := List.mem_map.mp he
      have hm : e ∈ p.1 := (sortR_perm p.1).mem_iff.mp hm
      have hg := dget_dR hd hk e
      obtain ⟨c, hc⟩ := lkp_ex ho.1 hm
      have hgr : getR p e = c := by simp [dSeq, dRet, dNext, dIf, dAnd, dOr, dNot, dIfE, dApp, dCons, dNil, dVar, dC, dBin, dUn, dCall, dChain, dRaise, dDrop, dAsg, dgName, dPar, dTup, dLst, startD, c1D, c2D, iiD, ltD, ixG, ixD, sqD, atI_0, atI_1, dget_tup, dget_lst, getR, hc]
      simp only [rowI_rowD, hgr] at hb
      rw [hc, Option.map_some] at hg
      have hjj : ((wipeD σ [j]).set j (some (rowD e)))[j]? = some (some (rowD e)) := by rw [List.getElem?_set_self hl]
      have hii : ((wipeD σ [j]).set j (some (rowD e)))[i]? = some (some d) := by rw [List.getElem?_set_ne (Ne.symm hij)]; exact hw
      have ixg : ∀ q : QD, q (.int c) M → ixG d (rowD e) M q := fun q hq => .inr ⟨_, hg, hq⟩
      simp only [dgName, dBin, dVar, dC, dTup, dCons, dNil]
      refine ⟨d, hii, _, hjj, ixg _ ?_⟩
      simp only [neD, eqD]
      refine ⟨_, rfl, _, rfl, ?_⟩
      have e1 : decide (c ≠ 0) = !(c == 0) := by by_cases h : c = 0 <;> simp [dSeq, dRet, dNext, dIf, dAnd, dOr, dNot, dIfE, dApp, dCons, dNil, dVar, dC, dBin, dUn, dCall, dChain, dRaise, dDrop, dAsg, dgName, dPar, dTup, dLst, startD, c1D, c2D, iiD, ltD, ixG, ixD, sqD, atI_0, atI_1, dget_tup, dget_lst, h]
      by_cases h0 : c = 0
      · subst h0
        have hb := hb _ rfl
        rw [if_neg (by simp [dSeq, dRet, dNext, dIf, dAnd, dOr, dNot, dIfE, dApp, dCons, dNil, dVar, dC, dBin, dUn, dCall, dChain, dRaise, dDrop, dAsg, dgName, dPar, dTup, dLst, startD, c1D, c2D, iiD, ltD, ixG, ixD, sqD, atI_0, atI_1, dget_tup, dget_lst])] at hb
        rw [if_neg (by simp [dSeq, dRet, dNext, dIf, dAnd, dOr, dNot, dIfE, dApp, dCons, dNil, dVar, dC, dBin, dUn, dCall, dChain, dRaise, dDrop, dAsg, dgName, dPar, dTup, dLst, startD, c1D, c2D, iiD, ltD, ixG, ixD, sqD, atI_0, atI_1, dget_tup, dget_lst])]
        exact hb
      · have hb := hb (.bl (decide (c ≠ 0))) rfl
        rw [if_pos (by simpa [dSeq, dRet, dNext, dIf, dAnd, dOr, dNot, dIfE, dApp, dCons, dNil, dVar, dC, dBin, dUn, dCall, dChain, dRaise, dDrop, dAsg, dgName, dPar, dTup, dLst, startD, c1D, c2D, iiD, ltD, ixG, ixD, sqD, atI_0, atI_1, dget_tup, dget_lst] using h0)] at hb
        rw [if_pos (by simpa [dSeq, dRet, dNext, dIf, dAnd, dOr, dNot, dIfE, dApp, dCons, dNil, dVar, dC, dBin, dUn, dCall, dChain, dRaise, dDrop, dAsg, dgName, dPar, dTup, dLst, startD, c1D, c2D, iiD, ltD, ixG, ixD, sqD, atI_0, atI_1, dget_tup, dget_lst] using h0)]
        refine ⟨_, hjj, d, hii, _, hjj, ixg _ ⟨?_, hb⟩⟩
        exact small_sz (by simp [dSeq, dRet, dNext, dIf, dAnd, dOr, dNot, dIfE, dApp, dCons, dNil, dVar, dC, dBin, dUn, dCall, dChain, dRaise, dDrop, dAsg, dgName, dPar, dTup, dLst, startD, c1D, c2D, iiD, ltD, ixG, ixD, sqD, atI_0, atI_1, dget_tup, dget_lst])
theorem pln_trms {ts : List (List Int × Int)} (h : ∀ t ∈ ts, t.1.length ≤ sizeLine) : plnL (ts.map trm) = true := plnL_all.mpr fun d hd => by
  obtain ⟨t, ht, rfl⟩ := List.mem_map.mp hd
  simp only [trm, pln, plnL, pln_row (h t ht), List.length_cons, List.length_nil]
  simp [dSeq, dRet, dNext, dIf, dAnd, dOr, dNot, dIfE, dApp, dCons, dNil, dVar, dC, dBin, dUn, dCall, dChain, dRaise, dDrop, dAsg, dgName, dPar, dTup, dLst, startD, c1D, c2D, iiD, ltD, ixG, ixD, sqD, atI_0, atI_1, dget_tup, dget_lst, sp_is_number, sp_is_between, sp_is_tuple, sp_need_between, sp_need_few, sp_is_long, sp_need_digits, sp_is_row, sp_is_small_row, sp_is_term, sp_is_sum_told, sp_need_letters, sp_need_sum, sp_ten_up]; exact small_sz (by omega)
theorem pln_sm {ts : List (List Int × Int)} (hl : ts.length ≤ sizeLine) (h : ∀ t ∈ ts, t.1.length ≤ sizeLine) : pln (smD ts) = true := by
  simp [dSeq, dRet, dNext, dIf, dAnd, dOr, dNot, dIfE, dApp, dCons, dNil, dVar, dC, dBin, dUn, dCall, dChain, dRaise, dDrop, dAsg, dgName, dPar, dTup, dLst, startD, c1D, c2D, iiD, ltD, ixG, ixD, sqD, atI_0, atI_1, dget_tup, dget_lst, sp_is_number, sp_is_between, sp_is_tuple, sp_need_between, sp_need_few, sp_is_long, sp_need_digits, sp_is_row, sp_is_small_row, sp_is_term, sp_is_sum_told, sp_need_letters, sp_need_sum, sp_ten_up, smD, pln, hl, pln_trms h]
theorem bd_row {n : Nat} (e : List Int) : D.bd n (rowD e) = true := by
  rw [rowD, D.bd]; exact bdL_of fun d hd => by obtain ⟨i, _, rfl⟩ := List.mem_map.mp hd; rfl
theorem bd_trms {n : Nat} (ts : List (List Int × Int)) : D.bdL n (ts.map trm) = true := bdL_of fun d hd => by
  obtain ⟨t, _, rfl⟩ := List.mem_map.mp hd
  simp [dSeq, dRet, dNext, dIf, dAnd, dOr, dNot, dIfE, dApp, dCons, dNil, dVar, dC, dBin, dUn, dCall, dChain, dRaise, dDrop, dAsg, dgName, dPar, dTup, dLst, startD, c1D, c2D, iiD, ltD, ixG, ixD, sqD, atI_0, atI_1, dget_tup, dget_lst, sp_is_number, sp_is_between, sp_is_tuple, sp_need_between, sp_need_few, sp_is_long, sp_need_digits, sp_is_row, sp_is_small_row, sp_is_term, sp_is_sum_told, sp_need_letters, sp_need_sum, sp_ten_up, trm, D.bd, D.bdL, bd_row]
theorem bd_sm {n : Nat} (ts : List (List Int × Int)) : D.bd n (smD ts) = true := by rw [smD, D.bd]; exact bd_trms ts
theorem pl_collected (c : Wc) : PL sp_collected 4 (rd_collected c) := by
  intro ds M q x b1 b2 h; simp only [sp_collected] at h; split at h; case h_2 => exact h.elim
  rename_i ps
  obtain ⟨ts, rfl, hl, hn, h⟩ := h
  simp only [rd_collected, dSeq, dAsg, dNewD, if_true, dgName]
  simp only [dFor, dSeqI, dVar, startD]
  refine ⟨.tup (ts.map trm), rfl, ?_⟩
  simp only [seqItems]
  have look : ∀ (p : List (List Int) × List Int), (M ++ [D.dt (dR p).1 (dR p).2])[M.length]? = some (D.dt (dR p).1 (dR p).2) := fun p => by simp [dSeq, dRet, dNext, dIf, dAnd, dOr, dNot, dIfE, dApp, dCons, dNil, dVar, dC, dBin, dUn, dCall, dChain, dRaise, dDrop, dAsg, dgName, dPar, dTup, dLst, startD, c1D, c2D, iiD, ltD, ixG, ixD, sqD, atI_0, atI_1, dget_tup, dget_lst, sp_is_number, sp_is_between, sp_is_tuple, sp_need_between, sp_need_few, sp_is_long, sp_need_digits, sp_is_row, sp_is_small_row, sp_is_term, sp_is_sum_told, sp_need_letters, sp_need_sum, sp_ten_up]
  refine wFor_inv (fun rest σ M' => ∃ us p a b, rest = us.map trm ∧ (∀ t ∈ us, t.1 ≠ []) ∧ p.1.length = p.2.length ∧ p.1.length + us.length ≤ 100000 ∧ (∀ e ∈ p.1, e ≠ []) ∧ p.1.Nodup ∧ us.foldl addR p = coll ts ∧ M' = M ++ [.dt (dR p).1 (dR p).2] ∧
    σ = [some (.tup (ts.map trm)), some (.obj M.length), a, b]) ?_ ?_ _ _ _ ⟨ts, ([], []), none, none, rfl, hn, rfl, by simpa [dSeq, dRet, dNext, dIf, dAnd, dOr, dNot, dIfE, dApp, dCons, dNil, dVar, dC, dBin, dUn, dCall, dChain, dRaise, dDrop, dAsg, dgName, dPar, dTup, dLst, startD, c1D, c2D, iiD, ltD, ixG, ixD, sqD, atI_0, atI_1, dget_tup, dget_lst, sp_is_number, sp_is_between, sp_is_tuple, sp_need_between, sp_need_few, sp_is_long, sp_need_digits, sp_is_row, sp_is_small_row, sp_is_term, sp_is_sum_told, sp_need_letters, sp_need_sum, sp_ten_up] using hl, by simp [dSeq, dRet, dNext, dIf, dAnd, dOr, dNot, dIfE, dApp, dCons, dNil, dVar, dC, dBin, dUn, dCall, dChain, dRaise, dDrop, dAsg, dgName, dPar, dTup, dLst, startD, c1D, c2D, iiD, ltD, ixG, ixD, sqD, atI_0, atI_1, dget_tup, dget_lst, sp_is_number, sp_is_between, sp_is_tuple, sp_need_between, sp_need_few, sp_is_long, sp_need_digits, sp_is_row, sp_is_small_row, sp_is_term, sp_is_sum_told, sp_need_letters, sp_need_sum, sp_ten_up], by simp [dSeq, dRet, dNext, dIf, dAnd, dOr, dNot, dIfE, dApp, dCons, dNil, dVar, dC, dBin, dUn, dCall, dChain, dRaise, dDrop, dAsg, dgName, dPar, dTup, dLst, startD, c1D, c2D, iiD, ltD, ixG, ixD, sqD, atI_0, atI_1, dget_tup, dget_lst, sp_is_number, sp_is_between, sp_is_tuple, sp_need_between, sp_need_few, sp_is_long, sp_need_digits, sp_is_row, sp_is_small_row, sp_is_term, sp_is_sum_told, sp_need_letters, sp_need_sum, sp_ten_up], rfl, rfl, rfl⟩
  · rintro σ M' ⟨us, p, a, b, h1, -, h3, h4, h5, h6, h7, rfl, rfl⟩
    obtain rfl : us = [] := by simpa [dSeq, dRet, dNext, dIf, dAnd, dOr, dNot, dIfE, dApp, dCons, dNil, dVar, dC, dBin, dUn, dCall, dChain, dRaise, dDrop, dAsg, dgName, dPar, dTup, dLst, startD, c1D, c2D, iiD, ltD, ixG, ixD, sqD, atI_0, atI_1, dget_tup, dget_lst, sp_is_number, sp_is_between, sp_is_tuple, sp_need_between, sp_need_few, sp_is_long, sp_need_digits, sp_is_row, sp_is_small_row, sp_is_term, sp_is_sum_told, sp_need_letters, sp_need_sum, sp_ten_up] using h1.symm
    simp [dSeq, dRet, dNext, dIf, dAnd, dOr, dNot, dIfE, dApp, dCons, dNil, dVar, dC, dBin, dUn, dCall, dChain, dRaise, dDrop, dAsg, dgName, dPar, dTup, dLst, startD, c1D, c2D, iiD, ltD, ixG, ixD, sqD, atI_0, atI_1, dget_tup, dget_lst, sp_is_number, sp_is_between, sp_is_tuple, sp_need_between, sp_need_few, sp_is_long, sp_need_digits, sp_is_row, sp_is_small_row, sp_is_term, sp_is_sum_told, sp_need_letters, sp_need_sum, sp_ten_up] at h7
    subst h7
    refine ⟨trivial, ?_⟩
    simp only [dRet]
    refine sum_lc (p := coll ts) (d := .obj M.length) ?_ ⟨h3, by simpa [dSeq, dRet, dNext, dIf, dAnd, dOr, dNot, dIfE, dApp, dCons, dNil, dVar, dC, dBin, dUn, dCall, dChain, dRaise, dDrop, dAsg, dgName, dPar, dTup, dLst, startD, c1D, c2D, iiD, ltD, ixG, ixD, sqD, atI_0, atI_1, dget_tup, dget_lst, sp_is_number, sp_is_between, sp_is_tuple, sp_need_between, sp_need_few, sp_is_long, sp_need_digits, sp_is_row, sp_is_small_row, sp_is_term, sp_is_sum_told, sp_need_letters, sp_need_sum, sp_ten_up] using h4, h5, h6⟩ rfl (by decide) (by simp [dSeq, dRet, dNext, dIf, dAnd, dOr, dNot, dIfE, dApp, dCons, dNil, dVar, dC, dBin, dUn, dCall, dChain, dRaise, dDrop, dAsg, dgName, dPar, dTup, dLst, startD, c1D, c2D, iiD, ltD, ixG, ixD, sqD, atI_0, atI_1, dget_tup, dget_lst, sp_is_number, sp_is_between, sp_is_tuple, sp_need_between, sp_need_few, sp_is_long, sp_need_digits, sp_is_row, sp_is_small_row, sp_is_term, sp_is_sum_told, sp_need_letters, sp_need_sum, sp_ten_up]) ?_
    · simp only [dtOf, look]
    · exact ⟨M, _, rfl, Nat.le_refl _, bd_sm _, b1, h⟩
  · rintro d rest σ M' K ⟨us, p, a, b, h1, h2, h3, h4, h5, h6, h7, rfl, rfl⟩ hrt hbk hnx hct
    cases us with
    | nil => simp [dSeq, dRet, dNext, dIf, dAnd, dOr, dNot, dIfE, dApp, dCons, dNil, dVar, dC, dBin, dUn, dCall, dChain, dRaise, dDrop, dAsg, dgName, dPar, dTup, dLst, startD, c1D, c2D, iiD, ltD, ixG, ixD, sqD, atI_0, atI_1, dget_tup, dget_lst, sp_is_number, sp_is_between, sp_is_tuple, sp_need_between, sp_need_few, sp_is_long, sp_need_digits, sp_is_row, sp_is_small_row, sp_is_term, sp_is_sum_told, sp_need_letters, sp_need_sum, sp_ten_up] at h1
    | cons t us =>
      simp only [List.map_cons, List.cons.injEq] at h1
      obtain ⟨rfl, rfl⟩ := h1
      refine ⟨trivial, [rowD t.1, .int t.2], rfl, rfl, ?_⟩
      refine ⟨_, _, rfl, ?_⟩
      refine ⟨_, _, rfl, ?_⟩
      refine ⟨rfl, ?_⟩
      have hd : dtOf (M ++ [D.dt (dR p).1 (dR p).2]) (.obj M.length) = some (dR p) := by simp only [dtOf, look]
      have hg := dget_dR hd (dk_of_dt hd) t.1
      simp only [dPut, dBin, dGet2, dVar, dC]
      refine ⟨_, rfl, .inr (by rw [hd]; rfl), _, rfl, _, hg, _, rfl, ?_⟩
      have hv : (Option.map D.int (lkp p.1 p.2 t.1)).getD (.int 0) = .int (getR p t.1) := by
        unfold getR
        cases lkp p.1 p.2 t.1 <;> rfl
      rw [hv]
      simp only [addD]
      refine ⟨_, rfl, _, rfl, ?_⟩
      have hq := dR_put p t.1 (getR p t.1 + t.2)
      have hsz := putR_size p t.1 (getR p t.1 + t.2)
      have hlen : p.1.length + 1 + us.length ≤ 100000 := by simp [dSeq, dRet, dNext, dIf, dAnd, dOr, dNot, dIfE, dApp, dCons, dNil, dVar, dC, dBin, dUn, dCall, dChain, dRaise, dDrop, dAsg, dgName, dPar, dTup, dLst, startD, c1D, c2D, iiD, ltD, ixG, ixD, sqD, atI_0, atI_1, dget_tup, dget_lst, sp_is_number, sp_is_between, sp_is_tuple, sp_need_between, sp_need_few, sp_is_long, sp_need_digits, sp_is_row, sp_is_small_row, sp_is_term, sp_is_sum_told, sp_need_letters, sp_need_sum, sp_ten_up] at h4; omega
      refine ⟨M ++ [.dt (dR (addR p t)).1 (dR (addR p t)).2], ?_, ?_⟩
      · simp only [dput, look, tkD_row, Option.bind_some]
        rw [if_pos (by have := small_sz (n := p.1.length + 1) (by omega); simp [dSeq, dRet, dNext, dIf, dAnd, dOr, dNot, dIfE, dApp, dCons, dNil, dVar, dC, dBin, dUn, dCall, dChain, dRaise, dDrop, dAsg, dgName, dPar, dTup, dLst, startD, c1D, c2D, iiD, ltD, ixG, ixD, sqD, atI_0, atI_1, dget_tup, dget_lst, sp_is_number, sp_is_between, sp_is_tuple, sp_need_between, sp_need_few, sp_is_long, sp_need_digits, sp_is_row, sp_is_small_row, sp_is_term, sp_is_sum_told, sp_need_letters, sp_need_sum, sp_ten_up, dR]; omega)]
        simp only [addR, ← hq]
        simp [dSeq, dRet, dNext, dIf, dAnd, dOr, dNot, dIfE, dApp, dCons, dNil, dVar, dC, dBin, dUn, dCall, dChain, dRaise, dDrop, dAsg, dgName, dPar, dTup, dLst, startD, c1D, c2D, iiD, ltD, ixG, ixD, sqD, atI_0, atI_1, dget_tup, dget_lst, sp_is_number, sp_is_between, sp_is_tuple, sp_need_between, sp_need_few, sp_is_long, sp_need_digits, sp_is_row, sp_is_small_row, sp_is_term, sp_is_sum_told, sp_need_letters, sp_need_sum, sp_ten_up]
      · refine hnx _ _ ⟨us, addR p t, _, _, rfl, fun t' ht => h2 t' (by simp [dSeq, dRet, dNext, dIf, dAnd, dOr, dNot, dIfE, dApp, dCons, dNil, dVar, dC, dBin, dUn, dCall, dChain, dRaise, dDrop, dAsg, dgName, dPar, dTup, dLst, startD, c1D, c2D, iiD, ltD, ixG, ixD, sqD, atI_0, atI_1, dget_tup, dget_lst, sp_is_number, sp_is_between, sp_is_tuple, sp_need_between, sp_need_few, sp_is_long, sp_need_digits, sp_is_row, sp_is_small_row, sp_is_term, sp_is_sum_told, sp_need_letters, sp_need_sum, sp_ten_up, ht]), putR_len h3 _ _, ?_, ?_, putR_nodup h6 _ _, by simpa [dSeq, dRet, dNext, dIf, dAnd, dOr, dNot, dIfE, dApp, dCons, dNil, dVar, dC, dBin, dUn, dCall, dChain, dRaise, dDrop, dAsg, dgName, dPar, dTup, dLst, startD, c1D, c2D, iiD, ltD, ixG, ixD, sqD, atI_0, atI_1, dget_tup, dget_lst, sp_is_number, sp_is_between, sp_is_tuple, sp_need_between, sp_need_few, sp_is_long, sp_need_digits, sp_is_row, sp_is_small_row, sp_is_term, sp_is_sum_told, sp_need_letters, sp_need_sum, sp_ten_up] using h7, rfl, rfl⟩
        · simp only [addR] at hsz ⊢; omega
        · intro e he
          rcases putR_mem he with h8 | rfl
          · exact h5 e h8
          · exact h2 t (by simp [dSeq, dRet, dNext, dIf, dAnd, dOr, dNot, dIfE, dApp, dCons, dNil, dVar, dC, dBin, dUn, dCall, dChain, dRaise, dDrop, dAsg, dgName, dPar, dTup, dLst, startD, c1D, c2D, iiD, ltD, ixG, ixD, sqD, atI_0, atI_1, dget_tup, dget_lst, sp_is_number, sp_is_between, sp_is_tuple, sp_need_between, sp_need_few, sp_is_long, sp_need_digits, sp_is_row, sp_is_small_row, sp_is_term, sp_is_sum_told, sp_need_letters, sp_need_sum, sp_ten_up])
end Law
namespace Law
open PySem PySem.Spec PyProof.Rows L2 LamX TL
theorem not_long {c : Int} (h : c.natAbs < 10000000000000000000000000000000000000000000000000000000000000000) (m : Int) : isLong c m = false := by
  unfold isLong
  rw [decide_eq_false (by omega), Bool.false_and]
theorem pl_few_terms (c : Wc) : PL sp_few_terms 3 (rd_few_terms c) := by
  intro ds M q x b1 b2 h; simp only [sp_few_terms] at h; split at h; case h_2 => exact h.elim
  rename_i ps
  obtain ⟨ts, rfl, hk, h⟩ := h
  simp [dSeq, dRet, dNext, dIf, dAnd, dOr, dNot, dIfE, dApp, dCons, dNil, dVar, dC, dBin, dUn, dCall, dChain, dRaise, dDrop, dAsg, dgName, dPar, dTup, dLst, startD, c1D, c2D, iiD, ltD, ixG, ixD, sqD, atI_0, atI_1, dget_tup, dget_lst, sp_is_number, sp_is_between, sp_is_tuple, sp_need_between, sp_need_few, sp_is_long, sp_need_digits, sp_is_row, sp_is_small_row, sp_is_term, sp_is_sum_told, sp_need_letters, sp_need_sum, sp_ten_up, sp_is_sum, sp_letter_sum, sp_number_sum, sp_letter_told, sp_number_told, rd_few_terms, lenD]
  by_cases h2 : 2000 < ts.length
  · rw [if_pos h2] at h
    rw [if_pos (by omega)]
    exact gcX_here rfl b1 h
  · rw [if_neg h2] at h
    rw [if_neg (by omega)]
    simp only [dFor, dSeqI, dVar]
    refine ⟨_, rfl, ?_⟩
    simp only [seqItems]
    refine wFor_inv (fun rest σ M' => ∃ us a b, rest = us.map trm ∧ (∀ t ∈ us, okT t) ∧ M' = M ∧ σ = [some (.tup (ts.map trm)), a, b]) ?_ ?_ _ _ _ ⟨ts, none, none, rfl, hk, rfl, rfl⟩
    · rintro σ M' ⟨us, a, b, h1, -, rfl, rfl⟩
      refine ⟨trivial, _, rfl, ?_⟩
      exact gcQ_here (by rw [D.bd]; exact bd_trms ts) b1 h
    · rintro d rest σ M' K ⟨us, a, b, h1, h2, rfl, rfl⟩ hrt hbk hnx hct
      cases us with
      | nil => simp [dSeq, dRet, dNext, dIf, dAnd, dOr, dNot, dIfE, dApp, dCons, dNil, dVar, dC, dBin, dUn, dCall, dChain, dRaise, dDrop, dAsg, dgName, dPar, dTup, dLst, startD, c1D, c2D, iiD, ltD, ixG, ixD, sqD, atI_0, atI_1, dget_tup, dget_lst, sp_is_number, sp_is_between, sp_is_tuple, sp_need_between, sp_need_few, sp_is_long, sp_need_digits, sp_is_row, sp_is_small_row, sp_is_term, sp_is_sum_told, sp_need_letters, sp_need_sum, sp_ten_up, sp_is_sum, sp_letter_sum, sp_number_sum, sp_letter_told, sp_number_told] at h1
      | cons t us =>
        simp only [List.map_cons, List.cons.injEq] at h1
        obtain ⟨rfl, rfl⟩ := h1
        refine ⟨trivial, [rowD t.1, .int t.2], rfl, rfl, ?_⟩
        refine ⟨_, _, rfl, ?_⟩
        refine ⟨_, _, rfl, ?_⟩
        refine ⟨rfl, ?_⟩
        obtain ⟨k1, k2, k3⟩ := h2 t (by simp [dSeq, dRet, dNext, dIf, dAnd, dOr, dNot, dIfE, dApp, dCons, dNil, dVar, dC, dBin, dUn, dCall, dChain, dRaise, dDrop, dAsg, dgName, dPar, dTup, dLst, startD, c1D, c2D, iiD, ltD, ixG, ixD, sqD, atI_0, atI_1, dget_tup, dget_lst, sp_is_number, sp_is_between, sp_is_tuple, sp_need_between, sp_need_few, sp_is_long, sp_need_digits, sp_is_row, sp_is_small_row, sp_is_term, sp_is_sum_told, sp_need_letters, sp_need_sum, sp_ten_up, sp_is_sum, sp_letter_sum, sp_number_sum, sp_letter_told, sp_number_told])
        have sm : ((t.1.map D.int).all isI) = true := by simp [dSeq, dRet, dNext, dIf, dAnd, dOr, dNot, dIfE, dApp, dCons, dNil, dVar, dC, dBin, dUn, dCall, dChain, dRaise, dDrop, dAsg, dgName, dPar, dTup, dLst, startD, c1D, c2D, iiD, ltD, ixG, ixD, sqD, atI_0, atI_1, dget_tup, dget_lst, sp_is_number, sp_is_between, sp_is_tuple, sp_need_between, sp_need_few, sp_is_long, sp_need_digits, sp_is_row, sp_is_small_row, sp_is_term, sp_is_sum_told, sp_need_letters, sp_need_sum, sp_ten_up, sp_is_sum, sp_letter_sum, sp_number_sum, sp_letter_told, sp_number_told, isI]
        have sm2 : ((t.1.map D.int).all fun e => small (iOf e)) = true := by rw [List.all_map]; exact k2
        simp only [dSeq, dDrop, dCall, dCons, dNil, dVar, dC, dIf, dNot, sp_need_digits, sp_is_small_row, rowD]
        refine ⟨_, rfl, by omega, by omega, ?_⟩
        rw [not_long k3, if_neg (by simp [dSeq, dRet, dNext, dIf, dAnd, dOr, dNot, dIfE, dApp, dCons, dNil, dVar, dC, dBin, dUn, dCall, dChain, dRaise, dDrop, dAsg, dgName, dPar, dTup, dLst, startD, c1D, c2D, iiD, ltD, ixG, ixD, sqD, atI_0, atI_1, dget_tup, dget_lst, sp_is_number, sp_is_between, sp_is_tuple, sp_need_between, sp_need_few, sp_is_long, sp_need_digits, sp_is_row, sp_is_small_row, sp_is_term, sp_is_sum_told, sp_need_letters, sp_need_sum, sp_ten_up, sp_is_sum, sp_letter_sum, sp_number_sum, sp_letter_told, sp_number_told])]
        refine ⟨_, rfl, by simpa [dSeq, dRet, dNext, dIf, dAnd, dOr, dNot, dIfE, dApp, dCons, dNil, dVar, dC, dBin, dUn, dCall, dChain, dRaise, dDrop, dAsg, dgName, dPar, dTup, dLst, startD, c1D, c2D, iiD, ltD, ixG, ixD, sqD, atI_0, atI_1, dget_tup, dget_lst, sp_is_number, sp_is_between, sp_is_tuple, sp_need_between, sp_need_few, sp_is_long, sp_need_digits, sp_is_row, sp_is_small_row, sp_is_term, sp_is_sum_told, sp_need_letters, sp_need_sum, sp_ten_up, sp_is_sum, sp_letter_sum, sp_number_sum, sp_letter_told, sp_number_told] using small_sz (by omega), sm, true, by rw [sm2], by
          simp only [Bool.not_true]
          refine ⟨_, rfl, ?_⟩
          rw [if_neg (by simp [dSeq, dRet, dNext, dIf, dAnd, dOr, dNot, dIfE, dApp, dCons, dNil, dVar, dC, dBin, dUn, dCall, dChain, dRaise, dDrop, dAsg, dgName, dPar, dTup, dLst, startD, c1D, c2D, iiD, ltD, ixG, ixD, sqD, atI_0, atI_1, dget_tup, dget_lst, sp_is_number, sp_is_between, sp_is_tuple, sp_need_between, sp_need_few, sp_is_long, sp_need_digits, sp_is_row, sp_is_small_row, sp_is_term, sp_is_sum_told, sp_need_letters, sp_need_sum, sp_ten_up, sp_is_sum, sp_letter_sum, sp_number_sum, sp_letter_told, sp_number_told])]
          exact hnx _ _ ⟨us, _, _, rfl, fun t' ht => h2 t' (by simp [dSeq, dRet, dNext, dIf, dAnd, dOr, dNot, dIfE, dApp, dCons, dNil, dVar, dC, dBin, dUn, dCall, dChain, dRaise, dDrop, dAsg, dgName, dPar, dTup, dLst, startD, c1D, c2D, iiD, ltD, ixG, ixD, sqD, atI_0, atI_1, dget_tup, dget_lst, sp_is_number, sp_is_between, sp_is_tuple, sp_need_between, sp_need_few, sp_is_long, sp_need_digits, sp_is_row, sp_is_small_row, sp_is_term, sp_is_sum_told, sp_need_letters, sp_need_sum, sp_ten_up, sp_is_sum, sp_letter_sum, sp_number_sum, sp_letter_told, sp_number_told, ht]), rfl, rfl⟩⟩
theorem pl_letter_told (c : Wc) : PL sp_letter_told 3 (rd_letter_told c) := by
  intro ds M q x b1 b2 h; simp only [sp_letter_told] at h; split at h; case h_2 => exact h.elim
  rename_i v k
  obtain ⟨h0, h1, h⟩ := h
  simp [dSeq, dRet, dNext, dIf, dAnd, dOr, dNot, dIfE, dApp, dCons, dNil, dVar, dC, dBin, dUn, dCall, dChain, dRaise, dDrop, dAsg, dgName, dPar, dTup, dLst, startD, c1D, c2D, iiD, ltD, ixG, ixD, sqD, atI_0, atI_1, dget_tup, dget_lst, sp_is_number, sp_is_between, sp_is_tuple, sp_need_between, sp_need_few, sp_is_long, sp_need_digits, sp_is_row, sp_is_small_row, sp_is_term, sp_is_sum_told, sp_need_letters, sp_need_sum, sp_ten_up, sp_is_sum, sp_letter_sum, sp_number_sum, sp_letter_told, sp_number_told, rd_letter_told]
  simp only [dLc, dRg2, dBin, dVar, dC]
  refine ⟨_, rfl, ?_⟩
  simp only [addD]
  refine ⟨1, v + 1, rfl, rfl, by omega, ?_⟩
  have hn : (v + 1 - 1).toNat = v.toNat := by congr 1; omega
  rw [hn]
  refine wLc_pure (fun d => .int (if iOf d = k then 1 else 0)) trivial (rgD 1 v.toNat) [] (by rw [rgD_len]; have := small_sz (n := v.toNat) (by omega); simp only [List.length_nil, Nat.zero_add]; exact this) ?_ fun d hd q hq => ?_
  · simp [dSeq, dRet, dNext, dIf, dAnd, dOr, dNot, dIfE, dApp, dCons, dNil, dVar, dC, dBin, dUn, dCall, dChain, dRaise, dDrop, dAsg, dgName, dPar, dTup, dLst, startD, c1D, c2D, iiD, ltD, ixG, ixD, sqD, atI_0, atI_1, dget_tup, dget_lst, sp_is_number, sp_is_between, sp_is_tuple, sp_need_between, sp_need_few, sp_is_long, sp_need_digits, sp_is_row, sp_is_small_row, sp_is_term, sp_is_sum_told, sp_need_letters, sp_need_sum, sp_ten_up, sp_is_sum, sp_letter_sum, sp_number_sum, sp_letter_told, sp_number_told, mkL, tupOfD, lsD]
    refine ⟨small_sz (by omega), small_sz (by omega), ?_⟩
    have e : (rgD 1 v.toNat).map (fun d => D.int (if iOf d = k then 1 else 0)) = (letR v.toNat (k - 1)).map D.int := by
      simp only [rgD_map, letR, List.map_map]
      refine List.map_congr_left fun i _ => ?_
      by_cases h : 1 + (i : Int) = k
      · have h' : (i : Int) = k - 1 := by omega
        simp [dSeq, dRet, dNext, dIf, dAnd, dOr, dNot, dIfE, dApp, dCons, dNil, dVar, dC, dBin, dUn, dCall, dChain, dRaise, dDrop, dAsg, dgName, dPar, dTup, dLst, startD, c1D, c2D, iiD, ltD, ixG, ixD, sqD, atI_0, atI_1, dget_tup, dget_lst, sp_is_number, sp_is_between, sp_is_tuple, sp_need_between, sp_need_few, sp_is_long, sp_need_digits, sp_is_row, sp_is_small_row, sp_is_term, sp_is_sum_told, sp_need_letters, sp_need_sum, sp_ten_up, sp_is_sum, sp_letter_sum, sp_number_sum, sp_letter_told, sp_number_told, iOf, h, h'] <;> omega
      · have h' : ¬ (i : Int) = k - 1 := by omega
        simp [dSeq, dRet, dNext, dIf, dAnd, dOr, dNot, dIfE, dApp, dCons, dNil, dVar, dC, dBin, dUn, dCall, dChain, dRaise, dDrop, dAsg, dgName, dPar, dTup, dLst, startD, c1D, c2D, iiD, ltD, ixG, ixD, sqD, atI_0, atI_1, dget_tup, dget_lst, sp_is_number, sp_is_between, sp_is_tuple, sp_need_between, sp_need_few, sp_is_long, sp_need_digits, sp_is_row, sp_is_small_row, sp_is_term, sp_is_sum_told, sp_need_letters, sp_need_sum, sp_ten_up, sp_is_sum, sp_letter_sum, sp_number_sum, sp_letter_told, sp_number_told, iOf, h, h']
    rw [e]
    exact gcQ_here (bd_sm [(letR v.toNat (k - 1), 1)]) b1 h
  · obtain ⟨i, hi, rfl⟩ := rgD_mem hd
    simp [dSeq, dRet, dNext, dIf, dAnd, dOr, dNot, dIfE, dApp, dCons, dNil, dVar, dC, dBin, dUn, dCall, dChain, dRaise, dDrop, dAsg, dgName, dPar, dTup, dLst, startD, c1D, c2D, iiD, ltD, ixG, ixD, sqD, atI_0, atI_1, dget_tup, dget_lst, sp_is_number, sp_is_between, sp_is_tuple, sp_need_between, sp_need_few, sp_is_long, sp_need_digits, sp_is_row, sp_is_small_row, sp_is_term, sp_is_sum_told, sp_need_letters, sp_need_sum, sp_ten_up, sp_is_sum, sp_letter_sum, sp_number_sum, sp_letter_told, sp_number_told, wipeD, eqD, TL.intD]
    by_cases h : 1 + (i : Int) = k
    · simp [dSeq, dRet, dNext, dIf, dAnd, dOr, dNot, dIfE, dApp, dCons, dNil, dVar, dC, dBin, dUn, dCall, dChain, dRaise, dDrop, dAsg, dgName, dPar, dTup, dLst, startD, c1D, c2D, iiD, ltD, ixG, ixD, sqD, atI_0, atI_1, dget_tup, dget_lst, sp_is_number, sp_is_between, sp_is_tuple, sp_need_between, sp_need_few, sp_is_long, sp_need_digits, sp_is_row, sp_is_small_row, sp_is_term, sp_is_sum_told, sp_need_letters, sp_need_sum, sp_ten_up, sp_is_sum, sp_letter_sum, sp_number_sum, sp_letter_told, sp_number_told, iOf, h] at hq; simpa [dSeq, dRet, dNext, dIf, dAnd, dOr, dNot, dIfE, dApp, dCons, dNil, dVar, dC, dBin, dUn, dCall, dChain, dRaise, dDrop, dAsg, dgName, dPar, dTup, dLst, startD, c1D, c2D, iiD, ltD, ixG, ixD, sqD, atI_0, atI_1, dget_tup, dget_lst, sp_is_number, sp_is_between, sp_is_tuple, sp_need_between, sp_need_few, sp_is_long, sp_need_digits, sp_is_row, sp_is_small_row, sp_is_term, sp_is_sum_told, sp_need_letters, sp_need_sum, sp_ten_up, sp_is_sum, sp_letter_sum, sp_number_sum, sp_letter_told, sp_number_told, h] using hq
    · simp [dSeq, dRet, dNext, dIf, dAnd, dOr, dNot, dIfE, dApp, dCons, dNil, dVar, dC, dBin, dUn, dCall, dChain, dRaise, dDrop, dAsg, dgName, dPar, dTup, dLst, startD, c1D, c2D, iiD, ltD, ixG, ixD, sqD, atI_0, atI_1, dget_tup, dget_lst, sp_is_number, sp_is_between, sp_is_tuple, sp_need_between, sp_need_few, sp_is_long, sp_need_digits, sp_is_row, sp_is_small_row, sp_is_term, sp_is_sum_told, sp_need_letters, sp_need_sum, sp_ten_up, sp_is_sum, sp_letter_sum, sp_number_sum, sp_letter_told, sp_number_told, iOf, h] at hq; simpa [dSeq, dRet, dNext, dIf, dAnd, dOr, dNot, dIfE, dApp, dCons, dNil, dVar, dC, dBin, dUn, dCall, dChain, dRaise, dDrop, dAsg, dgName, dPar, dTup, dLst, startD, c1D, c2D, iiD, ltD, ixG, ixD, sqD, atI_0, atI_1, dget_tup, dget_lst, sp_is_number, sp_is_between, sp_is_tuple, sp_need_between, sp_need_few, sp_is_long, sp_need_digits, sp_is_row, sp_is_small_row, sp_is_term, sp_is_sum_told, sp_need_letters, sp_need_sum, sp_ten_up, sp_is_sum, sp_letter_sum, sp_number_sum, sp_letter_told, sp_number_told, h] using hq
theorem flat_zero (n : Nat) : (List.replicate n [D.int 0]).flatten = (List.replicate n (0 : Int)).map D.int := by
  induction n with
  | zero => rfl
  | succ n ih => rw [List.replicate_succ, List.flatten_cons, ih, List.replicate_succ]; rfl
theorem pl_number_told (c : Wc) : PL sp_number_told 2 (rd_number_told c) := by
  intro ds M q x b1 b2 h; simp only [sp_number_told] at h; split at h; case h_2 => exact h.elim
  rename_i v n
  obtain ⟨h0, h1, h⟩ := h
  simp [dSeq, dRet, dNext, dIf, dAnd, dOr, dNot, dIfE, dApp, dCons, dNil, dVar, dC, dBin, dUn, dCall, dChain, dRaise, dDrop, dAsg, dgName, dPar, dTup, dLst, startD, c1D, c2D, iiD, ltD, ixG, ixD, sqD, atI_0, atI_1, dget_tup, dget_lst, sp_is_number, sp_is_between, sp_is_tuple, sp_need_between, sp_need_few, sp_is_long, sp_need_digits, sp_is_row, sp_is_small_row, sp_is_term, sp_is_sum_told, sp_need_letters, sp_need_sum, sp_ten_up, sp_is_sum, sp_letter_sum, sp_number_sum, sp_letter_told, sp_number_told, rd_number_told, neD, eqD]
  by_cases h2 : n = 0
  · subst h2
    simp [dSeq, dRet, dNext, dIf, dAnd, dOr, dNot, dIfE, dApp, dCons, dNil, dVar, dC, dBin, dUn, dCall, dChain, dRaise, dDrop, dAsg, dgName, dPar, dTup, dLst, startD, c1D, c2D, iiD, ltD, ixG, ixD, sqD, atI_0, atI_1, dget_tup, dget_lst, sp_is_number, sp_is_between, sp_is_tuple, sp_need_between, sp_need_few, sp_is_long, sp_need_digits, sp_is_row, sp_is_small_row, sp_is_term, sp_is_sum_told, sp_need_letters, sp_need_sum, sp_ten_up, sp_is_sum, sp_letter_sum, sp_number_sum, sp_letter_told, sp_number_told] at h ⊢
    exact gcQ_here rfl b1 h
  · simp [dSeq, dRet, dNext, dIf, dAnd, dOr, dNot, dIfE, dApp, dCons, dNil, dVar, dC, dBin, dUn, dCall, dChain, dRaise, dDrop, dAsg, dgName, dPar, dTup, dLst, startD, c1D, c2D, iiD, ltD, ixG, ixD, sqD, atI_0, atI_1, dget_tup, dget_lst, sp_is_number, sp_is_between, sp_is_tuple, sp_need_between, sp_need_few, sp_is_long, sp_need_digits, sp_is_row, sp_is_small_row, sp_is_term, sp_is_sum_told, sp_need_letters, sp_need_sum, sp_ten_up, sp_is_sum, sp_letter_sum, sp_number_sum, sp_letter_told, sp_number_told, h2] at h ⊢
    refine ⟨small_sz (by omega), ?_⟩
    simp only [mulD]
    refine ⟨by simp [dSeq, dRet, dNext, dIf, dAnd, dOr, dNot, dIfE, dApp, dCons, dNil, dVar, dC, dBin, dUn, dCall, dChain, dRaise, dDrop, dAsg, dgName, dPar, dTup, dLst, startD, c1D, c2D, iiD, ltD, ixG, ixD, sqD, atI_0, atI_1, dget_tup, dget_lst, sp_is_number, sp_is_between, sp_is_tuple, sp_need_between, sp_need_few, sp_is_long, sp_need_digits, sp_is_row, sp_is_small_row, sp_is_term, sp_is_sum_told, sp_need_letters, sp_need_sum, sp_ten_up, sp_is_sum, sp_letter_sum, sp_number_sum, sp_letter_told, sp_number_told]; omega, small_sz (by omega), small_sz (by omega), ?_⟩
    rw [flat_zero]
    exact gcQ_here (bd_sm [(List.replicate v.toNat 0, n)]) b1 h
theorem pl_is_sum (c : Wc) : PL sp_is_sum 2 (rd_is_sum c) := by
  intro ds M q x b1 b2 h; simp only [sp_is_sum] at h; split at h; case h_2 => exact h.elim
  obtain ⟨h1, h2, h⟩ := h
  rename_i vd d
  simp [dSeq, dRet, dNext, dIf, dAnd, dOr, dNot, dIfE, dApp, dCons, dNil, dVar, dC, dBin, dUn, dCall, dChain, dRaise, dDrop, dAsg, dgName, dPar, dTup, dLst, startD, c1D, c2D, iiD, ltD, ixG, ixD, sqD, atI_0, atI_1, dget_tup, dget_lst, sp_is_number, sp_is_between, sp_is_tuple, sp_need_between, sp_need_few, sp_is_long, sp_need_digits, sp_is_row, sp_is_small_row, sp_is_term, sp_is_sum_told, sp_need_letters, sp_need_sum, sp_ten_up, sp_is_sum, sp_letter_sum, sp_number_sum, sp_letter_told, sp_number_told, rd_is_sum, h1]
  by_cases h3 : btw vd 1 16 = true
  · cases vd <;> simp [dSeq, dRet, dNext, dIf, dAnd, dOr, dNot, dIfE, dApp, dCons, dNil, dVar, dC, dBin, dUn, dCall, dChain, dRaise, dDrop, dAsg, dgName, dPar, dTup, dLst, startD, c1D, c2D, iiD, ltD, ixG, ixD, sqD, atI_0, atI_1, dget_tup, dget_lst, sp_is_number, sp_is_between, sp_is_tuple, sp_need_between, sp_need_few, sp_is_long, sp_need_digits, sp_is_row, sp_is_small_row, sp_is_term, sp_is_sum_told, sp_need_letters, sp_need_sum, sp_ten_up, sp_is_sum, sp_letter_sum, sp_number_sum, sp_letter_told, sp_number_told, btw] at h3
    simp [dSeq, dRet, dNext, dIf, dAnd, dOr, dNot, dIfE, dApp, dCons, dNil, dVar, dC, dBin, dUn, dCall, dChain, dRaise, dDrop, dAsg, dgName, dPar, dTup, dLst, startD, c1D, c2D, iiD, ltD, ixG, ixD, sqD, atI_0, atI_1, dget_tup, dget_lst, sp_is_number, sp_is_between, sp_is_tuple, sp_need_between, sp_need_few, sp_is_long, sp_need_digits, sp_is_row, sp_is_small_row, sp_is_term, sp_is_sum_told, sp_need_letters, sp_need_sum, sp_ten_up, sp_is_sum, sp_letter_sum, sp_number_sum, sp_letter_told, sp_number_told, h2, h3, btw, iOf] at h ⊢
    exact gcQ_here rfl b1 h
  · simp [dSeq, dRet, dNext, dIf, dAnd, dOr, dNot, dIfE, dApp, dCons, dNil, dVar, dC, dBin, dUn, dCall, dChain, dRaise, dDrop, dAsg, dgName, dPar, dTup, dLst, startD, c1D, c2D, iiD, ltD, ixG, ixD, sqD, atI_0, atI_1, dget_tup, dget_lst, sp_is_number, sp_is_between, sp_is_tuple, sp_need_between, sp_need_few, sp_is_long, sp_need_digits, sp_is_row, sp_is_small_row, sp_is_term, sp_is_sum_told, sp_need_letters, sp_need_sum, sp_ten_up, sp_is_sum, sp_letter_sum, sp_number_sum, sp_letter_told, sp_number_told, h3] at h ⊢
    exact gcX_here rfl b1 h
theorem pl_letter_sum (c : Wc) : PL sp_letter_sum 2 (rd_letter_sum c) := by
  intro ds M q x b1 b2 h; simp only [sp_letter_sum] at h; split at h; case h_2 => exact h.elim
  obtain ⟨h1, h2, h3, h⟩ := h
  rename_i v k
  have hv : btw (.int v) 1 16 = true := by simp [dSeq, dRet, dNext, dIf, dAnd, dOr, dNot, dIfE, dApp, dCons, dNil, dVar, dC, dBin, dUn, dCall, dChain, dRaise, dDrop, dAsg, dgName, dPar, dTup, dLst, startD, c1D, c2D, iiD, ltD, ixG, ixD, sqD, atI_0, atI_1, dget_tup, dget_lst, sp_is_number, sp_is_between, sp_is_tuple, sp_need_between, sp_need_few, sp_is_long, sp_need_digits, sp_is_row, sp_is_small_row, sp_is_term, sp_is_sum_told, sp_need_letters, sp_need_sum, sp_ten_up, sp_is_sum, sp_letter_sum, sp_number_sum, sp_letter_told, sp_number_told, btw, h1, h2]
  simp [dSeq, dRet, dNext, dIf, dAnd, dOr, dNot, dIfE, dApp, dCons, dNil, dVar, dC, dBin, dUn, dCall, dChain, dRaise, dDrop, dAsg, dgName, dPar, dTup, dLst, startD, c1D, c2D, iiD, ltD, ixG, ixD, sqD, atI_0, atI_1, dget_tup, dget_lst, sp_is_number, sp_is_between, sp_is_tuple, sp_need_between, sp_need_few, sp_is_long, sp_need_digits, sp_is_row, sp_is_small_row, sp_is_term, sp_is_sum_told, sp_need_letters, sp_need_sum, sp_ten_up, sp_is_sum, sp_letter_sum, sp_number_sum, sp_letter_told, sp_number_told, rd_letter_sum, h3, hv, pln]
  by_cases h4 : btw k 1 v = true
  · cases k <;> simp [dSeq, dRet, dNext, dIf, dAnd, dOr, dNot, dIfE, dApp, dCons, dNil, dVar, dC, dBin, dUn, dCall, dChain, dRaise, dDrop, dAsg, dgName, dPar, dTup, dLst, startD, c1D, c2D, iiD, ltD, ixG, ixD, sqD, atI_0, atI_1, dget_tup, dget_lst, sp_is_number, sp_is_between, sp_is_tuple, sp_need_between, sp_need_few, sp_is_long, sp_need_digits, sp_is_row, sp_is_small_row, sp_is_term, sp_is_sum_told, sp_need_letters, sp_need_sum, sp_ten_up, sp_is_sum, sp_letter_sum, sp_number_sum, sp_letter_told, sp_number_told, btw] at h4
    simp [dSeq, dRet, dNext, dIf, dAnd, dOr, dNot, dIfE, dApp, dCons, dNil, dVar, dC, dBin, dUn, dCall, dChain, dRaise, dDrop, dAsg, dgName, dPar, dTup, dLst, startD, c1D, c2D, iiD, ltD, ixG, ixD, sqD, atI_0, atI_1, dget_tup, dget_lst, sp_is_number, sp_is_between, sp_is_tuple, sp_need_between, sp_need_few, sp_is_long, sp_need_digits, sp_is_row, sp_is_small_row, sp_is_term, sp_is_sum_told, sp_need_letters, sp_need_sum, sp_ten_up, sp_is_sum, sp_letter_sum, sp_number_sum, sp_letter_told, sp_number_told, h4, btw, iOf] at h ⊢
    exact ⟨by omega, by omega, gcQ_here (bd_sm _) b1 h⟩
  · simp [dSeq, dRet, dNext, dIf, dAnd, dOr, dNot, dIfE, dApp, dCons, dNil, dVar, dC, dBin, dUn, dCall, dChain, dRaise, dDrop, dAsg, dgName, dPar, dTup, dLst, startD, c1D, c2D, iiD, ltD, ixG, ixD, sqD, atI_0, atI_1, dget_tup, dget_lst, sp_is_number, sp_is_between, sp_is_tuple, sp_need_between, sp_need_few, sp_is_long, sp_need_digits, sp_is_row, sp_is_small_row, sp_is_term, sp_is_sum_told, sp_need_letters, sp_need_sum, sp_ten_up, sp_is_sum, sp_letter_sum, sp_number_sum, sp_letter_told, sp_number_told, h4] at h ⊢
    exact gcX_here rfl b1 h
theorem pl_number_sum (c : Wc) : PL sp_number_sum 2 (rd_number_sum c) := by
  intro ds M q x b1 b2 h; simp only [sp_number_sum] at h; split at h; case h_2 => exact h.elim
  obtain ⟨h1, h2, h3, h⟩ := h
  rename_i v n
  have hv : btw (.int v) 1 16 = true := by simp [dSeq, dRet, dNext, dIf, dAnd, dOr, dNot, dIfE, dApp, dCons, dNil, dVar, dC, dBin, dUn, dCall, dChain, dRaise, dDrop, dAsg, dgName, dPar, dTup, dLst, startD, c1D, c2D, iiD, ltD, ixG, ixD, sqD, atI_0, atI_1, dget_tup, dget_lst, sp_is_number, sp_is_between, sp_is_tuple, sp_need_between, sp_need_few, sp_is_long, sp_need_digits, sp_is_row, sp_is_small_row, sp_is_term, sp_is_sum_told, sp_need_letters, sp_need_sum, sp_ten_up, sp_is_sum, sp_letter_sum, sp_number_sum, sp_letter_told, sp_number_told, sp_few_terms, btw, h1, h2]
  simp [dSeq, dRet, dNext, dIf, dAnd, dOr, dNot, dIfE, dApp, dCons, dNil, dVar, dC, dBin, dUn, dCall, dChain, dRaise, dDrop, dAsg, dgName, dPar, dTup, dLst, startD, c1D, c2D, iiD, ltD, ixG, ixD, sqD, atI_0, atI_1, dget_tup, dget_lst, sp_is_number, sp_is_between, sp_is_tuple, sp_need_between, sp_need_few, sp_is_long, sp_need_digits, sp_is_row, sp_is_small_row, sp_is_term, sp_is_sum_told, sp_need_letters, sp_need_sum, sp_ten_up, sp_is_sum, sp_letter_sum, sp_number_sum, sp_letter_told, sp_number_told, sp_few_terms, rd_number_sum, h3, hv, pln]
  by_cases h4 : isI n = true
  · obtain ⟨n, rfl⟩ := isI_ex h4
    simp [dSeq, dRet, dNext, dIf, dAnd, dOr, dNot, dIfE, dApp, dCons, dNil, dVar, dC, dBin, dUn, dCall, dChain, dRaise, dDrop, dAsg, dgName, dPar, dTup, dLst, startD, c1D, c2D, iiD, ltD, ixG, ixD, sqD, atI_0, atI_1, dget_tup, dget_lst, sp_is_number, sp_is_between, sp_is_tuple, sp_need_between, sp_need_few, sp_is_long, sp_need_digits, sp_is_row, sp_is_small_row, sp_is_term, sp_is_sum_told, sp_need_letters, sp_need_sum, sp_ten_up, sp_is_sum, sp_letter_sum, sp_number_sum, sp_letter_told, sp_number_told, sp_few_terms, h4, iOf] at h ⊢
    refine ⟨by omega, by omega, ?_⟩
    simp only [smD]
    refine ⟨if n = 0 then [] else [(List.replicate v.toNat 0, n)], rfl, ?_, ?_⟩
    · intro t1 t2 ht
      by_cases h5 : n = 0
      · rw [if_pos h5] at ht; cases ht
      · rw [if_neg h5] at ht
        cases List.mem_singleton.mp ht
        exact ⟨by simp [dSeq, dRet, dNext, dIf, dAnd, dOr, dNot, dIfE, dApp, dCons, dNil, dVar, dC, dBin, dUn, dCall, dChain, dRaise, dDrop, dAsg, dgName, dPar, dTup, dLst, startD, c1D, c2D, iiD, ltD, ixG, ixD, sqD, atI_0, atI_1, dget_tup, dget_lst, sp_is_number, sp_is_between, sp_is_tuple, sp_need_between, sp_need_few, sp_is_long, sp_need_digits, sp_is_row, sp_is_small_row, sp_is_term, sp_is_sum_told, sp_need_letters, sp_need_sum, sp_ten_up, sp_is_sum, sp_letter_sum, sp_number_sum, sp_letter_told, sp_number_told, sp_few_terms]; omega, by simp [dSeq, dRet, dNext, dIf, dAnd, dOr, dNot, dIfE, dApp, dCons, dNil, dVar, dC, dBin, dUn, dCall, dChain, dRaise, dDrop, dAsg, dgName, dPar, dTup, dLst, startD, c1D, c2D, iiD, ltD, ixG, ixD, sqD, atI_0, atI_1, dget_tup, dget_lst, sp_is_number, sp_is_between, sp_is_tuple, sp_need_between, sp_need_few, sp_is_long, sp_need_digits, sp_is_row, sp_is_small_row, sp_is_term, sp_is_sum_told, sp_need_letters, sp_need_sum, sp_ten_up, sp_is_sum, sp_letter_sum, sp_number_sum, sp_letter_told, sp_number_told, sp_few_terms, small], h.1⟩
    · by_cases h5 : n = 0
      · subst h5
        simp [dSeq, dRet, dNext, dIf, dAnd, dOr, dNot, dIfE, dApp, dCons, dNil, dVar, dC, dBin, dUn, dCall, dChain, dRaise, dDrop, dAsg, dgName, dPar, dTup, dLst, startD, c1D, c2D, iiD, ltD, ixG, ixD, sqD, atI_0, atI_1, dget_tup, dget_lst, sp_is_number, sp_is_between, sp_is_tuple, sp_need_between, sp_need_few, sp_is_long, sp_need_digits, sp_is_row, sp_is_small_row, sp_is_term, sp_is_sum_told, sp_need_letters, sp_need_sum, sp_ten_up, sp_is_sum, sp_letter_sum, sp_number_sum, sp_letter_told, sp_number_told, sp_few_terms, smD] at h ⊢
        exact gcQ_here rfl b1 h
      · simp [dSeq, dRet, dNext, dIf, dAnd, dOr, dNot, dIfE, dApp, dCons, dNil, dVar, dC, dBin, dUn, dCall, dChain, dRaise, dDrop, dAsg, dgName, dPar, dTup, dLst, startD, c1D, c2D, iiD, ltD, ixG, ixD, sqD, atI_0, atI_1, dget_tup, dget_lst, sp_is_number, sp_is_between, sp_is_tuple, sp_need_between, sp_need_few, sp_is_long, sp_need_digits, sp_is_row, sp_is_small_row, sp_is_term, sp_is_sum_told, sp_need_letters, sp_need_sum, sp_ten_up, sp_is_sum, sp_letter_sum, sp_number_sum, sp_letter_told, sp_number_told, sp_few_terms, h5] at h ⊢
        exact gcQ_here (bd_sm [(List.replicate v.toNat 0, n)]) b1 h.2
  · simp [dSeq, dRet, dNext, dIf, dAnd, dOr, dNot, dIfE, dApp, dCons, dNil, dVar, dC, dBin, dUn, dCall, dChain, dRaise, dDrop, dAsg, dgName, dPar, dTup, dLst, startD, c1D, c2D, iiD, ltD, ixG, ixD, sqD, atI_0, atI_1, dget_tup, dget_lst, sp_is_number, sp_is_between, sp_is_tuple, sp_need_between, sp_need_few, sp_is_long, sp_need_digits, sp_is_row, sp_is_small_row, sp_is_term, sp_is_sum_told, sp_need_letters, sp_need_sum, sp_ten_up, sp_is_sum, sp_letter_sum, sp_number_sum, sp_letter_told, sp_number_told, sp_few_terms, h4] at h ⊢
    exact gcX_here rfl b1 h
end Law
namespace Law
open PySem PySem.Spec PyProof.Rows L2 LamX TL
/-- what a told sum is -/
theorem isSum_ex {v : Int} {d : D} (h : isSum v d = true) : ∃ ts, d = smD ts ∧ ts.length ≤ 2000 ∧ (∀ t ∈ ts, (t.1.length : Int) = v ∧ t.1.all small = true ∧ isLong t.2 4000 = false) := by
  unfold isSum at h
  split at h
  · rename_i ds
    simp only [Bool.and_eq_true, decide_eq_true_eq] at h
    obtain ⟨⟨⟨h1, h2⟩, h3⟩, h4⟩ := h
    clear h3 h4
    suffices hh : ∃ ts : List (List Int × Int), ds = ts.map trm ∧ ts.length = ds.length ∧ ∀ t ∈ ts, (t.1.length : Int) = v ∧ t.1.all small = true ∧ isLong t.2 4000 = false by
      obtain ⟨ts, e, e2, h⟩ := hh
      exact ⟨ts, by rw [e]; rfl, by omega, h⟩
    clear h1
    induction ds with
    | nil => exact ⟨[], rfl, rfl, by simp [dSeq, dRet, dNext, dIf, dAnd, dOr, dNot, dIfE, dApp, dCons, dNil, dVar, dC, dBin, dUn, dCall, dChain, dRaise, dDrop, dAsg, dgName, dPar, dTup, dLst, startD, c1D, c2D, iiD, ltD, ixG, ixD, sqD, atI_0, atI_1, dget_tup, dget_lst, sp_is_number, sp_is_between, sp_is_tuple, sp_need_between, sp_need_few, sp_is_long, sp_need_digits, sp_is_row, sp_is_small_row, sp_is_term, sp_is_sum_told, sp_need_letters, sp_need_sum, sp_ten_up, sp_is_sum, sp_letter_sum, sp_number_sum, sp_letter_told, sp_number_told]⟩
    | cons d ds ih =>
      simp only [List.all_cons, Bool.and_eq_true] at h2
      obtain ⟨ts, e, e2, h⟩ := ih h2.2
      obtain ⟨r, k, e3, h5, h6, h7⟩ := isTerm_ex h2.1
      refine ⟨(r, k) :: ts, by rw [List.map_cons, e3, e]; rfl, by simp [dSeq, dRet, dNext, dIf, dAnd, dOr, dNot, dIfE, dApp, dCons, dNil, dVar, dC, dBin, dUn, dCall, dChain, dRaise, dDrop, dAsg, dgName, dPar, dTup, dLst, startD, c1D, c2D, iiD, ltD, ixG, ixD, sqD, atI_0, atI_1, dget_tup, dget_lst, sp_is_number, sp_is_between, sp_is_tuple, sp_need_between, sp_need_few, sp_is_long, sp_need_digits, sp_is_row, sp_is_small_row, sp_is_term, sp_is_sum_told, sp_need_letters, sp_need_sum, sp_ten_up, sp_is_sum, sp_letter_sum, sp_number_sum, sp_letter_told, sp_number_told, e2], ?_⟩
      intro t ht
      rcases List.mem_cons.mp ht with rfl | ht
      · exact ⟨h5, h6, h7⟩
      · exact h t ht
  · cases h
theorem smD_inj {a b : List (List Int × Int)} (h : smD a = smD b) : a = b := by
  simp only [smD, D.tup.injEq] at h
  refine (List.map_inj_right ?_).mp h
  rintro ⟨e, c⟩ ⟨e', c'⟩ h
  simp only [trm, rowD, D.tup.injEq, List.cons.injEq, D.int.injEq, and_true] at h
  obtain ⟨h1, h2⟩ := h
  have := (List.map_inj_right (fun _ _ => D.int.inj)).mp h1
  rw [this, h2]
theorem eqOk_sm {ts : List (List Int × Int)} (hl : ts.length ≤ sizeLine) (h : ∀ t ∈ ts, t.1.length ≤ sizeLine) : eqOk (smD ts) := by
  refine ⟨pln_sm hl h, ?_⟩
  have a : ∀ ts : List (List Int × Int), (∀ t ∈ ts, t.1.length ≤ sizeLine) → PyData.canLayAll0 (pdvL (ts.map trm)) = true ∧ PyData.depthAll (pdvL (ts.map trm)) ≤ 2 := by
    intro ts
    induction ts with
    | nil => intro _; exact ⟨rfl, Nat.zero_le _⟩
    | cons t ts ih =>
      intro h
      obtain ⟨i1, i2⟩ := ih fun t' ht => h t' (by simp [dSeq, dRet, dNext, dIf, dAnd, dOr, dNot, dIfE, dApp, dCons, dNil, dVar, dC, dBin, dUn, dCall, dChain, dRaise, dDrop, dAsg, dgName, dPar, dTup, dLst, startD, c1D, c2D, iiD, ltD, ixG, ixD, sqD, atI_0, atI_1, dget_tup, dget_lst, sp_is_number, sp_is_between, sp_is_tuple, sp_need_between, sp_need_few, sp_is_long, sp_need_digits, sp_is_row, sp_is_small_row, sp_is_term, sp_is_sum_told, sp_need_letters, sp_need_sum, sp_ten_up, sp_is_sum, sp_letter_sum, sp_number_sum, sp_letter_told, sp_number_told, ht])
      have hr := (eqOk_row (h t (by simp [dSeq, dRet, dNext, dIf, dAnd, dOr, dNot, dIfE, dApp, dCons, dNil, dVar, dC, dBin, dUn, dCall, dChain, dRaise, dDrop, dAsg, dgName, dPar, dTup, dLst, startD, c1D, c2D, iiD, ltD, ixG, ixD, sqD, atI_0, atI_1, dget_tup, dget_lst, sp_is_number, sp_is_between, sp_is_tuple, sp_need_between, sp_need_few, sp_is_long, sp_need_digits, sp_is_row, sp_is_small_row, sp_is_term, sp_is_sum_told, sp_need_letters, sp_need_sum, sp_ten_up, sp_is_sum, sp_letter_sum, sp_number_sum, sp_letter_told, sp_number_told]))).2
      have c1 := PySem.SeqAt.canLay_of_shaped hr
      have d1 : (pdv (rowD t.1)).depth ≤ 1 := by
        have : ∀ e : List Int, PyData.depthAll (pdvL (e.map D.int)) = 0 := by
          intro e
          induction e with
          | nil => rfl
          | cons i e ih => simp [dSeq, dRet, dNext, dIf, dAnd, dOr, dNot, dIfE, dApp, dCons, dNil, dVar, dC, dBin, dUn, dCall, dChain, dRaise, dDrop, dAsg, dgName, dPar, dTup, dLst, startD, c1D, c2D, iiD, ltD, ixG, ixD, sqD, atI_0, atI_1, dget_tup, dget_lst, sp_is_number, sp_is_between, sp_is_tuple, sp_need_between, sp_need_few, sp_is_long, sp_need_digits, sp_is_row, sp_is_small_row, sp_is_term, sp_is_sum_told, sp_need_letters, sp_need_sum, sp_ten_up, sp_is_sum, sp_letter_sum, sp_number_sum, sp_letter_told, sp_number_told, pdvL, pdv, PyData.depthAll, PyData.depth, ih]
        simp [dSeq, dRet, dNext, dIf, dAnd, dOr, dNot, dIfE, dApp, dCons, dNil, dVar, dC, dBin, dUn, dCall, dChain, dRaise, dDrop, dAsg, dgName, dPar, dTup, dLst, startD, c1D, c2D, iiD, ltD, ixG, ixD, sqD, atI_0, atI_1, dget_tup, dget_lst, sp_is_number, sp_is_between, sp_is_tuple, sp_need_between, sp_need_few, sp_is_long, sp_need_digits, sp_is_row, sp_is_small_row, sp_is_term, sp_is_sum_told, sp_need_letters, sp_need_sum, sp_ten_up, sp_is_sum, sp_letter_sum, sp_number_sum, sp_letter_told, sp_number_told, rowD, pdv, PyData.depth, this]
      simp [dSeq, dRet, dNext, dIf, dAnd, dOr, dNot, dIfE, dApp, dCons, dNil, dVar, dC, dBin, dUn, dCall, dChain, dRaise, dDrop, dAsg, dgName, dPar, dTup, dLst, startD, c1D, c2D, iiD, ltD, ixG, ixD, sqD, atI_0, atI_1, dget_tup, dget_lst, sp_is_number, sp_is_between, sp_is_tuple, sp_need_between, sp_need_few, sp_is_long, sp_need_digits, sp_is_row, sp_is_small_row, sp_is_term, sp_is_sum_told, sp_need_letters, sp_need_sum, sp_ten_up, sp_is_sum, sp_letter_sum, sp_number_sum, sp_letter_told, sp_number_told, trm, pdvL, pdv, PyData.canLayAll0, PyData.canLay0, PyData.depthAll, PyData.depth, c1, i1]
      omega
  have := a ts h
  unfold SeqAt.shaped
  simp [dSeq, dRet, dNext, dIf, dAnd, dOr, dNot, dIfE, dApp, dCons, dNil, dVar, dC, dBin, dUn, dCall, dChain, dRaise, dDrop, dAsg, dgName, dPar, dTup, dLst, startD, c1D, c2D, iiD, ltD, ixG, ixD, sqD, atI_0, atI_1, dget_tup, dget_lst, sp_is_number, sp_is_between, sp_is_tuple, sp_need_between, sp_need_few, sp_is_long, sp_need_digits, sp_is_row, sp_is_small_row, sp_is_term, sp_is_sum_told, sp_need_letters, sp_need_sum, sp_ten_up, sp_is_sum, sp_letter_sum, sp_number_sum, sp_letter_told, sp_number_told, smD, pdv, PyData.canLay0, PyData.depth, this.1]
  omega
theorem eqv_nil (ts : List (List Int × Int)) : PyData.eqv (pdv (smD ts)) (pdv (.tup [])) = ts.isEmpty := by
  cases ts <;> simp [dSeq, dRet, dNext, dIf, dAnd, dOr, dNot, dIfE, dApp, dCons, dNil, dVar, dC, dBin, dUn, dCall, dChain, dRaise, dDrop, dAsg, dgName, dPar, dTup, dLst, startD, c1D, c2D, iiD, ltD, ixG, ixD, sqD, atI_0, atI_1, dget_tup, dget_lst, sp_is_number, sp_is_between, sp_is_tuple, sp_need_between, sp_need_few, sp_is_long, sp_need_digits, sp_is_row, sp_is_small_row, sp_is_term, sp_is_sum_told, sp_need_letters, sp_need_sum, sp_ten_up, sp_is_sum, sp_letter_sum, sp_number_sum, sp_letter_told, sp_number_told, smD, pdv, pdvL, PyData.eqv, PyData.eqvAll]
theorem pl_need_some_sum (c : Wc) : PL sp_need_some_sum 3 (rd_need_some_sum c) := by
  intro ds M q x b1 b2 h; simp only [sp_need_some_sum] at h; split at h; case h_2 => exact h.elim
  obtain ⟨h1, h⟩ := h
  rename_i v d p
  simp [dSeq, dRet, dNext, dIf, dAnd, dOr, dNot, dIfE, dApp, dCons, dNil, dVar, dC, dBin, dUn, dCall, dChain, dRaise, dDrop, dAsg, dgName, dPar, dTup, dLst, startD, c1D, c2D, iiD, ltD, ixG, ixD, sqD, atI_0, atI_1, dget_tup, dget_lst, sp_is_number, sp_is_between, sp_is_tuple, sp_need_between, sp_need_few, sp_is_long, sp_need_digits, sp_is_row, sp_is_small_row, sp_is_term, sp_is_sum_told, sp_need_letters, sp_need_sum, sp_ten_up, sp_is_sum, sp_letter_sum, sp_number_sum, sp_letter_told, sp_number_told, rd_need_some_sum, h1]
  by_cases h2 : isSum v d = true
  · obtain ⟨ts, rfl, hl, hk⟩ := isSum_ex h2
    simp [dSeq, dRet, dNext, dIf, dAnd, dOr, dNot, dIfE, dApp, dCons, dNil, dVar, dC, dBin, dUn, dCall, dChain, dRaise, dDrop, dAsg, dgName, dPar, dTup, dLst, startD, c1D, c2D, iiD, ltD, ixG, ixD, sqD, atI_0, atI_1, dget_tup, dget_lst, sp_is_number, sp_is_between, sp_is_tuple, sp_need_between, sp_need_few, sp_is_long, sp_need_digits, sp_is_row, sp_is_small_row, sp_is_term, sp_is_sum_told, sp_need_letters, sp_need_sum, sp_ten_up, sp_is_sum, sp_letter_sum, sp_number_sum, sp_letter_told, sp_number_told, h2]
    have hz : ∀ t ∈ ts, t.1.length ≤ sizeLine := fun t ht => by
      have hr := plnL_all.mp (show plnL (ts.map trm) = true by simp [dSeq, dRet, dNext, dIf, dAnd, dOr, dNot, dIfE, dApp, dCons, dNil, dVar, dC, dBin, dUn, dCall, dChain, dRaise, dDrop, dAsg, dgName, dPar, dTup, dLst, startD, c1D, c2D, iiD, ltD, ixG, ixD, sqD, atI_0, atI_1, dget_tup, dget_lst, sp_is_number, sp_is_between, sp_is_tuple, sp_need_between, sp_need_few, sp_is_long, sp_need_digits, sp_is_row, sp_is_small_row, sp_is_term, sp_is_sum_told, sp_need_letters, sp_need_sum, sp_ten_up, sp_is_sum, sp_letter_sum, sp_number_sum, sp_letter_told, sp_number_told, smD, pln] at h1; exact h1.2) (trm t) (List.mem_map_of_mem ht)
      simp [dSeq, dRet, dNext, dIf, dAnd, dOr, dNot, dIfE, dApp, dCons, dNil, dVar, dC, dBin, dUn, dCall, dChain, dRaise, dDrop, dAsg, dgName, dPar, dTup, dLst, startD, c1D, c2D, iiD, ltD, ixG, ixD, sqD, atI_0, atI_1, dget_tup, dget_lst, sp_is_number, sp_is_between, sp_is_tuple, sp_need_between, sp_need_few, sp_is_long, sp_need_digits, sp_is_row, sp_is_small_row, sp_is_term, sp_is_sum_told, sp_need_letters, sp_need_sum, sp_ten_up, sp_is_sum, sp_letter_sum, sp_number_sum, sp_letter_told, sp_number_told, trm, pln, plnL, rowD] at hr
      exact hr.2.1
    refine eqD_pln (y := .tup []) (eqOk_sm (small_sz (by omega)) hz) ⟨by simp [dSeq, dRet, dNext, dIf, dAnd, dOr, dNot, dIfE, dApp, dCons, dNil, dVar, dC, dBin, dUn, dCall, dChain, dRaise, dDrop, dAsg, dgName, dPar, dTup, dLst, startD, c1D, c2D, iiD, ltD, ixG, ixD, sqD, atI_0, atI_1, dget_tup, dget_lst, sp_is_number, sp_is_between, sp_is_tuple, sp_need_between, sp_need_few, sp_is_long, sp_need_digits, sp_is_row, sp_is_small_row, sp_is_term, sp_is_sum_told, sp_need_letters, sp_need_sum, sp_ten_up, sp_is_sum, sp_letter_sum, sp_number_sum, sp_letter_told, sp_number_told, pln, plnL], by simp [dSeq, dRet, dNext, dIf, dAnd, dOr, dNot, dIfE, dApp, dCons, dNil, dVar, dC, dBin, dUn, dCall, dChain, dRaise, dDrop, dAsg, dgName, dPar, dTup, dLst, startD, c1D, c2D, iiD, ltD, ixG, ixD, sqD, atI_0, atI_1, dget_tup, dget_lst, sp_is_number, sp_is_between, sp_is_tuple, sp_need_between, sp_need_few, sp_is_long, sp_need_digits, sp_is_row, sp_is_small_row, sp_is_term, sp_is_sum_told, sp_need_letters, sp_need_sum, sp_ten_up, sp_is_sum, sp_letter_sum, sp_number_sum, sp_letter_told, sp_number_told, pdv, pdvL, SeqAt.shaped, PyData.canLay0, PyData.canLayAll0, PyData.depth, PyData.depthAll]⟩ ?_
    rw [eqv_nil]
    have ee : isSome' v (smD ts) = !ts.isEmpty := by simp only [isSome', h2]; cases ts <;> simp [dSeq, dRet, dNext, dIf, dAnd, dOr, dNot, dIfE, dApp, dCons, dNil, dVar, dC, dBin, dUn, dCall, dChain, dRaise, dDrop, dAsg, dgName, dPar, dTup, dLst, startD, c1D, c2D, iiD, ltD, ixG, ixD, sqD, atI_0, atI_1, dget_tup, dget_lst, sp_is_number, sp_is_between, sp_is_tuple, sp_need_between, sp_need_few, sp_is_long, sp_need_digits, sp_is_row, sp_is_small_row, sp_is_term, sp_is_sum_told, sp_need_letters, sp_need_sum, sp_ten_up, sp_is_sum, sp_letter_sum, sp_number_sum, sp_letter_told, sp_number_told, smD, tpl]
    rw [ee] at h
    cases ts with
    | nil => simp [dSeq, dRet, dNext, dIf, dAnd, dOr, dNot, dIfE, dApp, dCons, dNil, dVar, dC, dBin, dUn, dCall, dChain, dRaise, dDrop, dAsg, dgName, dPar, dTup, dLst, startD, c1D, c2D, iiD, ltD, ixG, ixD, sqD, atI_0, atI_1, dget_tup, dget_lst, sp_is_number, sp_is_between, sp_is_tuple, sp_need_between, sp_need_few, sp_is_long, sp_need_digits, sp_is_row, sp_is_small_row, sp_is_term, sp_is_sum_told, sp_need_letters, sp_need_sum, sp_ten_up, sp_is_sum, sp_letter_sum, sp_number_sum, sp_letter_told, sp_number_told] at h ⊢; exact gcX_here (by simp [dSeq, dRet, dNext, dIf, dAnd, dOr, dNot, dIfE, dApp, dCons, dNil, dVar, dC, dBin, dUn, dCall, dChain, dRaise, dDrop, dAsg, dgName, dPar, dTup, dLst, startD, c1D, c2D, iiD, ltD, ixG, ixD, sqD, atI_0, atI_1, dget_tup, dget_lst, sp_is_number, sp_is_between, sp_is_tuple, sp_need_between, sp_need_few, sp_is_long, sp_need_digits, sp_is_row, sp_is_small_row, sp_is_term, sp_is_sum_told, sp_need_letters, sp_need_sum, sp_ten_up, sp_is_sum, sp_letter_sum, sp_number_sum, sp_letter_told, sp_number_told, D.bdL] at b2 ⊢; exact b2.2.2) b1 h
    | cons t ts => simp [dSeq, dRet, dNext, dIf, dAnd, dOr, dNot, dIfE, dApp, dCons, dNil, dVar, dC, dBin, dUn, dCall, dChain, dRaise, dDrop, dAsg, dgName, dPar, dTup, dLst, startD, c1D, c2D, iiD, ltD, ixG, ixD, sqD, atI_0, atI_1, dget_tup, dget_lst, sp_is_number, sp_is_between, sp_is_tuple, sp_need_between, sp_need_few, sp_is_long, sp_need_digits, sp_is_row, sp_is_small_row, sp_is_term, sp_is_sum_told, sp_need_letters, sp_need_sum, sp_ten_up, sp_is_sum, sp_letter_sum, sp_number_sum, sp_letter_told, sp_number_told] at h ⊢; exact gcQ_here rfl b1 h
  · simp [dSeq, dRet, dNext, dIf, dAnd, dOr, dNot, dIfE, dApp, dCons, dNil, dVar, dC, dBin, dUn, dCall, dChain, dRaise, dDrop, dAsg, dgName, dPar, dTup, dLst, startD, c1D, c2D, iiD, ltD, ixG, ixD, sqD, atI_0, atI_1, dget_tup, dget_lst, sp_is_number, sp_is_between, sp_is_tuple, sp_need_between, sp_need_few, sp_is_long, sp_need_digits, sp_is_row, sp_is_small_row, sp_is_term, sp_is_sum_told, sp_need_letters, sp_need_sum, sp_ten_up, sp_is_sum, sp_letter_sum, sp_number_sum, sp_letter_told, sp_number_told, h2]
    have ee : isSome' v d = false := by simp [dSeq, dRet, dNext, dIf, dAnd, dOr, dNot, dIfE, dApp, dCons, dNil, dVar, dC, dBin, dUn, dCall, dChain, dRaise, dDrop, dAsg, dgName, dPar, dTup, dLst, startD, c1D, c2D, iiD, ltD, ixG, ixD, sqD, atI_0, atI_1, dget_tup, dget_lst, sp_is_number, sp_is_between, sp_is_tuple, sp_need_between, sp_need_few, sp_is_long, sp_need_digits, sp_is_row, sp_is_small_row, sp_is_term, sp_is_sum_told, sp_need_letters, sp_need_sum, sp_ten_up, sp_is_sum, sp_letter_sum, sp_number_sum, sp_letter_told, sp_number_told, isSome', h2]
    rw [ee] at h
    simp [dSeq, dRet, dNext, dIf, dAnd, dOr, dNot, dIfE, dApp, dCons, dNil, dVar, dC, dBin, dUn, dCall, dChain, dRaise, dDrop, dAsg, dgName, dPar, dTup, dLst, startD, c1D, c2D, iiD, ltD, ixG, ixD, sqD, atI_0, atI_1, dget_tup, dget_lst, sp_is_number, sp_is_between, sp_is_tuple, sp_need_between, sp_need_few, sp_is_long, sp_need_digits, sp_is_row, sp_is_small_row, sp_is_term, sp_is_sum_told, sp_need_letters, sp_need_sum, sp_ten_up, sp_is_sum, sp_letter_sum, sp_number_sum, sp_letter_told, sp_number_told] at h
    exact gcX_here (by simp [dSeq, dRet, dNext, dIf, dAnd, dOr, dNot, dIfE, dApp, dCons, dNil, dVar, dC, dBin, dUn, dCall, dChain, dRaise, dDrop, dAsg, dgName, dPar, dTup, dLst, startD, c1D, c2D, iiD, ltD, ixG, ixD, sqD, atI_0, atI_1, dget_tup, dget_lst, sp_is_number, sp_is_between, sp_is_tuple, sp_need_between, sp_need_few, sp_is_long, sp_need_digits, sp_is_row, sp_is_small_row, sp_is_term, sp_is_sum_told, sp_need_letters, sp_need_sum, sp_ten_up, sp_is_sum, sp_letter_sum, sp_number_sum, sp_letter_told, sp_number_told, D.bdL] at b2 ⊢; exact b2.2.2) b1 h
theorem len_row {ts : List (List Int × Int)} {t : List Int × Int} {v : Nat} (h : ∀ t ∈ ts, t.1.length = v) (ht : t ∈ ts) {i : Nat} (hi : i < v) : (t.1.map D.int)[i]? = some (.int (t.1.getD i 0)) := by
  have := h t ht
  rw [List.getElem?_map, List.getD_eq_getElem?_getD]
  rw [List.getElem?_eq_getElem (by omega)]
  rfl
theorem minL_of {ns : List Int} {m : Int} (hm : m ∈ ns) (h : ∀ y, y ∈ ns → m ≤ y) : m = minL ns := by
  unfold minL
  have : ns.min? = some m := List.min?_eq_some_iff.mpr ⟨hm, h⟩
  rw [this]; rfl
theorem maxL_of {ns : List Int} {m : Int} (hm : m ∈ ns) (h : ∀ y, y ∈ ns → y ≤ m) : m = maxL ns := by
  unfold maxL
  have : ns.max? = some m := List.max?_eq_some_iff.mpr ⟨hm, h⟩
  rw [this]; rfl
theorem pl_least_told (c : Wc) : PL sp_least_told 3 (rd_least_told c) := by
  intro ds M q x b1 b2 h; simp only [sp_least_told] at h; split at h; case h_2 => exact h.elim
  rename_i ps
  obtain ⟨ts, v, rfl, hne, hl, hv, hr, h⟩ := h
  obtain ⟨t0, tr, rfl⟩ : ∃ t0 tr, ts = t0 :: tr := by cases ts with | nil => exact absurd rfl hne | cons a b => exact ⟨a, b, rfl⟩
  have hv0 := hr t0 (by simp [dSeq, dRet, dNext, dIf, dAnd, dOr, dNot, dIfE, dApp, dCons, dNil, dVar, dC, dBin, dUn, dCall, dChain, dRaise, dDrop, dAsg, dgName, dPar, dTup, dLst, startD, c1D, c2D, iiD, ltD, ixG, ixD, sqD, atI_0, atI_1, dget_tup, dget_lst, sp_is_number, sp_is_between, sp_is_tuple, sp_need_between, sp_need_few, sp_is_long, sp_need_digits, sp_is_row, sp_is_small_row, sp_is_term, sp_is_sum_told, sp_need_letters, sp_need_sum, sp_ten_up, sp_is_sum, sp_letter_sum, sp_number_sum, sp_letter_told, sp_number_told])
  simp only [rd_least_told, dSeq, dRet, dApp, dCons, dNil, dLc, dRg1, dBin, dVar, dC, c1D]
  refine ⟨_, rfl, .inl ⟨_, _, rfl, atI_0, .inl ⟨_, _, rfl, atI_0, ?_⟩⟩⟩
  simp only [rowD, lenD]
  refine ⟨_, rfl, by simp [dSeq, dRet, dNext, dIf, dAnd, dOr, dNot, dIfE, dApp, dCons, dNil, dVar, dC, dBin, dUn, dCall, dChain, dRaise, dDrop, dAsg, dgName, dPar, dTup, dLst, startD, c1D, c2D, iiD, ltD, ixG, ixD, sqD, atI_0, atI_1, dget_tup, dget_lst, sp_is_number, sp_is_between, sp_is_tuple, sp_need_between, sp_need_few, sp_is_long, sp_need_digits, sp_is_row, sp_is_small_row, sp_is_term, sp_is_sum_told, sp_need_letters, sp_need_sum, sp_ten_up, sp_is_sum, sp_letter_sum, sp_number_sum, sp_letter_told, sp_number_told]; omega, ?_⟩
  have hn : (((t0.1.map D.int).length : Int)).toNat = v := by simp [dSeq, dRet, dNext, dIf, dAnd, dOr, dNot, dIfE, dApp, dCons, dNil, dVar, dC, dBin, dUn, dCall, dChain, dRaise, dDrop, dAsg, dgName, dPar, dTup, dLst, startD, c1D, c2D, iiD, ltD, ixG, ixD, sqD, atI_0, atI_1, dget_tup, dget_lst, sp_is_number, sp_is_between, sp_is_tuple, sp_need_between, sp_need_few, sp_is_long, sp_need_digits, sp_is_row, sp_is_small_row, sp_is_term, sp_is_sum_told, sp_need_letters, sp_need_sum, sp_ten_up, sp_is_sum, sp_letter_sum, sp_number_sum, sp_letter_told, sp_number_told]; omega
  rw [hn]
  refine wLc_pure (fun d => .int (minL ((t0 :: tr).map fun t => t.1.getD (iOf d).toNat 0))) trivial (rgD 0 v) [] (by rw [rgD_len]; have := small_sz (n := v) (by omega); simp only [List.length_nil, Nat.zero_add]; exact this) ?_ fun d hd q hq => ?_
  · simp only [mkL, Bool.false_eq_true, if_false, tupOfD, sqD, lsD]
    refine ⟨_, rfl, gcQ_here (d := rowD (leastR (t0 :: tr) v)) (bd_row _) b1 h |> cast ?_⟩
    congr 1
    simp only [rowD, leastR, rgD_map, iOf, List.nil_append, List.map_map, Function.comp_def]
    simp [dSeq, dRet, dNext, dIf, dAnd, dOr, dNot, dIfE, dApp, dCons, dNil, dVar, dC, dBin, dUn, dCall, dChain, dRaise, dDrop, dAsg, dgName, dPar, dTup, dLst, startD, c1D, c2D, iiD, ltD, ixG, ixD, sqD, atI_0, atI_1, dget_tup, dget_lst, sp_is_number, sp_is_between, sp_is_tuple, sp_need_between, sp_need_few, sp_is_long, sp_need_digits, sp_is_row, sp_is_small_row, sp_is_term, sp_is_sum_told, sp_need_letters, sp_need_sum, sp_ten_up, sp_is_sum, sp_letter_sum, sp_number_sum, sp_letter_told, sp_number_told]
  · obtain ⟨i, hi, rfl⟩ := rgD_mem hd
    simp only [iOf] at hq
    simp only [wipeD, dgName]
    refine ⟨_, rfl, ?_⟩
    simp only [seqItems]
    refine wLc_pure (fun d => .int ((rowI (rowOf d)).getD i 0)) trivial ((t0 :: tr).map trm) [] (by have := small_sz (n := (t0 :: tr).length) (by omega); simp [dSeq, dRet, dNext, dIf, dAnd, dOr, dNot, dIfE, dApp, dCons, dNil, dVar, dC, dBin, dUn, dCall, dChain, dRaise, dDrop, dAsg, dgName, dPar, dTup, dLst, startD, c1D, c2D, iiD, ltD, ixG, ixD, sqD, atI_0, atI_1, dget_tup, dget_lst, sp_is_number, sp_is_between, sp_is_tuple, sp_need_between, sp_need_few, sp_is_long, sp_need_digits, sp_is_row, sp_is_small_row, sp_is_term, sp_is_sum_told, sp_need_letters, sp_need_sum, sp_ten_up, sp_is_sum, sp_letter_sum, sp_number_sum, sp_letter_told, sp_number_told] at this ⊢; exact this) ?_ fun d hd q hq => ?_
    · simp only [mkL, Bool.false_eq_true, if_false]
      refine .inl ⟨(t0 :: tr).map fun t => t.1.getD i 0, ?_, by simp [dSeq, dRet, dNext, dIf, dAnd, dOr, dNot, dIfE, dApp, dCons, dNil, dVar, dC, dBin, dUn, dCall, dChain, dRaise, dDrop, dAsg, dgName, dPar, dTup, dLst, startD, c1D, c2D, iiD, ltD, ixG, ixD, sqD, atI_0, atI_1, dget_tup, dget_lst, sp_is_number, sp_is_between, sp_is_tuple, sp_need_between, sp_need_few, sp_is_long, sp_need_digits, sp_is_row, sp_is_small_row, sp_is_term, sp_is_sum_told, sp_need_letters, sp_need_sum, sp_ten_up, sp_is_sum, sp_letter_sum, sp_number_sum, sp_letter_told, sp_number_told], fun m hm hle => ?_⟩
      · simp [dSeq, dRet, dNext, dIf, dAnd, dOr, dNot, dIfE, dApp, dCons, dNil, dVar, dC, dBin, dUn, dCall, dChain, dRaise, dDrop, dAsg, dgName, dPar, dTup, dLst, startD, c1D, c2D, iiD, ltD, ixG, ixD, sqD, atI_0, atI_1, dget_tup, dget_lst, sp_is_number, sp_is_between, sp_is_tuple, sp_need_between, sp_need_few, sp_is_long, sp_need_digits, sp_is_row, sp_is_small_row, sp_is_term, sp_is_sum_told, sp_need_letters, sp_need_sum, sp_ten_up, sp_is_sum, sp_letter_sum, sp_number_sum, sp_letter_told, sp_number_told, lsD, Function.comp_def, trm, rowOf, rowI_rowD]
      · rw [minL_of hm hle]
        simpa [dSeq, dRet, dNext, dIf, dAnd, dOr, dNot, dIfE, dApp, dCons, dNil, dVar, dC, dBin, dUn, dCall, dChain, dRaise, dDrop, dAsg, dgName, dPar, dTup, dLst, startD, c1D, c2D, iiD, ltD, ixG, ixD, sqD, atI_0, atI_1, dget_tup, dget_lst, sp_is_number, sp_is_between, sp_is_tuple, sp_need_between, sp_need_few, sp_is_long, sp_need_digits, sp_is_row, sp_is_small_row, sp_is_term, sp_is_sum_told, sp_need_letters, sp_need_sum, sp_ten_up, sp_is_sum, sp_letter_sum, sp_number_sum, sp_letter_told, sp_number_told] using hq
    · obtain ⟨t, ht, rfl⟩ := List.mem_map.mp hd
      simp only [wipeD, dgName, trm, rowOf, rowI_rowD] at hq ⊢
      refine ⟨_, rfl, .inl ⟨_, _, rfl, atI_0, _, rfl, .inl ⟨_, _, rfl, ?_, hq⟩⟩⟩
      have := atI_nat (len_row hr ht hi)
      simpa [dSeq, dRet, dNext, dIf, dAnd, dOr, dNot, dIfE, dApp, dCons, dNil, dVar, dC, dBin, dUn, dCall, dChain, dRaise, dDrop, dAsg, dgName, dPar, dTup, dLst, startD, c1D, c2D, iiD, ltD, ixG, ixD, sqD, atI_0, atI_1, dget_tup, dget_lst, sp_is_number, sp_is_between, sp_is_tuple, sp_need_between, sp_need_few, sp_is_long, sp_need_digits, sp_is_row, sp_is_small_row, sp_is_term, sp_is_sum_told, sp_need_letters, sp_need_sum, sp_ten_up, sp_is_sum, sp_letter_sum, sp_number_sum, sp_letter_told, sp_number_told] using this
theorem pl_greatest_told (c : Wc) : PL sp_greatest_told 3 (rd_greatest_told c) := by
  intro ds M q x b1 b2 h; simp only [sp_greatest_told] at h; split at h; case h_2 => exact h.elim
  rename_i ps
  obtain ⟨ts, v, rfl, hne, hl, hv, hr, h⟩ := h
  obtain ⟨t0, tr, rfl⟩ : ∃ t0 tr, ts = t0 :: tr := by cases ts with | nil => exact absurd rfl hne | cons a b => exact ⟨a, b, rfl⟩
  have hv0 := hr t0 (by simp [dSeq, dRet, dNext, dIf, dAnd, dOr, dNot, dIfE, dApp, dCons, dNil, dVar, dC, dBin, dUn, dCall, dChain, dRaise, dDrop, dAsg, dgName, dPar, dTup, dLst, startD, c1D, c2D, iiD, ltD, ixG, ixD, sqD, atI_0, atI_1, dget_tup, dget_lst, sp_is_number, sp_is_between, sp_is_tuple, sp_need_between, sp_need_few, sp_is_long, sp_need_digits, sp_is_row, sp_is_small_row, sp_is_term, sp_is_sum_told, sp_need_letters, sp_need_sum, sp_ten_up, sp_is_sum, sp_letter_sum, sp_number_sum, sp_letter_told, sp_number_told])
  simp only [rd_greatest_told, dSeq, dRet, dApp, dCons, dNil, dLc, dRg1, dBin, dVar, dC, c1D]
  refine ⟨_, rfl, .inl ⟨_, _, rfl, atI_0, .inl ⟨_, _, rfl, atI_0, ?_⟩⟩⟩
  simp only [rowD, lenD]
  refine ⟨_, rfl, by simp [dSeq, dRet, dNext, dIf, dAnd, dOr, dNot, dIfE, dApp, dCons, dNil, dVar, dC, dBin, dUn, dCall, dChain, dRaise, dDrop, dAsg, dgName, dPar, dTup, dLst, startD, c1D, c2D, iiD, ltD, ixG, ixD, sqD, atI_0, atI_1, dget_tup, dget_lst, sp_is_number, sp_is_between, sp_is_tuple, sp_need_between, sp_need_few, sp_is_long, sp_need_digits, sp_is_row, sp_is_small_row, sp_is_term, sp_is_sum_told, sp_need_letters, sp_need_sum, sp_ten_up, sp_is_sum, sp_letter_sum, sp_number_sum, sp_letter_told, sp_number_told]; omega, ?_⟩
  have hn : (((t0.1.map D.int).length : Int)).toNat = v := by simp [dSeq, dRet, dNext, dIf, dAnd, dOr, dNot, dIfE, dApp, dCons, dNil, dVar, dC, dBin, dUn, dCall, dChain, dRaise, dDrop, dAsg, dgName, dPar, dTup, dLst, startD, c1D, c2D, iiD, ltD, ixG, ixD, sqD, atI_0, atI_1, dget_tup, dget_lst, sp_is_number, sp_is_between, sp_is_tuple, sp_need_between, sp_need_few, sp_is_long, sp_need_digits, sp_is_row, sp_is_small_row, sp_is_term, sp_is_sum_told, sp_need_letters, sp_need_sum, sp_ten_up, sp_is_sum, sp_letter_sum, sp_number_sum, sp_letter_told, sp_number_told]; omega
  rw [hn]
  refine wLc_pure (fun d => .int (maxL ((t0 :: tr).map fun t => t.1.getD (iOf d).toNat 0))) trivial (rgD 0 v) [] (by rw [rgD_len]; have := small_sz (n := v) (by omega); simp only [List.length_nil, Nat.zero_add]; exact this) ?_ fun d hd q hq => ?_
  · simp only [mkL, Bool.false_eq_true, if_false, tupOfD, sqD, lsD]
    refine ⟨_, rfl, gcQ_here (d := rowD (greatR (t0 :: tr) v)) (bd_row _) b1 h |> cast ?_⟩
    congr 1
    simp only [rowD, greatR, rgD_map, iOf, List.nil_append, List.map_map, Function.comp_def]
    simp [dSeq, dRet, dNext, dIf, dAnd, dOr, dNot, dIfE, dApp, dCons, dNil, dVar, dC, dBin, dUn, dCall, dChain, dRaise, dDrop, dAsg, dgName, dPar, dTup, dLst, startD, c1D, c2D, iiD, ltD, ixG, ixD, sqD, atI_0, atI_1, dget_tup, dget_lst, sp_is_number, sp_is_between, sp_is_tuple, sp_need_between, sp_need_few, sp_is_long, sp_need_digits, sp_is_row, sp_is_small_row, sp_is_term, sp_is_sum_told, sp_need_letters, sp_need_sum, sp_ten_up, sp_is_sum, sp_letter_sum, sp_number_sum, sp_letter_told, sp_number_told]
  · obtain ⟨i, hi, rfl⟩ := rgD_mem hd
    simp only [iOf] at hq
    simp only [wipeD, dgName]
    refine ⟨_, rfl, ?_⟩
    simp only [seqItems]
    refine wLc_pure (fun d => .int ((rowI (rowOf d)).getD i 0)) trivial ((t0 :: tr).map trm) [] (by have := small_sz (n := (t0 :: tr).length) (by omega); simp [dSeq, dRet, dNext, dIf, dAnd, dOr, dNot, dIfE, dApp, dCons, dNil, dVar, dC, dBin, dUn, dCall, dChain, dRaise, dDrop, dAsg, dgName, dPar, dTup, dLst, startD, c1D, c2D, iiD, ltD, ixG, ixD, sqD, atI_0, atI_1, dget_tup, dget_lst, sp_is_number, sp_is_between, sp_is_tuple, sp_need_between, sp_need_few, sp_is_long, sp_need_digits, sp_is_row, sp_is_small_row, sp_is_term, sp_is_sum_told, sp_need_letters, sp_need_sum, sp_ten_up, sp_is_sum, sp_letter_sum, sp_number_sum, sp_letter_told, sp_number_told] at this ⊢; exact this) ?_ fun d hd q hq => ?_
    · simp only [mkL, Bool.false_eq_true, if_false]
      refine .inl ⟨(t0 :: tr).map fun t => t.1.getD i 0, ?_, by simp [dSeq, dRet, dNext, dIf, dAnd, dOr, dNot, dIfE, dApp, dCons, dNil, dVar, dC, dBin, dUn, dCall, dChain, dRaise, dDrop, dAsg, dgName, dPar, dTup, dLst, startD, c1D, c2D, iiD, ltD, ixG, ixD, sqD, atI_0, atI_1, dget_tup, dget_lst, sp_is_number, sp_is_between, sp_is_tuple, sp_need_between, sp_need_few, sp_is_long, sp_need_digits, sp_is_row, sp_is_small_row, sp_is_term, sp_is_sum_told, sp_need_letters, sp_need_sum, sp_ten_up, sp_is_sum, sp_letter_sum, sp_number_sum, sp_letter_told, sp_number_told], fun m hm hle => ?_⟩
      · simp [dSeq, dRet, dNext, dIf, dAnd, dOr, dNot, dIfE, dApp, dCons, dNil, dVar, dC, dBin, dUn, dCall, dChain, dRaise, dDrop, dAsg, dgName, dPar, dTup, dLst, startD, c1D, c2D, iiD, ltD, ixG, ixD, sqD, atI_0, atI_1, dget_tup, dget_lst, sp_is_number, sp_is_between, sp_is_tuple, sp_need_between, sp_need_few, sp_is_long, sp_need_digits, sp_is_row, sp_is_small_row, sp_is_term, sp_is_sum_told, sp_need_letters, sp_need_sum, sp_ten_up, sp_is_sum, sp_letter_sum, sp_number_sum, sp_letter_told, sp_number_told, lsD, Function.comp_def, trm, rowOf, rowI_rowD]
      · rw [maxL_of hm hle]
        simpa [dSeq, dRet, dNext, dIf, dAnd, dOr, dNot, dIfE, dApp, dCons, dNil, dVar, dC, dBin, dUn, dCall, dChain, dRaise, dDrop, dAsg, dgName, dPar, dTup, dLst, startD, c1D, c2D, iiD, ltD, ixG, ixD, sqD, atI_0, atI_1, dget_tup, dget_lst, sp_is_number, sp_is_between, sp_is_tuple, sp_need_between, sp_need_few, sp_is_long, sp_need_digits, sp_is_row, sp_is_small_row, sp_is_term, sp_is_sum_told, sp_need_letters, sp_need_sum, sp_ten_up, sp_is_sum, sp_letter_sum, sp_number_sum, sp_letter_told, sp_number_told] using hq
    · obtain ⟨t, ht, rfl⟩ := List.mem_map.mp hd
      simp only [wipeD, dgName, trm, rowOf, rowI_rowD] at hq ⊢
      refine ⟨_, rfl, .inl ⟨_, _, rfl, atI_0, _, rfl, .inl ⟨_, _, rfl, ?_, hq⟩⟩⟩
      have := atI_nat (len_row hr ht hi)
      simpa [dSeq, dRet, dNext, dIf, dAnd, dOr, dNot, dIfE, dApp, dCons, dNil, dVar, dC, dBin, dUn, dCall, dChain, dRaise, dDrop, dAsg, dgName, dPar, dTup, dLst, startD, c1D, c2D, iiD, ltD, ixG, ixD, sqD, atI_0, atI_1, dget_tup, dget_lst, sp_is_number, sp_is_between, sp_is_tuple, sp_need_between, sp_need_few, sp_is_long, sp_need_digits, sp_is_row, sp_is_small_row, sp_is_term, sp_is_sum_told, sp_need_letters, sp_need_sum, sp_ten_up, sp_is_sum, sp_letter_sum, sp_number_sum, sp_letter_told, sp_number_told] using this
theorem some_ex {v : Int} {d : D} (h : isSome' v d = true) : ∃ ts, d = smD ts ∧ ts ≠ [] ∧ ts.length ≤ 2000 ∧ ∀ t ∈ ts, (t.1.length : Int) = v := by
  simp only [isSome', Bool.and_eq_true] at h
  obtain ⟨ts, rfl, hl, hk⟩ := isSum_ex h.1
  refine ⟨ts, rfl, ?_, hl, fun t ht => (hk t ht).1⟩
  rintro rfl
  simp [dSeq, dRet, dNext, dIf, dAnd, dOr, dNot, dIfE, dApp, dCons, dNil, dVar, dC, dBin, dUn, dCall, dChain, dRaise, dDrop, dAsg, dgName, dPar, dTup, dLst, startD, c1D, c2D, iiD, ltD, ixG, ixD, sqD, atI_0, atI_1, dget_tup, dget_lst, sp_is_number, sp_is_between, sp_is_tuple, sp_need_between, sp_need_few, sp_is_long, sp_need_digits, sp_is_row, sp_is_small_row, sp_is_term, sp_is_sum_told, sp_need_letters, sp_need_sum, sp_ten_up, sp_is_sum, sp_letter_sum, sp_number_sum, sp_letter_told, sp_number_told, smD, tpl] at h
theorem pl_least_exponents (c : Wc) : PL sp_least_exponents 2 (rd_least_exponents c) := by
  intro ds M q x b1 b2 h; simp only [sp_least_exponents] at h; split at h; case h_2 => exact h.elim
  obtain ⟨h1, h2, h3, h⟩ := h
  rename_i v d
  have hv : btw (.int v) 1 16 = true := by simp [dSeq, dRet, dNext, dIf, dAnd, dOr, dNot, dIfE, dApp, dCons, dNil, dVar, dC, dBin, dUn, dCall, dChain, dRaise, dDrop, dAsg, dgName, dPar, dTup, dLst, startD, c1D, c2D, iiD, ltD, ixG, ixD, sqD, atI_0, atI_1, dget_tup, dget_lst, sp_is_number, sp_is_between, sp_is_tuple, sp_need_between, sp_need_few, sp_is_long, sp_need_digits, sp_is_row, sp_is_small_row, sp_is_term, sp_is_sum_told, sp_need_letters, sp_need_sum, sp_ten_up, sp_is_sum, sp_letter_sum, sp_number_sum, sp_letter_told, sp_number_told, btw, h1, h2]
  simp [dSeq, dRet, dNext, dIf, dAnd, dOr, dNot, dIfE, dApp, dCons, dNil, dVar, dC, dBin, dUn, dCall, dChain, dRaise, dDrop, dAsg, dgName, dPar, dTup, dLst, startD, c1D, c2D, iiD, ltD, ixG, ixD, sqD, atI_0, atI_1, dget_tup, dget_lst, sp_is_number, sp_is_between, sp_is_tuple, sp_need_between, sp_need_few, sp_is_long, sp_need_digits, sp_is_row, sp_is_small_row, sp_is_term, sp_is_sum_told, sp_need_letters, sp_need_sum, sp_ten_up, sp_is_sum, sp_letter_sum, sp_number_sum, sp_letter_told, sp_number_told, rd_least_exponents, h3, hv, pln, sp_need_some_sum]
  by_cases h4 : isSome' v d = true
  · obtain ⟨ts, rfl, hne, hl, hk⟩ := some_ex h4
    simp [dSeq, dRet, dNext, dIf, dAnd, dOr, dNot, dIfE, dApp, dCons, dNil, dVar, dC, dBin, dUn, dCall, dChain, dRaise, dDrop, dAsg, dgName, dPar, dTup, dLst, startD, c1D, c2D, iiD, ltD, ixG, ixD, sqD, atI_0, atI_1, dget_tup, dget_lst, sp_is_number, sp_is_between, sp_is_tuple, sp_need_between, sp_need_few, sp_is_long, sp_need_digits, sp_is_row, sp_is_small_row, sp_is_term, sp_is_sum_told, sp_need_letters, sp_need_sum, sp_ten_up, sp_is_sum, sp_letter_sum, sp_number_sum, sp_letter_told, sp_number_told, h4] at h ⊢
    simp only [sp_least_told, smD]
    exact ⟨ts, v.toNat, rfl, hne, hl, by omega, fun t ht => by have := hk t ht; omega, gcQ_here (bd_row _) b1 (h ts rfl)⟩
  · simp [dSeq, dRet, dNext, dIf, dAnd, dOr, dNot, dIfE, dApp, dCons, dNil, dVar, dC, dBin, dUn, dCall, dChain, dRaise, dDrop, dAsg, dgName, dPar, dTup, dLst, startD, c1D, c2D, iiD, ltD, ixG, ixD, sqD, atI_0, atI_1, dget_tup, dget_lst, sp_is_number, sp_is_between, sp_is_tuple, sp_need_between, sp_need_few, sp_is_long, sp_need_digits, sp_is_row, sp_is_small_row, sp_is_term, sp_is_sum_told, sp_need_letters, sp_need_sum, sp_ten_up, sp_is_sum, sp_letter_sum, sp_number_sum, sp_letter_told, sp_number_told, h4] at h ⊢
    exact gcX_here rfl b1 h
theorem pl_greatest_exponents (c : Wc) : PL sp_greatest_exponents 2 (rd_greatest_exponents c) := by
  intro ds M q x b1 b2 h; simp only [sp_greatest_exponents] at h; split at h; case h_2 => exact h.elim
  obtain ⟨h1, h2, h3, h⟩ := h
  rename_i v d
  have hv : btw (.int v) 1 16 = true := by simp [dSeq, dRet, dNext, dIf, dAnd, dOr, dNot, dIfE, dApp, dCons, dNil, dVar, dC, dBin, dUn, dCall, dChain, dRaise, dDrop, dAsg, dgName, dPar, dTup, dLst, startD, c1D, c2D, iiD, ltD, ixG, ixD, sqD, atI_0, atI_1, dget_tup, dget_lst, sp_is_number, sp_is_between, sp_is_tuple, sp_need_between, sp_need_few, sp_is_long, sp_need_digits, sp_is_row, sp_is_small_row, sp_is_term, sp_is_sum_told, sp_need_letters, sp_need_sum, sp_ten_up, sp_is_sum, sp_letter_sum, sp_number_sum, sp_letter_told, sp_number_told, btw, h1, h2]
  simp [dSeq, dRet, dNext, dIf, dAnd, dOr, dNot, dIfE, dApp, dCons, dNil, dVar, dC, dBin, dUn, dCall, dChain, dRaise, dDrop, dAsg, dgName, dPar, dTup, dLst, startD, c1D, c2D, iiD, ltD, ixG, ixD, sqD, atI_0, atI_1, dget_tup, dget_lst, sp_is_number, sp_is_between, sp_is_tuple, sp_need_between, sp_need_few, sp_is_long, sp_need_digits, sp_is_row, sp_is_small_row, sp_is_term, sp_is_sum_told, sp_need_letters, sp_need_sum, sp_ten_up, sp_is_sum, sp_letter_sum, sp_number_sum, sp_letter_told, sp_number_told, rd_greatest_exponents, h3, hv, pln, sp_need_some_sum]
  by_cases h4 : isSome' v d = true
  · obtain ⟨ts, rfl, hne, hl, hk⟩ := some_ex h4
    simp [dSeq, dRet, dNext, dIf, dAnd, dOr, dNot, dIfE, dApp, dCons, dNil, dVar, dC, dBin, dUn, dCall, dChain, dRaise, dDrop, dAsg, dgName, dPar, dTup, dLst, startD, c1D, c2D, iiD, ltD, ixG, ixD, sqD, atI_0, atI_1, dget_tup, dget_lst, sp_is_number, sp_is_between, sp_is_tuple, sp_need_between, sp_need_few, sp_is_long, sp_need_digits, sp_is_row, sp_is_small_row, sp_is_term, sp_is_sum_told, sp_need_letters, sp_need_sum, sp_ten_up, sp_is_sum, sp_letter_sum, sp_number_sum, sp_letter_told, sp_number_told, h4] at h ⊢
    simp only [sp_greatest_told, smD]
    exact ⟨ts, v.toNat, rfl, hne, hl, by omega, fun t ht => by have := hk t ht; omega, gcQ_here (bd_row _) b1 (h ts rfl)⟩
  · simp [dSeq, dRet, dNext, dIf, dAnd, dOr, dNot, dIfE, dApp, dCons, dNil, dVar, dC, dBin, dUn, dCall, dChain, dRaise, dDrop, dAsg, dgName, dPar, dTup, dLst, startD, c1D, c2D, iiD, ltD, ixG, ixD, sqD, atI_0, atI_1, dget_tup, dget_lst, sp_is_number, sp_is_between, sp_is_tuple, sp_need_between, sp_need_few, sp_is_long, sp_need_digits, sp_is_row, sp_is_small_row, sp_is_term, sp_is_sum_told, sp_need_letters, sp_need_sum, sp_ten_up, sp_is_sum, sp_letter_sum, sp_number_sum, sp_letter_told, sp_number_told, h4] at h ⊢
    exact gcX_here rfl b1 h
end Law
namespace Law
open PySem PySem.Spec PyProof.Rows L2 LamX TL
theorem pl_sum_of (c : Wc) : PL sp_sum_of 3 (rd_sum_of c) := by
  intro ds M q x b1 b2 h; simp only [sp_sum_of] at h; split at h; case h_2 => exact h.elim
  obtain ⟨h1, h2, h3, h⟩ := h
  rename_i v d
  have hv : btw (.int v) 1 16 = true := by simp [dSeq, dRet, dNext, dIf, dAnd, dOr, dNot, dIfE, dApp, dCons, dNil, dVar, dC, dBin, dUn, dCall, dChain, dRaise, dDrop, dAsg, dgName, dPar, dTup, dLst, startD, c1D, c2D, iiD, ltD, ixG, ixD, sqD, atI_0, atI_1, dget_tup, dget_lst, sp_is_number, sp_is_between, sp_is_tuple, sp_need_between, sp_need_few, sp_is_long, sp_need_digits, sp_is_row, sp_is_small_row, sp_is_term, sp_is_sum_told, sp_need_letters, sp_need_sum, sp_ten_up, sp_is_sum, sp_letter_sum, sp_number_sum, sp_letter_told, sp_number_told, btw, h1, h2]
  have no : (¬ (isT d && (tpl d).all (isTerm v)) = true) → gcX M.length x 3 [.str "pairs"] [some (.int v), some d, none] M := fun e => by rw [if_neg e] at h; exact gcX_here rfl b1 h
  simp [dSeq, dRet, dNext, dIf, dAnd, dOr, dNot, dIfE, dApp, dCons, dNil, dVar, dC, dBin, dUn, dCall, dChain, dRaise, dDrop, dAsg, dgName, dPar, dTup, dLst, startD, c1D, c2D, iiD, ltD, ixG, ixD, sqD, atI_0, atI_1, dget_tup, dget_lst, sp_is_number, sp_is_between, sp_is_tuple, sp_need_between, sp_need_few, sp_is_long, sp_need_digits, sp_is_row, sp_is_small_row, sp_is_term, sp_is_sum_told, sp_need_letters, sp_need_sum, sp_ten_up, sp_is_sum, sp_letter_sum, sp_number_sum, sp_letter_told, sp_number_told, rd_sum_of, hv, pln]
  by_cases ht : ∃ ps, d = .tup ps
  · obtain ⟨ps, rfl⟩ := ht
    simp [dSeq, dRet, dNext, dIf, dAnd, dOr, dNot, dIfE, dApp, dCons, dNil, dVar, dC, dBin, dUn, dCall, dChain, dRaise, dDrop, dAsg, dgName, dPar, dTup, dLst, startD, c1D, c2D, iiD, ltD, ixG, ixD, sqD, atI_0, atI_1, dget_tup, dget_lst, sp_is_number, sp_is_between, sp_is_tuple, sp_need_between, sp_need_few, sp_is_long, sp_need_digits, sp_is_row, sp_is_small_row, sp_is_term, sp_is_sum_told, sp_need_letters, sp_need_sum, sp_ten_up, sp_is_sum, sp_letter_sum, sp_number_sum, sp_letter_told, sp_number_told, pln] at h3
    have hp := plnL_all.mp h3.2
    simp [dSeq, dRet, dNext, dIf, dAnd, dOr, dNot, dIfE, dApp, dCons, dNil, dVar, dC, dBin, dUn, dCall, dChain, dRaise, dDrop, dAsg, dgName, dPar, dTup, dLst, startD, c1D, c2D, iiD, ltD, ixG, ixD, sqD, atI_0, atI_1, dget_tup, dget_lst, sp_is_number, sp_is_between, sp_is_tuple, sp_need_between, sp_need_few, sp_is_long, sp_need_digits, sp_is_row, sp_is_small_row, sp_is_term, sp_is_sum_told, sp_need_letters, sp_need_sum, sp_ten_up, sp_is_sum, sp_letter_sum, sp_number_sum, sp_letter_told, sp_number_told, isiD, tyD, bsub, tyNames]
    simp only [dLc, dSeqI, dVar]
    refine ⟨_, rfl, ?_⟩
    simp only [seqItems]
    refine wLc_pure (fun e => .bl (isTerm v e)) trivial ps [] (by simpa [dSeq, dRet, dNext, dIf, dAnd, dOr, dNot, dIfE, dApp, dCons, dNil, dVar, dC, dBin, dUn, dCall, dChain, dRaise, dDrop, dAsg, dgName, dPar, dTup, dLst, startD, c1D, c2D, iiD, ltD, ixG, ixD, sqD, atI_0, atI_1, dget_tup, dget_lst, sp_is_number, sp_is_between, sp_is_tuple, sp_need_between, sp_need_few, sp_is_long, sp_need_digits, sp_is_row, sp_is_small_row, sp_is_term, sp_is_sum_told, sp_need_letters, sp_need_sum, sp_ten_up, sp_is_sum, sp_letter_sum, sp_number_sum, sp_letter_told, sp_number_told] using h3.1) ?_ fun e he q hq => ?_
    · simp only [mkL, Bool.false_eq_true, if_false]
      simp only [allD]
      refine ⟨ps.map (isTerm v), by simp [dSeq, dRet, dNext, dIf, dAnd, dOr, dNot, dIfE, dApp, dCons, dNil, dVar, dC, dBin, dUn, dCall, dChain, dRaise, dDrop, dAsg, dgName, dPar, dTup, dLst, startD, c1D, c2D, iiD, ltD, ixG, ixD, sqD, atI_0, atI_1, dget_tup, dget_lst, sp_is_number, sp_is_between, sp_is_tuple, sp_need_between, sp_need_few, sp_is_long, sp_need_digits, sp_is_row, sp_is_small_row, sp_is_term, sp_is_sum_told, sp_need_letters, sp_need_sum, sp_ten_up, sp_is_sum, sp_letter_sum, sp_number_sum, sp_letter_told, sp_number_told, lsD], ?_⟩
      simp only [List.all_map, Function.id_comp]
      by_cases hT : ps.all (isTerm v) = true
      · rw [if_pos (by simp only [isT, tpl, hT]; rfl)] at h
        obtain ⟨ts, e, hl, hok, h⟩ := h
        simp only [hT]
        refine .inr ⟨trivial, ?_⟩
        rw [e]
        simp only [smD, sp_collected]
        have hn : ∀ t ∈ ts, t.1 ≠ [] := fun t ht => by
          have hm : trm t ∈ ps := by rw [show ps = ts.map trm from by simpa [dSeq, dRet, dNext, dIf, dAnd, dOr, dNot, dIfE, dApp, dCons, dNil, dVar, dC, dBin, dUn, dCall, dChain, dRaise, dDrop, dAsg, dgName, dPar, dTup, dLst, startD, c1D, c2D, iiD, ltD, ixG, ixD, sqD, atI_0, atI_1, dget_tup, dget_lst, sp_is_number, sp_is_between, sp_is_tuple, sp_need_between, sp_need_few, sp_is_long, sp_need_digits, sp_is_row, sp_is_small_row, sp_is_term, sp_is_sum_told, sp_need_letters, sp_need_sum, sp_ten_up, sp_is_sum, sp_letter_sum, sp_number_sum, sp_letter_told, sp_number_told, smD] using e]; exact List.mem_map_of_mem ht
          obtain ⟨e2, k, h4, h5, _⟩ := isTerm_ex (List.all_eq_true.mp hT _ hm)
          simp only [trm, rowD, D.tup.injEq, List.cons.injEq] at h4
          have := (List.map_inj_right (fun _ _ => D.int.inj)).mp h4.1
          intro z
          rw [z] at this
          rw [← this] at h5
          simp [dSeq, dRet, dNext, dIf, dAnd, dOr, dNot, dIfE, dApp, dCons, dNil, dVar, dC, dBin, dUn, dCall, dChain, dRaise, dDrop, dAsg, dgName, dPar, dTup, dLst, startD, c1D, c2D, iiD, ltD, ixG, ixD, sqD, atI_0, atI_1, dget_tup, dget_lst, sp_is_number, sp_is_between, sp_is_tuple, sp_need_between, sp_need_few, sp_is_long, sp_need_digits, sp_is_row, sp_is_small_row, sp_is_term, sp_is_sum_told, sp_need_letters, sp_need_sum, sp_ten_up, sp_is_sum, sp_letter_sum, sp_number_sum, sp_letter_told, sp_number_told] at h5
          omega
        refine ⟨ts, rfl, hl, hn, ?_⟩
        simp only [sp_few_terms]
        refine ⟨sumP (coll ts), rfl, hok, ?_⟩
        by_cases hb : 2000 < (sumP (coll ts)).length
        · rw [if_pos hb] at h ⊢; exact gcX_here rfl b1 h
        · rw [if_neg hb] at h ⊢; exact gcQ_here (bd_sm _) b1 h
      · simp only [hT]
        exact .inl ⟨trivial, no (by simp [dSeq, dRet, dNext, dIf, dAnd, dOr, dNot, dIfE, dApp, dCons, dNil, dVar, dC, dBin, dUn, dCall, dChain, dRaise, dDrop, dAsg, dgName, dPar, dTup, dLst, startD, c1D, c2D, iiD, ltD, ixG, ixD, sqD, atI_0, atI_1, dget_tup, dget_lst, sp_is_number, sp_is_between, sp_is_tuple, sp_need_between, sp_need_few, sp_is_long, sp_need_digits, sp_is_row, sp_is_small_row, sp_is_term, sp_is_sum_told, sp_need_letters, sp_need_sum, sp_ten_up, sp_is_sum, sp_letter_sum, sp_number_sum, sp_letter_told, sp_number_told, isT, tpl, hT])⟩
    · simp [dSeq, dRet, dNext, dIf, dAnd, dOr, dNot, dIfE, dApp, dCons, dNil, dVar, dC, dBin, dUn, dCall, dChain, dRaise, dDrop, dAsg, dgName, dPar, dTup, dLst, startD, c1D, c2D, iiD, ltD, ixG, ixD, sqD, atI_0, atI_1, dget_tup, dget_lst, sp_is_number, sp_is_between, sp_is_tuple, sp_need_between, sp_need_few, sp_is_long, sp_need_digits, sp_is_row, sp_is_small_row, sp_is_term, sp_is_sum_told, sp_need_letters, sp_need_sum, sp_ten_up, sp_is_sum, sp_letter_sum, sp_number_sum, sp_letter_told, sp_number_told, wipeD]
      exact ⟨hp e he, hq⟩
  · have e : isT d = false := by cases d <;> first | rfl | exact absurd ⟨_, rfl⟩ ht
    have no := no (by simp [dSeq, dRet, dNext, dIf, dAnd, dOr, dNot, dIfE, dApp, dCons, dNil, dVar, dC, dBin, dUn, dCall, dChain, dRaise, dDrop, dAsg, dgName, dPar, dTup, dLst, startD, c1D, c2D, iiD, ltD, ixG, ixD, sqD, atI_0, atI_1, dget_tup, dget_lst, sp_is_number, sp_is_between, sp_is_tuple, sp_need_between, sp_need_few, sp_is_long, sp_need_digits, sp_is_row, sp_is_small_row, sp_is_term, sp_is_sum_told, sp_need_letters, sp_need_sum, sp_ten_up, sp_is_sum, sp_letter_sum, sp_number_sum, sp_letter_told, sp_number_told, e])
    cases d <;> simp [dSeq, dRet, dNext, dIf, dAnd, dOr, dNot, dIfE, dApp, dCons, dNil, dVar, dC, dBin, dUn, dCall, dChain, dRaise, dDrop, dAsg, dgName, dPar, dTup, dLst, startD, c1D, c2D, iiD, ltD, ixG, ixD, sqD, atI_0, atI_1, dget_tup, dget_lst, sp_is_number, sp_is_between, sp_is_tuple, sp_need_between, sp_need_few, sp_is_long, sp_need_digits, sp_is_row, sp_is_small_row, sp_is_term, sp_is_sum_told, sp_need_letters, sp_need_sum, sp_ten_up, sp_is_sum, sp_letter_sum, sp_number_sum, sp_letter_told, sp_number_told, pln] at h3 <;> simp [dSeq, dRet, dNext, dIf, dAnd, dOr, dNot, dIfE, dApp, dCons, dNil, dVar, dC, dBin, dUn, dCall, dChain, dRaise, dDrop, dAsg, dgName, dPar, dTup, dLst, startD, c1D, c2D, iiD, ltD, ixG, ixD, sqD, atI_0, atI_1, dget_tup, dget_lst, sp_is_number, sp_is_between, sp_is_tuple, sp_need_between, sp_need_few, sp_is_long, sp_need_digits, sp_is_row, sp_is_small_row, sp_is_term, sp_is_sum_told, sp_need_letters, sp_need_sum, sp_ten_up, sp_is_sum, sp_letter_sum, sp_number_sum, sp_letter_told, sp_number_told, isiD, tyD, bsub, tyNames] <;> first | exact no | exact absurd ⟨_, rfl⟩ ht
end Law
namespace Law
open PySem PySem.Spec PyProof.Rows L2 LamX TL
/-! ### the drawing -/
abbrev k4 : List Key := [.inr "large", .inr "cells", .inr "rest", .inr "turn"]
theorem k4l (a b c d : D) : lkp k4 [a, b, c, d] (.inr "large") = some a := by kernel_rfl
theorem k4c (a b c d : D) : lkp k4 [a, b, c, d] (.inr "cells") = some b := by kernel_rfl
theorem k4r (a b c d : D) : lkp k4 [a, b, c, d] (.inr "rest") = some c := by kernel_rfl
theorem k4t (a b c d : D) : lkp k4 [a, b, c, d] (.inr "turn") = some d := by kernel_rfl
theorem k4pr (a b c d x : D) : putVs k4 [a, b, c, d] (.inr "rest") x = [a, b, x, d] := by kernel_rfl
theorem k4pt (a b c d x : D) : putVs k4 [a, b, c, d] (.inr "turn") x = [a, b, c, x] := by kernel_rfl
theorem k4kr : putKs k4 (.inr "rest") = k4 := by kernel_rfl
theorem k4kt : putKs k4 (.inr "turn") = k4 := by kernel_rfl
section
variable {M : Sto} {i : Nat} {a b c d x : D} {q : QD}
theorem g4l (h : M[i]? = some (.dk k4 [a, b, c, d])) (hq : q a M) : ixG (.obj i) (.str "large") M q := .inr ⟨a, by simp only [dget, dkOf, h, kD, Option.map_some, k4l], hq⟩
theorem g4c (h : M[i]? = some (.dk k4 [a, b, c, d])) (hq : q b M) : ixG (.obj i) (.str "cells") M q := .inr ⟨b, by simp only [dget, dkOf, h, kD, Option.map_some, k4c], hq⟩
theorem g4r (h : M[i]? = some (.dk k4 [a, b, c, d])) (hq : q c M) : ixG (.obj i) (.str "rest") M q := .inr ⟨c, by simp only [dget, dkOf, h, kD, Option.map_some, k4r], hq⟩
theorem g4t (h : M[i]? = some (.dk k4 [a, b, c, d])) (hq : q d M) : ixG (.obj i) (.str "turn") M q := .inr ⟨d, by simp only [dget, dkOf, h, kD, Option.map_some, k4t], hq⟩
theorem p4r (h : M[i]? = some (.dk k4 [a, b, c, d])) : dput M (.obj i) (.str "rest") x = some (M.set i (.dk k4 [a, b, x, d])) := by
  simp only [dput, h, kD, Option.bind_some, k4kr, k4pr]
  rw [if_pos (by rw [sizeLine_eq]; simp [dSeq, dRet, dNext, dIf, dAnd, dOr, dNot, dIfE, dApp, dCons, dNil, dVar, dC, dBin, dUn, dCall, dChain, dRaise, dDrop, dAsg, dgName, dPar, dTup, dLst, startD, c1D, c2D, iiD, ltD, ixG, ixD, sqD, atI_0, atI_1, dget_tup, dget_lst])]
theorem p4t (h : M[i]? = some (.dk k4 [a, b, c, d])) : dput M (.obj i) (.str "turn") x = some (M.set i (.dk k4 [a, b, c, x])) := by
  simp only [dput, h, kD, Option.bind_some, k4kt, k4pt]
  rw [if_pos (by rw [sizeLine_eq]; simp [dSeq, dRet, dNext, dIf, dAnd, dOr, dNot, dIfE, dApp, dCons, dNil, dVar, dC, dBin, dUn, dCall, dChain, dRaise, dDrop, dAsg, dgName, dPar, dTup, dLst, startD, c1D, c2D, iiD, ltD, ixG, ixD, sqD, atI_0, atI_1, dget_tup, dget_lst])]
end
theorem SameBut.refl {i j : Nat} {M : Sto} : SameBut i j M M := ⟨rfl, fun _ _ _ => rfl⟩
theorem SameBut.trans {i j : Nat} {M M1 M2 : Sto} (a : SameBut i j M M1) (b : SameBut i j M1 M2) : SameBut i j M M2 := ⟨b.1.trans a.1, fun k h1 h2 => (b.2 k h1 h2).trans (a.2 k h1 h2)⟩
theorem SameBut.set1 {i j : Nat} {M : Sto} {d : D} : SameBut i j M (M.set i d) := ⟨by simp [dSeq, dRet, dNext, dIf, dAnd, dOr, dNot, dIfE, dApp, dCons, dNil, dVar, dC, dBin, dUn, dCall, dChain, dRaise, dDrop, dAsg, dgName, dPar, dTup, dLst, startD, c1D, c2D, iiD, ltD, ixG, ixD, sqD, atI_0, atI_1, dget_tup, dget_lst], fun k h1 h2 => by rw [List.getElem?_set_ne (Ne.symm h1)]⟩
theorem SameBut.set2 {i j : Nat} {M : Sto} {d : D} : SameBut i j M (M.set j d) := ⟨by simp [dSeq, dRet, dNext, dIf, dAnd, dOr, dNot, dIfE, dApp, dCons, dNil, dVar, dC, dBin, dUn, dCall, dChain, dRaise, dDrop, dAsg, dgName, dPar, dTup, dLst, startD, c1D, c2D, iiD, ltD, ixG, ixD, sqD, atI_0, atI_1, dget_tup, dget_lst], fun k h1 h2 => by rw [List.getElem?_set_ne (Ne.symm h2)]⟩
theorem set_get {M : Sto} {i : Nat} {d e : D} (h : M[i]? = some d) : (M.set i e)[i]? = some e := List.getElem?_set_self (List.getElem?_eq_some_iff.mp h).1
theorem bd_mem {n : Nat} : ∀ {l : List D}, D.bdL n l = true → ∀ d ∈ l, D.bd n d = true
  | [], _, _, h => by cases h
  | d :: l, h, e, he => by
    simp only [D.bdL, Bool.and_eq_true] at h
    rcases List.mem_cons.mp he with rfl | he
    · exact h.1
    · exact bd_mem h.2 e he
theorem bd_set {n i : Nat} {M : Sto} {d : D} (h : D.bdL n M = true) (hd : D.bd n d = true) : D.bdL n (M.set i d) = true := bdL_of fun e he => by
  rcases List.mem_or_eq_of_mem_set he with h1 | rfl
  · exact bd_mem h e h1
  · exact hd
theorem bd_ints {n : Nat} (l : List Int) : D.bd n (.lst (l.map .int)) = true := by rw [D.bd]; exact bdL_of fun d hd => by obtain ⟨i, _, rfl⟩ := List.mem_map.mp hd; rfl
theorem bd_k4 {n j : Nat} {cells : List Int} {r t : Int} (h : j < n) : D.bd n (.dk k4 [.obj j, .lst (cells.map .int), .int r, .int t]) = true := by
  simp [dSeq, dRet, dNext, dIf, dAnd, dOr, dNot, dIfE, dApp, dCons, dNil, dVar, dC, dBin, dUn, dCall, dChain, dRaise, dDrop, dAsg, dgName, dPar, dTup, dLst, startD, c1D, c2D, iiD, ltD, ixG, ixD, sqD, atI_0, atI_1, dget_tup, dget_lst, D.bd, D.bdL, h]
  have := bd_ints (n := n) cells
  rwa [D.bd] at this
/-- an index below another's length -/
theorem lt_of_some {M : Sto} {i : Nat} {d : D} (h : M[i]? = some d) : i < M.length := (List.getElem?_eq_some_iff.mp h).1
theorem Draw.lt {i j n : Nat} {M : Sto} (h : Draw i j n M) : i < M.length ∧ j < M.length := by
  obtain ⟨_, large, cells, r, t, h1, h2, _⟩ := h
  exact ⟨lt_of_some h1, lt_of_some h2⟩
theorem Draw.mono {i j n m : Nat} {M : Sto} (h : Draw i j n M) (hm : n ≤ m) : Draw i j m M := by
  obtain ⟨a, large, cells, r, t, h1, h2, h3, h4, h5, h6⟩ := h
  exact ⟨a, large, cells, r, t, h1, h2, h3, h4, h5, by omega⟩
theorem Draw.bd {i j n : Nat} {M M' : Sto} (b : D.bdL M.length M = true) (s : SameBut i j M M') (h : Draw i j n M') : D.bdL M'.length M' = true := by
  refine bdL_of fun d hd => ?_
  obtain ⟨k, hk, rfl⟩ := List.mem_iff_getElem.mp hd
  have hj := h.lt.2
  obtain ⟨hne, large, cells, r, t, h1, h2, _⟩ := h
  have e : M'[k]? = some M'[k] := List.getElem?_eq_getElem hk
  by_cases h3 : k = i
  · subst h3
    rw [h1] at e
    rw [← Option.some.inj e]
    exact bd_k4 hj
  · by_cases h4 : k = j
    · subst h4
      rw [h2] at e
      rw [← Option.some.inj e]
      exact bd_ints large
    · rw [s.2 k h3 h4] at e
      rw [s.1]
      exact bd_mem b _ (List.mem_of_getElem? e)
theorem pl__law_pick (c : Wc) : PL sp__law_pick 2 (rd__law_pick c) := by
  intro ds M q x b1 b2 h; simp only [sp__law_pick] at h; split at h; case h_2 => exact h.elim
  obtain ⟨h1, h2, j, n, hD, hn, h⟩ := h
  rename_i i es
  simp [dSeq, dRet, dNext, dIf, dAnd, dOr, dNot, dIfE, dApp, dCons, dNil, dVar, dC, dBin, dUn, dCall, dChain, dRaise, dDrop, dAsg, dgName, dPar, dTup, dLst, startD, c1D, c2D, iiD, ltD, ixG, ixD, sqD, atI_0, atI_1, dget_tup, dget_lst, rd__law_pick, lenD, sp__law_take]
  refine ⟨by omega, by omega, j, n, hD, hn, fun r M' h3 h4 hs hd => ?_⟩
  obtain ⟨k, rfl⟩ : ∃ k : Nat, r = k := ⟨r.toNat, by omega⟩
  have hk : es[k]? = some es[k] := List.getElem?_eq_getElem (by omega)
  refine ⟨es, rfl, es[k], atI_nat hk, gcQ_len hs.1 ?_ (hd.bd b1 hs) (h _ _ (by simp [dSeq, dRet, dNext, dIf, dAnd, dOr, dNot, dIfE, dApp, dCons, dNil, dVar, dC, dBin, dUn, dCall, dChain, dRaise, dDrop, dAsg, dgName, dPar, dTup, dLst, startD, c1D, c2D, iiD, ltD, ixG, ixD, sqD, atI_0, atI_1, dget_tup, dget_lst]) hs hd)⟩
  simp only [D.bdL, D.bd, Bool.and_eq_true] at b2
  rw [hs.1]
  exact bd_mem b2.2.1 _ (by simp [dSeq, dRet, dNext, dIf, dAnd, dOr, dNot, dIfE, dApp, dCons, dNil, dVar, dC, dBin, dUn, dCall, dChain, dRaise, dDrop, dAsg, dgName, dPar, dTup, dLst, startD, c1D, c2D, iiD, ltD, ixG, ixD, sqD, atI_0, atI_1, dget_tup, dget_lst])
theorem pd_ints {M : Sto} {j : Nat} {l : List Int} (h : M[j]? = some (.lst (l.map .int))) : pd M 65 (.obj j) = some (.list (l.map PyData.int)) := by
  show (match M[j]? with | some (.lst ds) => (ds.mapM (pd M 64)).map PyData.list | _ => none) = _
  rw [h]
  show ((l.map D.int).mapM (pd M 64)).map PyData.list = _
  have : (l.map D.int).mapM (pd M 64) = some (l.map PyData.int) := by
    clear h
    induction l with
    | nil => rfl
    | cons i l ih => rw [List.map_cons, List.mapM_cons, ih]; rfl
  rw [this]; rfl
theorem sh_ints (l : List Int) : SeqAt.shaped (.list (l.map PyData.int)) = true := by
  have : PyData.canLayAll0 (l.map .int) = true ∧ PyData.depthAll (l.map .int) = 0 := by
    induction l with
    | nil => exact ⟨rfl, rfl⟩
    | cons i l ih => simp [dSeq, dRet, dNext, dIf, dAnd, dOr, dNot, dIfE, dApp, dCons, dNil, dVar, dC, dBin, dUn, dCall, dChain, dRaise, dDrop, dAsg, dgName, dPar, dTup, dLst, startD, c1D, c2D, iiD, ltD, ixG, ixD, sqD, atI_0, atI_1, dget_tup, dget_lst, PyData.canLayAll0, PyData.canLay0, PyData.depthAll, PyData.depth, ih.1, ih.2]
  unfold SeqAt.shaped
  simp [dSeq, dRet, dNext, dIf, dAnd, dOr, dNot, dIfE, dApp, dCons, dNil, dVar, dC, dBin, dUn, dCall, dChain, dRaise, dDrop, dAsg, dgName, dPar, dTup, dLst, startD, c1D, c2D, iiD, ltD, ixG, ixD, sqD, atI_0, atI_1, dget_tup, dget_lst, PyData.canLay0, PyData.depth, this.1, this.2]
theorem ne_nil {M : Sto} {j : Nat} {l : List Int} {q : QD} (h : M[j]? = some (.lst (l.map .int))) (hq : q (.bl (!l.isEmpty)) M) : neD (.obj j) (.lst []) M q := by
  refine ⟨65, _, .list [], pd_ints h, rfl, sh_ints l, sh_ints [], _, rfl, ?_⟩
  have : PyData.eqv (.list (l.map .int)) (.list []) = l.isEmpty := by cases l <;> simp [dSeq, dRet, dNext, dIf, dAnd, dOr, dNot, dIfE, dApp, dCons, dNil, dVar, dC, dBin, dUn, dCall, dChain, dRaise, dDrop, dAsg, dgName, dPar, dTup, dLst, startD, c1D, c2D, iiD, ltD, ixG, ixD, sqD, atI_0, atI_1, dget_tup, dget_lst, PyData.eqv, PyData.eqvAll]
  rw [this]
  exact hq
def tk_tail : TSD := (dSeq (dIf (dBin eqD (dBin ixG (dVar 0) (dC (.str "rest"))) (dC (.int 0))) (dSeq (dPut (dVar 0) (dC (.str "rest")) (dCall sp__law_blend (dCons (dVar 0) dNil))) dNext) dNext) (dSeq (dAsg (dBin (iiD (fun _ j => 0 < j) fun i j => .int (i % j)) (dApp (c1D intD) (dCons (dBin ixG (dVar 0) (dC (.str "rest"))) dNil)) (dVar 1)) (dgName 2)) (dSeq (dPut (dVar 0) (dC (.str "rest")) (dBin (iiD CDivW fun i j => .int (i / j)) (dApp (c1D intD) (dCons (dBin ixG (dVar 0) (dC (.str "rest"))) dNil)) (dVar 1))) (dSeq (dRet (dVar 2)) dNext))))
theorem take_end {i j n : Nat} {z t : Int} {M M' : Sto} {cells large : List Int} {r : Int} {q : QD} {x : XCD} {p : Option D} (hij : i ≠ j) (b1 : D.bdL M.length M = true) (h1 : 0 < z) (h2 : z < 2 ^ 64) (g4 : cells.length ≤ 63) (g5 : 0 ≤ t) (g6 : t ≤ n) (g3 : large.length ≤ 63) (hs : SameBut i j M M')
    (g1 : M'[i]? = some (.dk k4 [.obj j, .lst (cells.map .int), .int r, .int t])) (g2 : M'[j]? = some (.lst (large.map .int))) (h : ∀ r M', 0 ≤ r → r < z → SameBut i j M M' → Draw i j n M' → q (.int r) M') :
    dSeq (dAsg (dBin (iiD (fun _ j => 0 < j) fun i j => .int (i % j)) (dApp (c1D TL.intD) (dCons (dBin ixG (dVar 0) (dC (.str "rest"))) dNil)) (dVar 1)) (dgName 2)) (dSeq (dPut (dVar 0) (dC (.str "rest")) (dBin (iiD CDivW fun i j => .int (i / j)) (dApp (c1D TL.intD) (dCons (dBin ixG (dVar 0) (dC (.str "rest"))) dNil)) (dVar 1))) (dSeq (dRet (dVar 2)) dNext))
      { nx := fun _ M' => gcQ M.length q .non M', rt := gcQ M.length q } (gcX M.length x) [some (.obj i), some (.int z), p] M' := by
  simp only [dSeq, dAsg, dBin, dApp, dCons, dNil, dVar, dC, c1D]
  refine ⟨_, rfl, g4r g1 ?_⟩
  refine ⟨_, rfl, ?_⟩
  refine ⟨h1, ?_⟩
  simp only [dgName, dPut, dBin, dApp, dCons, dNil, dVar, dC, c1D]
  refine ⟨_, rfl, g4r g1 ?_⟩
  refine ⟨_, rfl, ?_⟩
  refine ⟨⟨h1, by have : z.natAbs < 2 ^ 64 := by omega
                  have h3 := Nat.log2_lt (n := z.natAbs) (k := 64) (by omega) |>.mpr this
                  omega⟩, _, rfl, _, p4r g1, ?_⟩
  simp only [dRet, dVar]
  refine ⟨_, rfl, ?_⟩
  have hs' := hs.trans (SameBut.set1 (d := .dk k4 [.obj j, .lst (cells.map .int), .int (r / z), .int t]) (i := i) (j := j))
  have hd : Draw i j n (M'.set i (.dk k4 [.obj j, .lst (cells.map .int), .int (r / z), .int t])) := ⟨hij, large, cells, _, t, set_get g1, by rw [List.getElem?_set_ne hij]; exact g2, g3, g4, g5, g6⟩
  exact gcQ_len hs'.1 rfl (hd.bd b1 hs') (h _ _ (Int.emod_nonneg _ (by omega)) (Int.emod_lt_of_pos _ h1) hs' hd)
theorem take_tail {i j n : Nat} {z t : Int} {M M' : Sto} {cells large : List Int} {r : Int} {q : QD} {x : XCD} (hij : i ≠ j) (b1 : D.bdL M.length M = true) (hn : n < 2 ^ 64) (h1 : 0 < z) (h2 : z < 2 ^ 64) (g4 : cells.length ≤ 63) (g5 : 0 ≤ t) (g6 : t ≤ n) (g3 : large.length ≤ 63) (hs : SameBut i j M M')
    (g1 : M'[i]? = some (.dk k4 [.obj j, .lst (cells.map .int), .int r, .int t])) (g2 : M'[j]? = some (.lst (large.map .int))) (h : ∀ r M', 0 ≤ r → r < z → SameBut i j M M' → Draw i j (n + 1) M' → q (.int r) M') :
    tk_tail { nx := fun _ M' => gcQ M.length q .non M', rt := gcQ M.length q } (gcX M.length x) [some (.obj i), some (.int z), none] M' := by
  rw [tk_tail, dSeq]
  simp only [dIf, dBin, dVar, dC]
  refine ⟨_, rfl, g4r g1 ?_⟩
  simp only [eqD]
  refine ⟨_, rfl, ?_⟩
  by_cases h0 : r = 0
  · rw [if_pos (by simpa [dSeq, dRet, dNext, dIf, dAnd, dOr, dNot, dIfE, dApp, dCons, dNil, dVar, dC, dBin, dUn, dCall, dChain, dRaise, dDrop, dAsg, dgName, dPar, dTup, dLst, startD, c1D, c2D, iiD, ltD, ixG, ixD, sqD, atI_0, atI_1, dget_tup, dget_lst] using h0)]
    simp only [dSeq, dPut, dCall, dCons, dNil, dVar, dC, sp__law_blend]
    refine ⟨_, rfl, j, n, ⟨hij, large, cells, r, t, g1, g2, g3, g4, g5, g6⟩, hn, fun r' M2 s2 d2 e2 => ?_⟩
    obtain ⟨_, large2, cells2, r2, t2, k1, k2, k3, k5, k6, k7⟩ := d2
    refine ⟨_, rfl, _, p4r k1, ?_⟩
    have s3 := (hs.trans s2).trans (SameBut.set1 (d := .dk k4 [.obj j, .lst (cells2.map .int), .int r', .int t2]) (i := i) (j := j))
    exact take_end hij b1 h1 h2 k5 k6 (by omega) k3 s3 (set_get k1) (by rw [List.getElem?_set_ne hij]; exact k2) h
  · rw [if_neg (by simpa [dSeq, dRet, dNext, dIf, dAnd, dOr, dNot, dIfE, dApp, dCons, dNil, dVar, dC, dBin, dUn, dCall, dChain, dRaise, dDrop, dAsg, dgName, dPar, dTup, dLst, startD, c1D, c2D, iiD, ltD, ixG, ixD, sqD, atI_0, atI_1, dget_tup, dget_lst] using h0)]
    exact take_end hij b1 h1 h2 g4 g5 (by omega) g3 hs g1 g2 h
theorem pl__law_take (c : Wc) : PL sp__law_take 3 (rd__law_take c) := by
  intro ds M q x b1 b2 h; simp only [sp__law_take] at h; split at h; case h_2 => exact h.elim
  obtain ⟨h1, h2, j, n, hD, hn, h⟩ := h
  rename_i i z
  have hij := hD.ne
  obtain ⟨-, large, cells, r, t, g1, g2, g3, g4, g5, g6⟩ := hD
  rw [rd__law_take, dSeq]
  refine dWhile_inv (fun m σ M' => ∃ (large : List Int) (r : Int), m = large.length ∧ large.length ≤ 63 ∧ SameBut i j M M' ∧ M'[i]? = some (.dk k4 [.obj j, .lst (cells.map .int), .int r, .int t]) ∧ M'[j]? = some (.lst (large.map .int)) ∧ σ = [some (.obj i), some (.int z), none]) ?_ ⟨large, r, rfl, g3, .refl, g1, g2, rfl⟩
  clear g1 g2 g3 large r
  rintro m σ M' K ⟨large, r, rfl, g3, hs, g1, g2, rfl⟩ hrt hbk hnx hct
  have T := take_tail (x := x) hij b1 hn h1 h2 g4 g5 g6 g3 hs g1 g2 h
  simp only [dAnd, dBin, dVar, dC]
  refine ⟨_, rfl, g4r g1 ?_⟩
  simp only [eqD]
  refine ⟨_, rfl, ?_⟩
  by_cases h0 : r = 0
  · rw [if_pos (by simpa [dSeq, dRet, dNext, dIf, dAnd, dOr, dNot, dIfE, dApp, dCons, dNil, dVar, dC, dBin, dUn, dCall, dChain, dRaise, dDrop, dAsg, dgName, dPar, dTup, dLst, startD, c1D, c2D, iiD, ltD, ixG, ixD, sqD, atI_0, atI_1, dget_tup, dget_lst] using h0)]
    refine ⟨_, rfl, g4l g1 ?_⟩
    simp only [dLst, dNil]
    refine ⟨by rw [sizeLine_eq]; simp [dSeq, dRet, dNext, dIf, dAnd, dOr, dNot, dIfE, dApp, dCons, dNil, dVar, dC, dBin, dUn, dCall, dChain, dRaise, dDrop, dAsg, dgName, dPar, dTup, dLst, startD, c1D, c2D, iiD, ltD, ixG, ixD, sqD, atI_0, atI_1, dget_tup, dget_lst], ?_⟩
    simp only [mkL, Bool.false_eq_true, if_false]
    refine ne_nil g2 ⟨_, rfl, ?_⟩
    cases large with
    | nil => exact T
    | cons l0 large =>
      rw [if_pos (by simp [dSeq, dRet, dNext, dIf, dAnd, dOr, dNot, dIfE, dApp, dCons, dNil, dVar, dC, dBin, dUn, dCall, dChain, dRaise, dDrop, dAsg, dgName, dPar, dTup, dLst, startD, c1D, c2D, iiD, ltD, ixG, ixD, sqD, atI_0, atI_1, dget_tup, dget_lst])]
      simp only [dSeq, dPut, dMt, dBin, dVar, dC, dCons, dNil]
      refine ⟨_, rfl, g4l g1 ⟨.inl ⟨rfl, by simp [dSeq, dRet, dNext, dIf, dAnd, dOr, dNot, dIfE, dApp, dCons, dNil, dVar, dC, dBin, dUn, dCall, dChain, dRaise, dDrop, dAsg, dgName, dPar, dTup, dLst, startD, c1D, c2D, iiD, ltD, ixG, ixD, sqD, atI_0, atI_1, dget_tup, dget_lst, lsD, g2]⟩, ?_⟩⟩
      simp only [popD]
      refine ⟨_, .int l0, 0, g2, by omega, ?_, rfl, ?_⟩
      · simp [dSeq, dRet, dNext, dIf, dAnd, dOr, dNot, dIfE, dApp, dCons, dNil, dVar, dC, dBin, dUn, dCall, dChain, dRaise, dDrop, dAsg, dgName, dPar, dTup, dLst, startD, c1D, c2D, iiD, ltD, ixG, ixD, sqD, atI_0, atI_1, dget_tup, dget_lst, seqIndex?]
      · have e : ((l0 :: large).map D.int).eraseIdx 0 = large.map D.int := rfl
        rw [e]
        have g1' : (M'.set j (.lst (large.map D.int)))[i]? = _ := (List.getElem?_set_ne (Ne.symm hij)).trans g1
        refine ⟨_, rfl, _, p4r g1', ?_⟩
        refine hnx large.length _ _ (by simp [dSeq, dRet, dNext, dIf, dAnd, dOr, dNot, dIfE, dApp, dCons, dNil, dVar, dC, dBin, dUn, dCall, dChain, dRaise, dDrop, dAsg, dgName, dPar, dTup, dLst, startD, c1D, c2D, iiD, ltD, ixG, ixD, sqD, atI_0, atI_1, dget_tup, dget_lst]) ⟨large, l0, rfl, by simp [dSeq, dRet, dNext, dIf, dAnd, dOr, dNot, dIfE, dApp, dCons, dNil, dVar, dC, dBin, dUn, dCall, dChain, dRaise, dDrop, dAsg, dgName, dPar, dTup, dLst, startD, c1D, c2D, iiD, ltD, ixG, ixD, sqD, atI_0, atI_1, dget_tup, dget_lst] at g3; omega, (hs.trans .set2).trans .set1, set_get g1', ?_, rfl⟩
        rw [List.getElem?_set_ne hij]
        exact set_get g2
  · rw [if_neg (by simpa [dSeq, dRet, dNext, dIf, dAnd, dOr, dNot, dIfE, dApp, dCons, dNil, dVar, dC, dBin, dUn, dCall, dChain, dRaise, dDrop, dAsg, dgName, dPar, dTup, dLst, startD, c1D, c2D, iiD, ltD, ixG, ixD, sqD, atI_0, atI_1, dget_tup, dget_lst] using h0)]
    exact ⟨_, rfl, T⟩
end Law
namespace Law
open PySem PySem.Spec PyProof.Rows L2 LamX TL
theorem log2_lt64 {z : Int} {k : Nat} (h0 : 0 ≤ z) (h : z < 2 ^ k) : z.natAbs.log2 < k ∨ z = 0 := by
  by_cases h1 : z = 0
  · exact .inr h1
  · have h2 : z.natAbs < 2 ^ k := by
      have : ((z.natAbs : Nat) : Int) < ((2 ^ k : Nat) : Int) := by push_cast; omega
      exact Int.ofNat_lt.mp this
    exact .inl ((Nat.log2_lt (by omega)).mpr h2)
theorem log2_small {z : Int} {k : Nat} (h0 : 0 ≤ z) (h : z < 2 ^ k) (hk : 0 < k) : z.natAbs.log2 < k := by
  rcases log2_lt64 h0 h with h | rfl
  · exact h
  · simpa [dSeq, dRet, dNext, dIf, dAnd, dOr, dNot, dIfE, dApp, dCons, dNil, dVar, dC, dBin, dUn, dCall, dChain, dRaise, dDrop, dAsg, dgName, dPar, dTup, dLst, startD, c1D, c2D, iiD, ltD, ixG, ixD, sqD, atI_0, atI_1, dget_tup, dget_lst] using hk
theorem pl__law_blend (c : Wc) : PL sp__law_blend 6 (rd__law_blend c) := by
  intro ds M q x b1 b2 h; simp only [sp__law_blend] at h; split at h; case h_2 => exact h.elim
  obtain ⟨j, n, hD, hn, h⟩ := h
  rename_i i
  have hij := hD.ne
  obtain ⟨-, large, cells, r, t, g1, g2, g3, g4, g5, g6⟩ := hD
  rw [rd__law_blend, dSeq]
  simp only [dPar, dCons, dNil, dBin, dVar, dC]
  refine ⟨_, rfl, g4t g1 ?_⟩
  simp only [addD]
  refine ⟨_, _, rfl, ?_⟩
  have hM : Draw i j (n + 1) (M.set i (.dk k4 [.obj j, .lst (cells.map .int), .int r, .int (t + 1)])) := ⟨hij, large, cells, r, t + 1, set_get g1, by rw [List.getElem?_set_ne hij]; exact g2, g3, g4, by omega, by push_cast; omega⟩
  have fin := fun r' => h r' _ (.set1) hM (List.getElem?_set_ne hij)
  have hbd := hM.bd b1 .set1
  have hle : (M.set i (.dk k4 [.obj j, .lst (cells.map .int), .int r, .int (t + 1)])).length = M.length := by simp [dSeq, dRet, dNext, dIf, dAnd, dOr, dNot, dIfE, dApp, dCons, dNil, dVar, dC, dBin, dUn, dCall, dChain, dRaise, dDrop, dAsg, dgName, dPar, dTup, dLst, startD, c1D, c2D, iiD, ltD, ixG, ixD, sqD, atI_0, atI_1, dget_tup, dget_lst]
  have gi := set_get (e := .dk k4 [.obj j, .lst (cells.map .int), .int r, .int (t + 1)]) g1
  simp only [dSeq, dPut, dVar, dC]
  refine ⟨_, rfl, _, rfl, _, p4t g1, ?_⟩
  generalize M.set i (.dk k4 [.obj j, .lst (cells.map .int), .int r, .int (t + 1)]) = Mz at *
  simp only [dFor, dSeqI, dLst, dCons, dNil, dC]
  refine ⟨by rw [sizeLine_eq]; simp [dSeq, dRet, dNext, dIf, dAnd, dOr, dNot, dIfE, dApp, dCons, dNil, dVar, dC, dBin, dUn, dCall, dChain, dRaise, dDrop, dAsg, dgName, dPar, dTup, dLst, startD, c1D, c2D, iiD, ltD, ixG, ixD, sqD, atI_0, atI_1, dget_tup, dget_lst], ?_⟩
  simp only [mkL, Bool.false_eq_true, if_false, seqItems]
  refine wFor_inv (fun rest σ M' => Mz = M' ∧ ∃ (ps : List Int) (f : Int) (a b d : Option D) (m : Nat), rest = ps.map .int ∧ (∀ p ∈ ps, 0 < p ∧ p < 2147483647) ∧ m + ps.length = 3 ∧ 0 ≤ f ∧ f + 1 ≤ 2147483648 ^ m ∧ σ = [some (.obj i), some (.int (t + 1)), some (.int f), a, b, d]) ?_ ?_ _ _ _
    ⟨rfl, [2147483629, 2147483587, 2147483579], 0, none, none, none, 0, rfl, by decide, rfl, by omega, by omega, rfl⟩
  · rintro σ M' ⟨rfl, ps, f, a, b, d, m, h1, -, -, -, -, rfl⟩
    refine ⟨trivial, ?_⟩
    simp only [dRet, dVar]
    exact ⟨_, rfl, gcQ_len hle rfl hbd (fin f)⟩
  · rintro d rest σ M' K ⟨rfl, ps, f, a, b, d', m, h1, h2, h3, h4, h5, rfl⟩ hrt hbk hnx hct
    cases ps with
    | nil => simp [dSeq, dRet, dNext, dIf, dAnd, dOr, dNot, dIfE, dApp, dCons, dNil, dVar, dC, dBin, dUn, dCall, dChain, dRaise, dDrop, dAsg, dgName, dPar, dTup, dLst, startD, c1D, c2D, iiD, ltD, ixG, ixD, sqD, atI_0, atI_1, dget_tup, dget_lst] at h1
    | cons p ps =>
      simp only [List.map_cons, List.cons.injEq] at h1
      obtain ⟨rfl, rfl⟩ := h1
      obtain ⟨p0, p1⟩ := h2 p (by simp [dSeq, dRet, dNext, dIf, dAnd, dOr, dNot, dIfE, dApp, dCons, dNil, dVar, dC, dBin, dUn, dCall, dChain, dRaise, dDrop, dAsg, dgName, dPar, dTup, dLst, startD, c1D, c2D, iiD, ltD, ixG, ixD, sqD, atI_0, atI_1, dget_tup, dget_lst])
      refine ⟨trivial, ?_⟩
      simp only [dgName, dAsg, dBin, dApp, dCons, dNil, dVar, dC, c1D]
      refine ⟨_, rfl, ?_⟩
      have l1 : (t + 1).natAbs.log2 < 65 := log2_small (by omega) (by omega) (by omega)
      refine ⟨by show _ + _ < _; have : (69621 : Int).natAbs.log2 = 16 := by decide
                 omega, _, rfl, ?_⟩
      refine ⟨⟨by omega, by have : (13 : Int).natAbs.log2 = 3 := by decide
                            omega⟩, _, rfl, ?_⟩
      refine ⟨p0, ?_⟩
      simp only [List.set]
      refine ⟨_, rfl, g4c gi ?_⟩
      have hst := Int.emod_nonneg ((t + 1) * 69621 + p / 13) (b := p) (by omega)
      have hlt := Int.emod_lt_of_pos ((t + 1) * 69621 + p / 13) p0
      generalize ((t + 1) * 69621 + p / 13) % p = s0 at hst hlt
      refine wFor_inv (fun rest σ M' => Mz = M' ∧ ∃ (cs : List Int) (s : Int) (d : Option D), rest = cs.map .int ∧ 0 ≤ s ∧ s < p ∧ σ = [some (.obj i), some (.int (t + 1)), some (.int f), some (.int p), some (.int s), d]) ?_ ?_ _ _ _
        ⟨rfl, cells, s0, d', rfl, hst, hlt, rfl⟩
      · rintro σ M' ⟨rfl, cs, s, d, -, s1, s2, rfl⟩
        refine ⟨trivial, ?_⟩
        simp only [dAsg, dBin, dApp, dCons, dNil, dVar, dC, c1D, dgName]
        have hm : m ≤ 2 := by simp [dSeq, dRet, dNext, dIf, dAnd, dOr, dNot, dIfE, dApp, dCons, dNil, dVar, dC, dBin, dUn, dCall, dChain, dRaise, dDrop, dAsg, dgName, dPar, dTup, dLst, startD, c1D, c2D, iiD, ltD, ixG, ixD, sqD, atI_0, atI_1, dget_tup, dget_lst] at h3; omega
        have l2 : f.natAbs.log2 < 64 := by
          refine log2_small h4 ?_ (by omega)
          rcases (by omega : m = 0 ∨ m = 1 ∨ m = 2) with rfl | rfl | rfl <;> omega
        refine ⟨_, rfl, ?_⟩
        refine ⟨by show _ + _ < _; have : (2147483647 : Int).natAbs.log2 = 30 := by decide
                   omega, _, rfl, ?_⟩
        refine ⟨⟨by omega, by omega, by omega⟩, _, rfl, ?_⟩
        refine ⟨p0, ?_⟩
        have q1 := Int.emod_nonneg (s ^ (5 : Int).toNat) (b := p) (by omega)
        have q2 := Int.emod_lt_of_pos (s ^ (5 : Int).toNat) p0
        refine hnx _ _ ⟨rfl, ps, _, _, _, _, m + 1, rfl, fun p' hp => h2 p' (by simp [dSeq, dRet, dNext, dIf, dAnd, dOr, dNot, dIfE, dApp, dCons, dNil, dVar, dC, dBin, dUn, dCall, dChain, dRaise, dDrop, dAsg, dgName, dPar, dTup, dLst, startD, c1D, c2D, iiD, ltD, ixG, ixD, sqD, atI_0, atI_1, dget_tup, dget_lst, hp]), by simp [dSeq, dRet, dNext, dIf, dAnd, dOr, dNot, dIfE, dApp, dCons, dNil, dVar, dC, dBin, dUn, dCall, dChain, dRaise, dDrop, dAsg, dgName, dPar, dTup, dLst, startD, c1D, c2D, iiD, ltD, ixG, ixD, sqD, atI_0, atI_1, dget_tup, dget_lst] at h3; omega, ?_, ?_, rfl⟩
        · omega
        · rw [Int.pow_succ]
          generalize (2147483648 : Int) ^ m = B at h5
          omega
      · rintro d rest σ M' K2 ⟨rfl, cs, s, d2, h1, s1, s2, rfl⟩ hrt2 hbk2 hnx2 hct2
        cases cs with
        | nil => simp [dSeq, dRet, dNext, dIf, dAnd, dOr, dNot, dIfE, dApp, dCons, dNil, dVar, dC, dBin, dUn, dCall, dChain, dRaise, dDrop, dAsg, dgName, dPar, dTup, dLst, startD, c1D, c2D, iiD, ltD, ixG, ixD, sqD, atI_0, atI_1, dget_tup, dget_lst] at h1
        | cons cl cs =>
          simp only [List.map_cons, List.cons.injEq] at h1
          obtain ⟨rfl, rfl⟩ := h1
          refine ⟨trivial, ?_⟩
          simp only [dgName, dAsg, dBin, dApp, dCons, dNil, dVar, dC, c1D, dSeq]
          have l3 : s.natAbs.log2 < 31 := log2_small s1 (by omega) (by omega)
          refine ⟨_, rfl, ?_⟩
          refine ⟨by show _ + _ < _; have : (48271 : Int).natAbs.log2 = 15 := by decide
                     omega, _, rfl, ?_⟩
          refine ⟨_, rfl, p0, ?_⟩
          exact hnx2 _ _ ⟨rfl, cs, _, _, rfl, Int.emod_nonneg _ (by omega), Int.emod_lt_of_pos _ p0, rfl⟩
end Law
namespace Law
open PySem PySem.Spec PyProof.Rows L2 LamX TL
theorem isI_all {es : List D} (h : es.all isI = true) : ∃ ns : List Int, es = ns.map .int := ⟨es.map iOf, (rowD_rowI h).symm⟩
mutual
theorem bd_le {n m : Nat} (h : n ≤ m) : ∀ {d : D}, D.bd n d = true → D.bd m d = true
  | .non, _ => rfl
  | .bl _, _ => rfl
  | .int _, _ => rfl
  | .str _, _ => rfl
  | .tup ds, e => by rw [D.bd] at e ⊢; exact bdL_le h e
  | .lst ds, e => by rw [D.bd] at e ⊢; exact bdL_le h e
  | .dk _ ds, e => by rw [D.bd] at e ⊢; exact bdL_le h e
  | .dt _ ds, e => by rw [D.bd] at e ⊢; exact bdL_le h e
  | .obj i, e => by simp only [D.bd, decide_eq_true_eq] at e ⊢; omega
  | .err _ ds, e => by rw [D.bd] at e ⊢; exact bdL_le h e
  | .cls _, _ => rfl
  | .raw _, _ => rfl
  | .scr _, _ => rfl
theorem bdL_le {n m : Nat} (h : n ≤ m) : ∀ {ds : List D}, D.bdL n ds = true → D.bdL m ds = true
  | [], _ => rfl
  | d :: ds, e => by simp only [D.bdL, Bool.and_eq_true] at e ⊢; exact ⟨bd_le h e.1, bdL_le h e.2⟩
end
def absI (i : Int) : Int := if i < 0 then -i else i
theorem pl__law_begun (c : Wc) : PL sp__law_begun 3 (rd__law_begun c) := by
  intro ds M q x b1 b2 h; simp only [sp__law_begun] at h; split at h; case h_2 => exact h.elim
  obtain ⟨h1, h⟩ := h
  rename_i ns
  rw [rd__law_begun, dSeq]
  simp only [dAsg, dLc, dSeqI, dVar]
  refine ⟨_, rfl, ?_⟩
  simp only [seqItems]
  refine wLc_filter (fun e => decide (1000000000000000000 ≤ absI (iOf e))) (fun e => .int (absI (iOf e) - 1000000000000000000)) trivial _ [] (by have := small_sz (n := ns.length) (by omega); simpa [dSeq, dRet, dNext, dIf, dAnd, dOr, dNot, dIfE, dApp, dCons, dNil, dVar, dC, dBin, dUn, dCall, dChain, dRaise, dDrop, dAsg, dgName, dPar, dTup, dLst, startD, c1D, c2D, iiD, ltD, ixG, ixD, sqD, atI_0, atI_1, dget_tup, dget_lst] using this) ?_ ?_
  · simp only [mkL, if_true, dgName, dSeq, dRet, dDispK, List.nil_append]
    have hL : ∃ large : List Int, (List.filter (fun e => decide (1000000000000000000 ≤ absI (iOf e))) (ns.map D.int)).map (fun e => D.int (absI (iOf e) - 1000000000000000000)) = large.map .int ∧ large.length ≤ 63 := by
      refine ⟨_, (List.map_map (g := D.int) (f := fun e => (absI (iOf e) - 1000000000000000000)) (l := _)).symm, ?_⟩
      rw [List.length_map]
      exact Nat.le_trans (List.length_filter_le _ _) (by simpa [dSeq, dRet, dNext, dIf, dAnd, dOr, dNot, dIfE, dApp, dCons, dNil, dVar, dC, dBin, dUn, dCall, dChain, dRaise, dDrop, dAsg, dgName, dPar, dTup, dLst, startD, c1D, c2D, iiD, ltD, ixG, ixD, sqD, atI_0, atI_1, dget_tup, dget_lst] using h1)
    obtain ⟨large, e, hl⟩ := hL
    rw [e]
    simp only [dPairs, dC, dVar, dLc, dSeqI]
    refine ⟨_, rfl, _, rfl, ?_⟩
    simp only [seqItems]
    refine wLc_pure (fun e => .int (absI (iOf e))) trivial _ [] (by have := small_sz (n := ns.length) (by omega); simpa [dSeq, dRet, dNext, dIf, dAnd, dOr, dNot, dIfE, dApp, dCons, dNil, dVar, dC, dBin, dUn, dCall, dChain, dRaise, dDrop, dAsg, dgName, dPar, dTup, dLst, startD, c1D, c2D, iiD, ltD, ixG, ixD, sqD, atI_0, atI_1, dget_tup, dget_lst] using this) ?_ ?_
    · simp only [mkL, Bool.false_eq_true, if_false, List.nil_append]
      refine ⟨k4, rfl, by decide, by decide, ?_⟩
      simp only [mkD, if_true]
      have hc : (ns.map D.int).map (fun e => D.int (absI (iOf e))) = (ns.map absI).map .int := by simp only [List.map_map]; rfl
      rw [hc]
      simp only [List.map_cons, List.map_nil]
      have hlen : (M ++ [D.lst (large.map .int)]).length = M.length + 1 := by simp [dSeq, dRet, dNext, dIf, dAnd, dOr, dNot, dIfE, dApp, dCons, dNil, dVar, dC, dBin, dUn, dCall, dChain, dRaise, dDrop, dAsg, dgName, dPar, dTup, dLst, startD, c1D, c2D, iiD, ltD, ixG, ixD, sqD, atI_0, atI_1, dget_tup, dget_lst]
      rw [hlen]
      have hd : Draw (M.length + 1) M.length 0 ((M ++ [D.lst (large.map .int)]) ++ [.dk k4 [.obj M.length, .lst ((ns.map absI).map .int), .int 0, .int 0]]) :=
        ⟨by omega, large, ns.map absI, 0, 0, by simp [dSeq, dRet, dNext, dIf, dAnd, dOr, dNot, dIfE, dApp, dCons, dNil, dVar, dC, dBin, dUn, dCall, dChain, dRaise, dDrop, dAsg, dgName, dPar, dTup, dLst, startD, c1D, c2D, iiD, ltD, ixG, ixD, sqD, atI_0, atI_1, dget_tup, dget_lst], by simp [dSeq, dRet, dNext, dIf, dAnd, dOr, dNot, dIfE, dApp, dCons, dNil, dVar, dC, dBin, dUn, dCall, dChain, dRaise, dDrop, dAsg, dgName, dPar, dTup, dLst, startD, c1D, c2D, iiD, ltD, ixG, ixD, sqD, atI_0, atI_1, dget_tup, dget_lst], hl, by simpa [dSeq, dRet, dNext, dIf, dAnd, dOr, dNot, dIfE, dApp, dCons, dNil, dVar, dC, dBin, dUn, dCall, dChain, dRaise, dDrop, dAsg, dgName, dPar, dTup, dLst, startD, c1D, c2D, iiD, ltD, ixG, ixD, sqD, atI_0, atI_1, dget_tup, dget_lst] using h1, by omega, by omega⟩
      have hb : D.bdL (M.length + 2) ((M ++ [D.lst (large.map .int)]) ++ [.dk k4 [.obj M.length, .lst ((ns.map absI).map .int), .int 0, .int 0]]) = true := bdL_of fun d hd => by
        simp only [List.mem_append, List.mem_singleton] at hd
        rcases hd with (hd | rfl) | rfl
        · exact bd_le (by omega) (bd_mem b1 d hd)
        · exact bd_ints large
        · exact bd_k4 (by omega)
      refine ⟨_, [], (List.append_nil _).symm, by simp [dSeq, dRet, dNext, dIf, dAnd, dOr, dNot, dIfE, dApp, dCons, dNil, dVar, dC, dBin, dUn, dCall, dChain, dRaise, dDrop, dAsg, dgName, dPar, dTup, dLst, startD, c1D, c2D, iiD, ltD, ixG, ixD, sqD, atI_0, atI_1, dget_tup, dget_lst], by simp [dSeq, dRet, dNext, dIf, dAnd, dOr, dNot, dIfE, dApp, dCons, dNil, dVar, dC, dBin, dUn, dCall, dChain, dRaise, dDrop, dAsg, dgName, dPar, dTup, dLst, startD, c1D, c2D, iiD, ltD, ixG, ixD, sqD, atI_0, atI_1, dget_tup, dget_lst, D.bd], by simpa [dSeq, dRet, dNext, dIf, dAnd, dOr, dNot, dIfE, dApp, dCons, dNil, dVar, dC, dBin, dUn, dCall, dChain, dRaise, dDrop, dAsg, dgName, dPar, dTup, dLst, startD, c1D, c2D, iiD, ltD, ixG, ixD, sqD, atI_0, atI_1, dget_tup, dget_lst] using hb, h _ (by simp [dSeq, dRet, dNext, dIf, dAnd, dOr, dNot, dIfE, dApp, dCons, dNil, dVar, dC, dBin, dUn, dCall, dChain, dRaise, dDrop, dAsg, dgName, dPar, dTup, dLst, startD, c1D, c2D, iiD, ltD, ixG, ixD, sqD, atI_0, atI_1, dget_tup, dget_lst]) (fun k hk => ?_) (by simpa [dSeq, dRet, dNext, dIf, dAnd, dOr, dNot, dIfE, dApp, dCons, dNil, dVar, dC, dBin, dUn, dCall, dChain, dRaise, dDrop, dAsg, dgName, dPar, dTup, dLst, startD, c1D, c2D, iiD, ltD, ixG, ixD, sqD, atI_0, atI_1, dget_tup, dget_lst] using hb) hd⟩
      rw [List.append_assoc, List.getElem?_append_left hk]
    · intro d hd q hq
      obtain ⟨i, _, rfl⟩ := List.mem_map.mp hd
      exact ⟨_, rfl, hq⟩
  · intro d hd r s hb
    obtain ⟨i, _, rfl⟩ := List.mem_map.mp hd
    have hb := hb _ rfl
    simp only [iOf] at hb
    simp only [dgName, dBin, dApp, dCons, dNil, dVar, dC, c1D]
    refine ⟨_, rfl, ?_⟩
    have e10 : (10 : Int) ^ (18 : Int).toNat = 1000000000000000000 := by decide
    refine ⟨⟨by omega, by omega, by omega⟩, ?_⟩
    refine ⟨trivial, _, rfl, ?_⟩
    have hb : if decide (1000000000000000000 ≤ absI i) = true then s (.int (absI i - 1000000000000000000)) M else r .non M := hb
    by_cases h3 : 1000000000000000000 ≤ absI i
    · rw [if_pos (by simpa [dSeq, dRet, dNext, dIf, dAnd, dOr, dNot, dIfE, dApp, dCons, dNil, dVar, dC, dBin, dUn, dCall, dChain, dRaise, dDrop, dAsg, dgName, dPar, dTup, dLst, startD, c1D, c2D, iiD, ltD, ixG, ixD, sqD, atI_0, atI_1, dget_tup, dget_lst] using h3)] at hb
      rw [if_pos (by rw [e10]; exact decide_eq_true h3)]
      refine ⟨_, rfl, ?_⟩
      refine ⟨⟨by omega, by omega, by omega⟩, trivial, ?_⟩
      rw [e10]
      exact hb
    · rw [if_neg (by simpa [dSeq, dRet, dNext, dIf, dAnd, dOr, dNot, dIfE, dApp, dCons, dNil, dVar, dC, dBin, dUn, dCall, dChain, dRaise, dDrop, dAsg, dgName, dPar, dTup, dLst, startD, c1D, c2D, iiD, ltD, ixG, ixD, sqD, atI_0, atI_1, dget_tup, dget_lst] using h3)] at hb
      rw [if_neg (by rw [e10]; exact fun z => h3 (of_decide_eq_true z))]
      exact hb
theorem pl__law_same (c : Wc) : PL sp__law_same 2 (rd__law_same c) := by
  intro ds M q x b1 b2 h; simp only [sp__law_same] at h; split at h; case h_2 => exact h.elim
  obtain ⟨rfl, ⟨h1, h2, h3, h4⟩, h⟩ := h
  rename_i a
  simp only [rd__law_same, dSeq, dRet, dBin, dApp, dCons, dNil, dVar, c1D]
  have hp := pd_pdv (M := M) 61 a h1 (by omega)
  refine ⟨_, rfl, 61, _, hp, h3, pdv_noDict a, h2, h4, _, rfl, 61, _, hp, h3, pdv_noDict a, h2, h4, ?_⟩
  simp only [eqD]
  exact gcQ_here rfl b1 (by simpa [dSeq, dRet, dNext, dIf, dAnd, dOr, dNot, dIfE, dApp, dCons, dNil, dVar, dC, dBin, dUn, dCall, dChain, dRaise, dDrop, dAsg, dgName, dPar, dTup, dLst, startD, c1D, c2D, iiD, ltD, ixG, ixD, sqD, atI_0, atI_1, dget_tup, dget_lst] using h)
theorem pl__law_sum (c : Wc) : PL sp__law_sum 2 (rd__law_sum c) := by
  intro ds M q x b1 b2 h; simp only [sp__law_sum] at h; split at h; case h_2 => exact h.elim
  obtain ⟨p, h1, h2, h⟩ := h
  rw [rd__law_sum, dSeq, dRet]
  exact sum_lc h1 h2 rfl (by decide) (by simp [dSeq, dRet, dNext, dIf, dAnd, dOr, dNot, dIfE, dApp, dCons, dNil, dVar, dC, dBin, dUn, dCall, dChain, dRaise, dDrop, dAsg, dgName, dPar, dTup, dLst, startD, c1D, c2D, iiD, ltD, ixG, ixD, sqD, atI_0, atI_1, dget_tup, dget_lst, startD]) (gcQ_here (bd_sm _) b1 h)
theorem pl__law_number (c : Wc) : PL sp__law_number 2 (rd__law_number c) := by
  intro ds M q x b1 b2 h; simp only [sp__law_number] at h; split at h; case h_2 => exact h.elim
  obtain ⟨h0, h1, h⟩ := h
  rename_i v n
  simp only [rd__law_number, dSeq, dRet, dIfE, dBin, dVar, dC, neD, eqD]
  refine ⟨_, rfl, _, rfl, _, rfl, ?_⟩
  by_cases h2 : n = 0
  · subst h2
    simp [dSeq, dRet, dNext, dIf, dAnd, dOr, dNot, dIfE, dApp, dCons, dNil, dVar, dC, dBin, dUn, dCall, dChain, dRaise, dDrop, dAsg, dgName, dPar, dTup, dLst, startD, c1D, c2D, iiD, ltD, ixG, ixD, sqD, atI_0, atI_1, dget_tup, dget_lst] at h
    simp only [dNewD]
    simp [dSeq, dRet, dNext, dIf, dAnd, dOr, dNot, dIfE, dApp, dCons, dNil, dVar, dC, dBin, dUn, dCall, dChain, dRaise, dDrop, dAsg, dgName, dPar, dTup, dLst, startD, c1D, c2D, iiD, ltD, ixG, ixD, sqD, atI_0, atI_1, dget_tup, dget_lst]
    exact gcQ_here (by simp [dSeq, dRet, dNext, dIf, dAnd, dOr, dNot, dIfE, dApp, dCons, dNil, dVar, dC, dBin, dUn, dCall, dChain, dRaise, dDrop, dAsg, dgName, dPar, dTup, dLst, startD, c1D, c2D, iiD, ltD, ixG, ixD, sqD, atI_0, atI_1, dget_tup, dget_lst, D.bd, D.bdL]) b1 h
  · rw [if_neg h2] at h
    rw [if_pos (by simpa [dSeq, dRet, dNext, dIf, dAnd, dOr, dNot, dIfE, dApp, dCons, dNil, dVar, dC, dBin, dUn, dCall, dChain, dRaise, dDrop, dAsg, dgName, dPar, dTup, dLst, startD, c1D, c2D, iiD, ltD, ixG, ixD, sqD, atI_0, atI_1, dget_tup, dget_lst] using h2)]
    simp only [dDispT, dBin, dTup, dCons, dNil, dC, dVar]
    refine ⟨small_sz (by simp [dSeq, dRet, dNext, dIf, dAnd, dOr, dNot, dIfE, dApp, dCons, dNil, dVar, dC, dBin, dUn, dCall, dChain, dRaise, dDrop, dAsg, dgName, dPar, dTup, dLst, startD, c1D, c2D, iiD, ltD, ixG, ixD, sqD, atI_0, atI_1, dget_tup, dget_lst]), _, rfl, ?_⟩
    simp only [mulD]
    refine ⟨⟨by omega, by omega, by simp [dSeq, dRet, dNext, dIf, dAnd, dOr, dNot, dIfE, dApp, dCons, dNil, dVar, dC, dBin, dUn, dCall, dChain, dRaise, dDrop, dAsg, dgName, dPar, dTup, dLst, startD, c1D, c2D, iiD, ltD, ixG, ixD, sqD, atI_0, atI_1, dget_tup, dget_lst]⟩, _, rfl, keyL (List.replicate v.toNat 0), ?_, ?_⟩
    · rw [flat_zero]; exact tkD_row _
    · simp only [mkD, Bool.false_eq_true, if_false]
      exact gcQ_here (by simp [dSeq, dRet, dNext, dIf, dAnd, dOr, dNot, dIfE, dApp, dCons, dNil, dVar, dC, dBin, dUn, dCall, dChain, dRaise, dDrop, dAsg, dgName, dPar, dTup, dLst, startD, c1D, c2D, iiD, ltD, ixG, ixD, sqD, atI_0, atI_1, dget_tup, dget_lst, D.bd, D.bdL]) b1 h
theorem pl__law_letter (c : Wc) : PL sp__law_letter 3 (rd__law_letter c) := by
  intro ds M q x b1 b2 h; simp only [sp__law_letter] at h; split at h; case h_2 => exact h.elim
  obtain ⟨h0, h1, h⟩ := h
  rename_i v k
  simp only [rd__law_letter, dSeq, dRet, dDispT, dApp, dCons, dNil, dLc, dRg1, dVar, dC, c1D]
  refine ⟨_, rfl, v, rfl, by omega, ?_⟩
  refine wLc_pure (fun d => .int (if iOf d = k then 1 else 0)) trivial (rgD 0 v.toNat) [] (by rw [rgD_len]; have := small_sz (n := v.toNat) (by omega); simp only [List.length_nil, Nat.zero_add]; exact this) ?_ fun d hd q hq => ?_
  · simp only [mkL, Bool.false_eq_true, if_false, tupOfD, sqD, lsD, List.nil_append]
    refine ⟨_, rfl, keyL (letR v.toNat k), ?_, ?_⟩
    · have e : (rgD 0 v.toNat).map (fun d => D.int (if iOf d = k then 1 else 0)) = (letR v.toNat k).map D.int := by
        simp only [rgD_map, letR, List.map_map]
        refine List.map_congr_left fun i _ => ?_
        by_cases h : (i : Int) = k <;> simp [dSeq, dRet, dNext, dIf, dAnd, dOr, dNot, dIfE, dApp, dCons, dNil, dVar, dC, dBin, dUn, dCall, dChain, dRaise, dDrop, dAsg, dgName, dPar, dTup, dLst, startD, c1D, c2D, iiD, ltD, ixG, ixD, sqD, atI_0, atI_1, dget_tup, dget_lst, iOf, h]
      rw [e]
      exact tkD_row _
    · simp only [mkD, Bool.false_eq_true, if_false]
      exact gcQ_here (by simp [dSeq, dRet, dNext, dIf, dAnd, dOr, dNot, dIfE, dApp, dCons, dNil, dVar, dC, dBin, dUn, dCall, dChain, dRaise, dDrop, dAsg, dgName, dPar, dTup, dLst, startD, c1D, c2D, iiD, ltD, ixG, ixD, sqD, atI_0, atI_1, dget_tup, dget_lst, D.bd, D.bdL]) b1 h
  · obtain ⟨i, hi, rfl⟩ := rgD_mem hd
    simp only [wipeD, dgName, dIfE, dBin, dVar]
    refine ⟨_, rfl, _, rfl, ?_⟩
    simp only [eqD]
    refine ⟨_, rfl, ?_⟩
    by_cases h : (0 + (i : Int)) = k
    · rw [if_pos (by simpa [dSeq, dRet, dNext, dIf, dAnd, dOr, dNot, dIfE, dApp, dCons, dNil, dVar, dC, dBin, dUn, dCall, dChain, dRaise, dDrop, dAsg, dgName, dPar, dTup, dLst, startD, c1D, c2D, iiD, ltD, ixG, ixD, sqD, atI_0, atI_1, dget_tup, dget_lst] using h)]
      have hq : q (.int (if 0 + (i : Int) = k then 1 else 0)) M := hq
      rw [if_pos h] at hq
      exact hq
    · rw [if_neg (by simpa [dSeq, dRet, dNext, dIf, dAnd, dOr, dNot, dIfE, dApp, dCons, dNil, dVar, dC, dBin, dUn, dCall, dChain, dRaise, dDrop, dAsg, dgName, dPar, dTup, dLst, startD, c1D, c2D, iiD, ltD, ixG, ixD, sqD, atI_0, atI_1, dget_tup, dget_lst] using h)]
      have hq : q (.int (if 0 + (i : Int) = k then 1 else 0)) M := hq
      rw [if_neg h] at hq
      exact hq
end Law
namespace Law
open PySem PySem.Spec PyProof.Rows L2 LamX TL
theorem Draw.app {i j n : Nat} {M G : Sto} (h : Draw i j n M) : Draw i j n (M ++ G) := by
  have l := h.lt
  obtain ⟨a, large, cells, r, t, h1, h2, h3⟩ := h
  exact ⟨a, large, cells, r, t, by rw [List.getElem?_append_left l.1]; exact h1, by rw [List.getElem?_append_left l.2]; exact h2, h3⟩
theorem Draw.put {i j n k : Nat} {M : Sto} {d : D} (h : Draw i j n M) (h1 : k ≠ i) (h2 : k ≠ j) : Draw i j n (M.set k d) := by
  obtain ⟨a, large, cells, r, t, g1, g2, h3⟩ := h
  exact ⟨a, large, cells, r, t, by rw [List.getElem?_set_ne h1]; exact g1, by rw [List.getElem?_set_ne h2]; exact g2, h3⟩
theorem bd_draw3 {i j n : Nat} {M M' : Sto} {ks : List (List Key)} {cs : List Int} (b : D.bdL M.length M = true) (hl : M'.length = M.length + 1) (s : ∀ k, k < M.length → k ≠ i → k ≠ j → M'[k]? = M[k]?) (h : Draw i j n M') (hd : M'[M.length]? = some (.dt ks (cs.map .int))) : D.bdL M'.length M' = true := by
  refine bdL_of fun d hd2 => ?_
  obtain ⟨k, hk, rfl⟩ := List.mem_iff_getElem.mp hd2
  have hj := h.lt.2
  obtain ⟨hne, large, cells, r, t, h1, h2, _⟩ := h
  have e : M'[k]? = some M'[k] := List.getElem?_eq_getElem hk
  by_cases h3 : k = i
  · subst h3
    rw [h1] at e
    rw [← Option.some.inj e]
    exact bd_k4 hj
  · by_cases h4 : k = j
    · subst h4
      rw [h2] at e
      rw [← Option.some.inj e]
      exact bd_ints large
    · by_cases h5 : k < M.length
      · rw [s k h5 h3 h4] at e
        exact bd_le (by omega) (bd_mem b _ (List.mem_of_getElem? e))
      · have : k = M.length := by omega
        subst this
        rw [hd] at e
        rw [← Option.some.inj e, D.bd]
        exact bdL_of fun d hd => by obtain ⟨i, _, rfl⟩ := List.mem_map.mp hd; rfl
theorem pl__law_drawn (c : Wc) : PL sp__law_drawn 9 (rd__law_drawn c) := by
  intro ds M q x b1 b2 h; simp only [sp__law_drawn] at h; split at h; case h_2 => exact h.elim
  obtain ⟨h1, h2, h3, h4, h5, h6, h7, h8, j, n, hD, h9, hn, h⟩ := h
  rename_i i v many lo hi
  have hij := hD.ne
  simp only [rd__law_drawn, dSeq, dAsg, dNewD, if_true, dgName]
  simp only [startD, dFor, dRg1, dCall, dCons, dNil, dVar, dC, dBin, sp__law_take]
  refine ⟨_, rfl, _, rfl, ?_⟩
  simp only [addD]
  refine ⟨by omega, by omega, j, n, hD.app, by omega, fun r M1 r0 r1 s1 d1 => ?_⟩
  refine ⟨r, rfl, by omega, ?_⟩
  have hi0 : M.length ≠ i := by omega
  have hj0 : M.length ≠ j := by omega
  refine wFor_inv (fun rest σ M' => ∃ (p : List (List Int) × List Int) (a b cc : Option D) (dn : Nat), rest.length + dn = r.toNat ∧ p.1.length ≤ dn ∧ p.1.length = p.2.length ∧ p.1.Nodup ∧ (∀ e ∈ p.1, (e.length : Int) = v ∧ ∀ y ∈ e, lo ≤ y ∧ y ≤ hi) ∧ (∀ c ∈ p.2, okC c) ∧
      M'.length = M.length + 1 ∧ (∀ k, k < M.length → k ≠ i → k ≠ j → M'[k]? = M[k]?) ∧ M'[M.length]? = some (.dt (dR p).1 (dR p).2) ∧ Draw i j (n + 1 + dn * 20) M' ∧
      σ = [some (.obj i), some (.int v), some (.int many), some (.int lo), some (.int hi), some (.obj M.length), a, b, cc]) ?_ ?_ _ _ _
    ⟨([], []), none, none, none, 0, by simp [dSeq, dRet, dNext, dIf, dAnd, dOr, dNot, dIfE, dApp, dCons, dNil, dVar, dC, dBin, dUn, dCall, dChain, dRaise, dDrop, dAsg, dgName, dPar, dTup, dLst, startD, c1D, c2D, iiD, ltD, ixG, ixD, sqD, atI_0, atI_1, dget_tup, dget_lst, rgD_len], Nat.le_refl _, rfl, by simp [dSeq, dRet, dNext, dIf, dAnd, dOr, dNot, dIfE, dApp, dCons, dNil, dVar, dC, dBin, dUn, dCall, dChain, dRaise, dDrop, dAsg, dgName, dPar, dTup, dLst, startD, c1D, c2D, iiD, ltD, ixG, ixD, sqD, atI_0, atI_1, dget_tup, dget_lst], by simp [dSeq, dRet, dNext, dIf, dAnd, dOr, dNot, dIfE, dApp, dCons, dNil, dVar, dC, dBin, dUn, dCall, dChain, dRaise, dDrop, dAsg, dgName, dPar, dTup, dLst, startD, c1D, c2D, iiD, ltD, ixG, ixD, sqD, atI_0, atI_1, dget_tup, dget_lst], by simp [dSeq, dRet, dNext, dIf, dAnd, dOr, dNot, dIfE, dApp, dCons, dNil, dVar, dC, dBin, dUn, dCall, dChain, dRaise, dDrop, dAsg, dgName, dPar, dTup, dLst, startD, c1D, c2D, iiD, ltD, ixG, ixD, sqD, atI_0, atI_1, dget_tup, dget_lst], by rw [s1.1]; simp [dSeq, dRet, dNext, dIf, dAnd, dOr, dNot, dIfE, dApp, dCons, dNil, dVar, dC, dBin, dUn, dCall, dChain, dRaise, dDrop, dAsg, dgName, dPar, dTup, dLst, startD, c1D, c2D, iiD, ltD, ixG, ixD, sqD, atI_0, atI_1, dget_tup, dget_lst], fun k hk k1 k2 => by rw [s1.2 k k1 k2, List.getElem?_append_left hk], by rw [s1.2 _ hi0 hj0]; simp [dSeq, dRet, dNext, dIf, dAnd, dOr, dNot, dIfE, dApp, dCons, dNil, dVar, dC, dBin, dUn, dCall, dChain, dRaise, dDrop, dAsg, dgName, dPar, dTup, dLst, startD, c1D, c2D, iiD, ltD, ixG, ixD, sqD, atI_0, atI_1, dget_tup, dget_lst, dR], d1.mono (by omega), rfl⟩
  · rintro σ M' ⟨p, a, b, cc, dn, k1, k2, k3, k4, k5, k6, k7, k8, k9, k10, rfl⟩
    refine ⟨trivial, ?_⟩
    simp only [List.length_nil, Nat.zero_add] at k1
    have hb : D.bdL M'.length M' = true := bd_draw3 b1 k7 k8 k10 k9
    simp only [dRet, dVar]
    refine ⟨_, rfl, M', [], by simp [dSeq, dRet, dNext, dIf, dAnd, dOr, dNot, dIfE, dApp, dCons, dNil, dVar, dC, dBin, dUn, dCall, dChain, dRaise, dDrop, dAsg, dgName, dPar, dTup, dLst, startD, c1D, c2D, iiD, ltD, ixG, ixD, sqD, atI_0, atI_1, dget_tup, dget_lst], by omega, by simp [dSeq, dRet, dNext, dIf, dAnd, dOr, dNot, dIfE, dApp, dCons, dNil, dVar, dC, dBin, dUn, dCall, dChain, dRaise, dDrop, dAsg, dgName, dPar, dTup, dLst, startD, c1D, c2D, iiD, ltD, ixG, ixD, sqD, atI_0, atI_1, dget_tup, dget_lst, D.bd]; omega, hb, h p M' ⟨k3, by omega, fun e he z => ?_, k4⟩ (by omega) k5 k6 k7 k8 (k10.mono (by omega)) k9 hb⟩
    have := (k5 e he).1
    rw [z] at this
    simp [dSeq, dRet, dNext, dIf, dAnd, dOr, dNot, dIfE, dApp, dCons, dNil, dVar, dC, dBin, dUn, dCall, dChain, dRaise, dDrop, dAsg, dgName, dPar, dTup, dLst, startD, c1D, c2D, iiD, ltD, ixG, ixD, sqD, atI_0, atI_1, dget_tup, dget_lst] at this
    omega
  · rintro d rest σ M' K ⟨p, a, b, cc, dn, k1, k2, k3, k4, k5, k6, k7, k8, k9, k10, rfl⟩ hrt hbk hnx hct
    refine ⟨trivial, ?_⟩
    refine ⟨_, rfl, v, rfl, by omega, ?_⟩
    simp only [List.length_cons] at k1
    refine wLc_inv (fun rest acc M'' => ∃ e : List Int, acc = e.map .int ∧ (∀ y ∈ e, lo ≤ y ∧ y ≤ hi) ∧ e.length + rest.length = v.toNat ∧ SameBut i j M' M'' ∧ Draw i j (n + 1 + dn * 20 + e.length) M'') ?_ ?_ _ _ _ ⟨[], rfl, by simp [dSeq, dRet, dNext, dIf, dAnd, dOr, dNot, dIfE, dApp, dCons, dNil, dVar, dC, dBin, dUn, dCall, dChain, dRaise, dDrop, dAsg, dgName, dPar, dTup, dLst, startD, c1D, c2D, iiD, ltD, ixG, ixD, sqD, atI_0, atI_1, dget_tup, dget_lst], by simp [dSeq, dRet, dNext, dIf, dAnd, dOr, dNot, dIfE, dApp, dCons, dNil, dVar, dC, dBin, dUn, dCall, dChain, dRaise, dDrop, dAsg, dgName, dPar, dTup, dLst, startD, c1D, c2D, iiD, ltD, ixG, ixD, sqD, atI_0, atI_1, dget_tup, dget_lst, rgD_len], .refl, by simpa [dSeq, dRet, dNext, dIf, dAnd, dOr, dNot, dIfE, dApp, dCons, dNil, dVar, dC, dBin, dUn, dCall, dChain, dRaise, dDrop, dAsg, dgName, dPar, dTup, dLst, startD, c1D, c2D, iiD, ltD, ixG, ixD, sqD, atI_0, atI_1, dget_tup, dget_lst] using k10⟩
    · rintro acc M2 ⟨e, rfl, e1, e2, e3, e4⟩
      refine ⟨trivial, ?_⟩
      simp only [mkL, Bool.false_eq_true, if_false, tupOfD, sqD, lsD]
      simp only [List.length_nil, Nat.add_zero] at e2
      refine ⟨_, rfl, ?_⟩
      simp only [List.set, dPut, dCall, dCons, dNil, dVar, dC, dLst, dUn, dBin, negD, iiD, sp__law_pick, mkL, Bool.false_eq_true, if_false]
      refine ⟨_, rfl, ⟨by omega, by omega, by omega⟩, small_sz (by simp [dSeq, dRet, dNext, dIf, dAnd, dOr, dNot, dIfE, dApp, dCons, dNil, dVar, dC, dBin, dUn, dCall, dChain, dRaise, dDrop, dAsg, dgName, dPar, dTup, dLst, startD, c1D, c2D, iiD, ltD, ixG, ixD, sqD, atI_0, atI_1, dget_tup, dget_lst]), by simp [dSeq, dRet, dNext, dIf, dAnd, dOr, dNot, dIfE, dApp, dCons, dNil, dVar, dC, dBin, dUn, dCall, dChain, dRaise, dDrop, dAsg, dgName, dPar, dTup, dLst, startD, c1D, c2D, iiD, ltD, ixG, ixD, sqD, atI_0, atI_1, dget_tup, dget_lst], by simp [dSeq, dRet, dNext, dIf, dAnd, dOr, dNot, dIfE, dApp, dCons, dNil, dVar, dC, dBin, dUn, dCall, dChain, dRaise, dDrop, dAsg, dgName, dPar, dTup, dLst, startD, c1D, c2D, iiD, ltD, ixG, ixD, sqD, atI_0, atI_1, dget_tup, dget_lst], j, _, e4, by omega, fun y M3 hy s3 d3 => ?_⟩
      refine ⟨_, rfl, _, rfl, ?_⟩
      obtain ⟨cv, rfl, hcv⟩ : ∃ cv : Int, y = .int cv ∧ okC cv := by
        simp only [List.mem_cons, List.not_mem_nil, or_false] at hy
        rcases hy with rfl | rfl | rfl | rfl | rfl | rfl | rfl | rfl <;> exact ⟨_, rfl, by decide, by decide⟩
      have hM3 : M3[M.length]? = some (.dt (dR p).1 (dR p).2) := by rw [s3.2 _ hi0 hj0, e3.2 _ hi0 hj0]; exact k9
      have hq := dR_put p e cv
      have hsz := putR_size p e cv
      refine ⟨M3.set M.length (.dt (dR (putR p e cv)).1 (dR (putR p e cv)).2), ?_, ?_⟩
      · have hk : tkD (D.tup (e.map D.int)) = some (keyL e) := tkD_row e
        simp only [dput, hM3, hk, Option.bind_some]
        rw [if_pos (by have := small_sz (n := p.1.length + 1) (by omega); simp [dSeq, dRet, dNext, dIf, dAnd, dOr, dNot, dIfE, dApp, dCons, dNil, dVar, dC, dBin, dUn, dCall, dChain, dRaise, dDrop, dAsg, dgName, dPar, dTup, dLst, startD, c1D, c2D, iiD, ltD, ixG, ixD, sqD, atI_0, atI_1, dget_tup, dget_lst, dR]; omega)]
        simp only [← hq]
      · refine hnx _ _ ⟨putR p e cv, _, _, _, dn + 1, by omega, by omega, putR_len k3 _ _, putR_nodup k4 _ _, ?_, ?_, ?_, ?_, set_get hM3, (d3.put hi0 hj0).mono (by omega), rfl⟩
        · intro e' he
          rcases putR_mem he with h10 | rfl
          · exact k5 e' h10
          · exact ⟨by omega, e1⟩
        · intro c' hc
          simp only [putR, putVs] at hc
          split at hc
          · obtain ⟨k, hk, h11⟩ := List.mem_iff_getElem.mp hc
            rw [List.getElem_zipWith] at h11
            split at h11
            · rw [← h11]; exact hcv
            · rw [← h11]; exact k6 _ (List.getElem_mem _)
          · rcases List.mem_append.mp hc with h10 | h10
            · exact k6 c' h10
            · rw [List.mem_singleton.mp h10]; exact hcv
        · rw [List.length_set, s3.1, e3.1, k7]
        · intro k hk n1 n2
          rw [List.getElem?_set_ne (by omega), s3.2 k n1 n2, e3.2 k n1 n2]
          exact k8 k hk n1 n2
    · rintro d2 rest2 acc M2 k' ⟨e, rfl, e1, e2, e3, e4⟩ hk'
      refine ⟨trivial, ?_⟩
      simp only [List.length_cons] at e2
      simp only [dgName, wipeD, List.set, dC]
      refine ⟨true, rfl, ?_⟩
      rw [if_pos rfl]
      simp only [dBin, dVar, dCall, dCons, dNil, dC, sp__law_take, iiD, addD]
      refine ⟨_, rfl, _, rfl, _, rfl, _, rfl, trivial, by omega, by omega, j, _, e4, by omega, fun y M3 y0 y1 s3 d3 => ?_⟩
      refine ⟨by have := small_sz (n := e.length) (by omega); have h3 : e.length < 100000 := by omega
                 have := small_sz (n := 100000) (by omega); simp [dSeq, dRet, dNext, dIf, dAnd, dOr, dNot, dIfE, dApp, dCons, dNil, dVar, dC, dBin, dUn, dCall, dChain, dRaise, dDrop, dAsg, dgName, dPar, dTup, dLst, startD, c1D, c2D, iiD, ltD, ixG, ixD, sqD, atI_0, atI_1, dget_tup, dget_lst]; omega, hk' _ _ ⟨e ++ [lo + y], by simp [dSeq, dRet, dNext, dIf, dAnd, dOr, dNot, dIfE, dApp, dCons, dNil, dVar, dC, dBin, dUn, dCall, dChain, dRaise, dDrop, dAsg, dgName, dPar, dTup, dLst, startD, c1D, c2D, iiD, ltD, ixG, ixD, sqD, atI_0, atI_1, dget_tup, dget_lst], ?_, by simp [dSeq, dRet, dNext, dIf, dAnd, dOr, dNot, dIfE, dApp, dCons, dNil, dVar, dC, dBin, dUn, dCall, dChain, dRaise, dDrop, dAsg, dgName, dPar, dTup, dLst, startD, c1D, c2D, iiD, ltD, ixG, ixD, sqD, atI_0, atI_1, dget_tup, dget_lst]; omega, e3.trans s3, by simpa [dSeq, dRet, dNext, dIf, dAnd, dOr, dNot, dIfE, dApp, dCons, dNil, dVar, dC, dBin, dUn, dCall, dChain, dRaise, dDrop, dAsg, dgName, dPar, dTup, dLst, startD, c1D, c2D, iiD, ltD, ixG, ixD, sqD, atI_0, atI_1, dget_tup, dget_lst, Nat.add_assoc] using d3⟩⟩
      intro z hz
      rcases List.mem_append.mp hz with h10 | h10
      · exact e1 z h10
      · rw [List.mem_singleton.mp h10]; omega
end Law
namespace Law
open PySem PySem.Spec PyProof.Rows L2 LamX TL
theorem eqOk_lst (ns : List Int) (h : ns.length ≤ sizeLine) : eqOk (.lst (ns.map .int)) := by
  have := eqOk_row h
  refine ⟨by simpa [dSeq, dRet, dNext, dIf, dAnd, dOr, dNot, dIfE, dApp, dCons, dNil, dVar, dC, dBin, dUn, dCall, dChain, dRaise, dDrop, dAsg, dgName, dPar, dTup, dLst, startD, c1D, c2D, iiD, ltD, ixG, ixD, sqD, atI_0, atI_1, dget_tup, dget_lst, rowD, pln] using this.1, ?_⟩
  have h2 := this.2
  unfold SeqAt.shaped at h2 ⊢
  simpa [dSeq, dRet, dNext, dIf, dAnd, dOr, dNot, dIfE, dApp, dCons, dNil, dVar, dC, dBin, dUn, dCall, dChain, dRaise, dDrop, dAsg, dgName, dPar, dTup, dLst, startD, c1D, c2D, iiD, ltD, ixG, ixD, sqD, atI_0, atI_1, dget_tup, dget_lst, rowD, pdv, PyData.canLay0, PyData.depth] using h2
theorem eqv_lst_nil (ns : List Int) : PyData.eqv (pdv (.lst (ns.map .int))) (pdv (.lst [])) = ns.isEmpty := by
  cases ns <;> simp [dSeq, dRet, dNext, dIf, dAnd, dOr, dNot, dIfE, dApp, dCons, dNil, dVar, dC, dBin, dUn, dCall, dChain, dRaise, dDrop, dAsg, dgName, dPar, dTup, dLst, startD, c1D, c2D, iiD, ltD, ixG, ixD, sqD, atI_0, atI_1, dget_tup, dget_lst, pdv, pdvL, PyData.eqv, PyData.eqvAll]
def good (v : Int) (t : D) : Bool := isTerm v t && decide (cntI t ≠ 0)
theorem isSum_bad {v : Int} {ts : List D} {t : D} (h : t ∈ ts) (hg : good v t = false) : isSum v (.tup ts) = false := by
  cases e : isSum v (.tup ts) with
  | false => rfl
  | true =>
    simp only [isSum, Bool.and_eq_true, List.all_eq_true] at e
    obtain ⟨⟨⟨_, h2⟩, h3⟩, _⟩ := e
    simp [dSeq, dRet, dNext, dIf, dAnd, dOr, dNot, dIfE, dApp, dCons, dNil, dVar, dC, dBin, dUn, dCall, dChain, dRaise, dDrop, dAsg, dgName, dPar, dTup, dLst, startD, c1D, c2D, iiD, ltD, ixG, ixD, sqD, atI_0, atI_1, dget_tup, dget_lst, good, h2 t h, h3 t h] at hg
theorem isInt_test {w : D} {M : Sto} {q : QD} {σ : Std} {x : XD} {i : Nat} (hw : pln w = true) (hs : σ[i]? = some (some w)) (h : q (.bl (!isI w)) M) :
    dOr (dNot (dApp (c2D (isiD subK)) (dCons (dVar i) (dCons (dC (.raw (.ty "int"))) dNil)))) (dApp (c2D (isiD subK)) (dCons (dVar i) (dCons (dC (.raw (.ty "bool"))) dNil))) σ M q x := by
  simp only [dOr, dNot, dApp, dCons, dNil, dVar, dC, c2D]
  refine ⟨w, hs, ?_⟩
  cases w <;> simp [dSeq, dRet, dNext, dIf, dAnd, dOr, dNot, dIfE, dApp, dCons, dNil, dVar, dC, dBin, dUn, dCall, dChain, dRaise, dDrop, dAsg, dgName, dPar, dTup, dLst, startD, c1D, c2D, iiD, ltD, ixG, ixD, sqD, atI_0, atI_1, dget_tup, dget_lst, pln] at hw <;> simp [dSeq, dRet, dNext, dIf, dAnd, dOr, dNot, dIfE, dApp, dCons, dNil, dVar, dC, dBin, dUn, dCall, dChain, dRaise, dDrop, dAsg, dgName, dPar, dTup, dLst, startD, c1D, c2D, iiD, ltD, ixG, ixD, sqD, atI_0, atI_1, dget_tup, dget_lst, isiD, tyD, bsub, tyNames, hs] <;> exact h
theorem isT_test {d : D} {M : Sto} {q : QD} (hp : pln d = true) (h : q (.bl (isT d)) M) : isiD subK d (.raw (.ty "tuple")) M q := by
  cases d <;> simp [dSeq, dRet, dNext, dIf, dAnd, dOr, dNot, dIfE, dApp, dCons, dNil, dVar, dC, dBin, dUn, dCall, dChain, dRaise, dDrop, dAsg, dgName, dPar, dTup, dLst, startD, c1D, c2D, iiD, ltD, ixG, ixD, sqD, atI_0, atI_1, dget_tup, dget_lst, pln] at hp <;> exact ⟨by decide, _, rfl, h⟩
theorem isT_var {d : D} {M : Sto} {q : QD} {σ : Std} {x : XD} {i : Nat} (hs : σ[i]? = some (some d)) (hp : pln d = true) (h : q (.bl (isT d)) M) : dApp (c2D (isiD subK)) (dCons (dVar i) (dCons (dC (.raw (.ty "tuple"))) dNil)) σ M q x := ⟨d, hs, isT_test (q := q) hp h⟩
theorem isT_ix {r c : D} {M : Sto} {q : QD} {σ : Std} {x : XD} {i : Nat} (hs : σ[i]? = some (some (.tup [r, c]))) (hp : pln r = true) (h : q (.bl (isT r)) M) : dApp (c2D (isiD subK)) (dCons (dBin ixG (dVar i) (dC (.int 0))) (dCons (dC (.raw (.ty "tuple"))) dNil)) σ M q x := ⟨_, hs, .inl ⟨_, _, rfl, atI_0, isT_test (q := q) hp h⟩⟩
def shape (v : Int) (t : D) : Bool := match t with
  | .tup [.tup es, _] => decide ((es.length : Int) = v)
  | _ => false
theorem here1 {t : D} {v : Int} {M : Sto} {q : QD} {σ : Std} {x : XD} (hv : σ[0]? = some (some (.int v))) (hs : σ[2]? = some (some t)) (hp : pln t = true) (h : q (.bl (!shape v t)) M) :
    dOr (dNot (dApp (c2D (isiD subK)) (dCons (dVar 2) (dCons (dC (.raw (.ty "tuple"))) dNil)))) (dOr (dBin neD (dApp (c1D lenD) (dCons (dVar 2) dNil)) (dC (.int 2))) (dOr (dNot (dApp (c2D (isiD subK)) (dCons (dBin ixG (dVar 2) (dC (.int 0))) (dCons (dC (.raw (.ty "tuple"))) dNil)))) (dBin neD (dApp (c1D lenD) (dCons (dBin ixG (dVar 2) (dC (.int 0))) dNil)) (dVar 0)))) σ M q x := by
  refine isT_var hs hp ⟨_, rfl, _, rfl, ?_⟩
  by_cases k1 : isT t = true
  · obtain ⟨xs, rfl⟩ : ∃ xs, t = .tup xs := by cases t <;> simp [dSeq, dRet, dNext, dIf, dAnd, dOr, dNot, dIfE, dApp, dCons, dNil, dVar, dC, dBin, dUn, dCall, dChain, dRaise, dDrop, dAsg, dgName, dPar, dTup, dLst, startD, c1D, c2D, iiD, ltD, ixG, ixD, sqD, atI_0, atI_1, dget_tup, dget_lst, isT] at k1; exact ⟨_, rfl⟩
    rw [if_neg (by simp [dSeq, dRet, dNext, dIf, dAnd, dOr, dNot, dIfE, dApp, dCons, dNil, dVar, dC, dBin, dUn, dCall, dChain, dRaise, dDrop, dAsg, dgName, dPar, dTup, dLst, startD, c1D, c2D, iiD, ltD, ixG, ixD, sqD, atI_0, atI_1, dget_tup, dget_lst, isT])]
    refine ⟨_, hs, ?_⟩
    refine ⟨_, rfl, _, rfl, ?_⟩
    by_cases k2 : xs.length = 2
    · rw [if_neg (by simp [dSeq, dRet, dNext, dIf, dAnd, dOr, dNot, dIfE, dApp, dCons, dNil, dVar, dC, dBin, dUn, dCall, dChain, dRaise, dDrop, dAsg, dgName, dPar, dTup, dLst, startD, c1D, c2D, iiD, ltD, ixG, ixD, sqD, atI_0, atI_1, dget_tup, dget_lst, k2])]
      match xs, k2 with
      | [r, c], _ =>
        simp only [pln, plnL, Bool.and_eq_true] at hp
        have hi : ∀ q : QD, q r M → ixG (.tup [r, c]) (.int 0) M q := fun q hq => .inl ⟨_, _, rfl, atI_0, hq⟩
        refine isT_ix hs hp.2.1 ⟨_, rfl, _, rfl, ?_⟩
        by_cases k3 : isT r = true
        · obtain ⟨es, rfl⟩ : ∃ xs, r = .tup xs := by cases r <;> simp [dSeq, dRet, dNext, dIf, dAnd, dOr, dNot, dIfE, dApp, dCons, dNil, dVar, dC, dBin, dUn, dCall, dChain, dRaise, dDrop, dAsg, dgName, dPar, dTup, dLst, startD, c1D, c2D, iiD, ltD, ixG, ixD, sqD, atI_0, atI_1, dget_tup, dget_lst, isT] at k3; exact ⟨_, rfl⟩
          rw [if_neg (by simp [dSeq, dRet, dNext, dIf, dAnd, dOr, dNot, dIfE, dApp, dCons, dNil, dVar, dC, dBin, dUn, dCall, dChain, dRaise, dDrop, dAsg, dgName, dPar, dTup, dLst, startD, c1D, c2D, iiD, ltD, ixG, ixD, sqD, atI_0, atI_1, dget_tup, dget_lst, isT])]
          refine ⟨_, hs, hi _ ?_⟩
          refine ⟨_, hv, _, rfl, ?_⟩
          have e : (!((es.length : Int) == v)) = !shape v (.tup [.tup es, c]) := by simp only [shape]; by_cases h : (es.length : Int) = v <;> simp [dSeq, dRet, dNext, dIf, dAnd, dOr, dNot, dIfE, dApp, dCons, dNil, dVar, dC, dBin, dUn, dCall, dChain, dRaise, dDrop, dAsg, dgName, dPar, dTup, dLst, startD, c1D, c2D, iiD, ltD, ixG, ixD, sqD, atI_0, atI_1, dget_tup, dget_lst, h]
          rw [e]
          exact h
        · rw [if_pos (by simpa [dSeq, dRet, dNext, dIf, dAnd, dOr, dNot, dIfE, dApp, dCons, dNil, dVar, dC, dBin, dUn, dCall, dChain, dRaise, dDrop, dAsg, dgName, dPar, dTup, dLst, startD, c1D, c2D, iiD, ltD, ixG, ixD, sqD, atI_0, atI_1, dget_tup, dget_lst] using k3)]
          have e : shape v (.tup [r, c]) = false := by cases r <;> first | rfl | simp [dSeq, dRet, dNext, dIf, dAnd, dOr, dNot, dIfE, dApp, dCons, dNil, dVar, dC, dBin, dUn, dCall, dChain, dRaise, dDrop, dAsg, dgName, dPar, dTup, dLst, startD, c1D, c2D, iiD, ltD, ixG, ixD, sqD, atI_0, atI_1, dget_tup, dget_lst, isT] at k3
          rwa [e] at h
    · rw [if_pos (by simp [dSeq, dRet, dNext, dIf, dAnd, dOr, dNot, dIfE, dApp, dCons, dNil, dVar, dC, dBin, dUn, dCall, dChain, dRaise, dDrop, dAsg, dgName, dPar, dTup, dLst, startD, c1D, c2D, iiD, ltD, ixG, ixD, sqD, atI_0, atI_1, dget_tup, dget_lst]; omega)]
      have e : shape v (.tup xs) = false := by
        match xs, k2 with
        | [], _ => rfl
        | [_], _ => simp [dSeq, dRet, dNext, dIf, dAnd, dOr, dNot, dIfE, dApp, dCons, dNil, dVar, dC, dBin, dUn, dCall, dChain, dRaise, dDrop, dAsg, dgName, dPar, dTup, dLst, startD, c1D, c2D, iiD, ltD, ixG, ixD, sqD, atI_0, atI_1, dget_tup, dget_lst, shape]
        | [_, _], h => exact absurd rfl h
        | _ :: _ :: _ :: _, _ => simp [dSeq, dRet, dNext, dIf, dAnd, dOr, dNot, dIfE, dApp, dCons, dNil, dVar, dC, dBin, dUn, dCall, dChain, dRaise, dDrop, dAsg, dgName, dPar, dTup, dLst, startD, c1D, c2D, iiD, ltD, ixG, ixD, sqD, atI_0, atI_1, dget_tup, dget_lst, shape]
      rwa [e] at h
  · rw [if_pos (by simpa [dSeq, dRet, dNext, dIf, dAnd, dOr, dNot, dIfE, dApp, dCons, dNil, dVar, dC, dBin, dUn, dCall, dChain, dRaise, dDrop, dAsg, dgName, dPar, dTup, dLst, startD, c1D, c2D, iiD, ltD, ixG, ixD, sqD, atI_0, atI_1, dget_tup, dget_lst] using k1)]
    have e : shape v t = false := by cases t <;> first | rfl | simp [dSeq, dRet, dNext, dIf, dAnd, dOr, dNot, dIfE, dApp, dCons, dNil, dVar, dC, dBin, dUn, dCall, dChain, dRaise, dDrop, dAsg, dgName, dPar, dTup, dLst, startD, c1D, c2D, iiD, ltD, ixG, ixD, sqD, atI_0, atI_1, dget_tup, dget_lst, isT] at k1
    rwa [e] at h
def bads (es : List D) (c : D) : List Int := ((es ++ [c]).filter fun e => !isI e).map fun _ => 1
theorem here2 {es : List D} {c : D} {M : Sto} {q : QD} {σ : Std} {x : XD} (h3 : 3 < σ.length) (hs : σ[2]? = some (some (.tup [.tup es, c]))) (hp : pln (.tup [.tup es, c]) = true) (hz : es.length ≤ 1000) (h : q (.bl (!(es.all isI && isI c && decide (iOf c ≠ 0)))) M) :
    dOr (dBin neD (dLc false [3] (dSeqI (dBin (addD false) (dBin ixG (dVar 2) (dC (.int 0))) (dTup (dCons (dBin ixG (dVar 2) (dC (.int 1))) dNil)))) (dgName 3) (dOr (dNot (dApp (c2D (isiD subK)) (dCons (dVar 3) (dCons (dC (.raw (.ty "int"))) dNil)))) (dApp (c2D (isiD subK)) (dCons (dVar 3) (dCons (dC (.raw (.ty "bool"))) dNil)))) (dC (.int 1))) (dLst false dNil)) (dBin eqD (dBin ixG (dVar 2) (dC (.int 1))) (dC (.int 0))) σ M q x := by
  simp only [pln, plnL, Bool.and_eq_true, decide_eq_true_eq] at hp
  have hpe := plnL_all.mp hp.2.1.2
  refine ⟨_, hs, .inl ⟨_, _, rfl, atI_0, _, hs, .inl ⟨_, _, rfl, atI_1, small_sz (by simp [dSeq, dRet, dNext, dIf, dAnd, dOr, dNot, dIfE, dApp, dCons, dNil, dVar, dC, dBin, dUn, dCall, dChain, dRaise, dDrop, dAsg, dgName, dPar, dTup, dLst, startD, c1D, c2D, iiD, ltD, ixG, ixD, sqD, atI_0, atI_1, dget_tup, dget_lst]), ?_⟩⟩⟩
  refine ⟨by have := small_sz (n := es.length + 1) (by omega); simpa [dSeq, dRet, dNext, dIf, dAnd, dOr, dNot, dIfE, dApp, dCons, dNil, dVar, dC, dBin, dUn, dCall, dChain, dRaise, dDrop, dAsg, dgName, dPar, dTup, dLst, startD, c1D, c2D, iiD, ltD, ixG, ixD, sqD, atI_0, atI_1, dget_tup, dget_lst] using this, ?_⟩
  have hl : 3 < (wipeD σ [3]).length := by simp [dSeq, dRet, dNext, dIf, dAnd, dOr, dNot, dIfE, dApp, dCons, dNil, dVar, dC, dBin, dUn, dCall, dChain, dRaise, dDrop, dAsg, dgName, dPar, dTup, dLst, startD, c1D, c2D, iiD, ltD, ixG, ixD, sqD, atI_0, atI_1, dget_tup, dget_lst, wipeD, h3]
  refine wLc_filter (fun e => !isI e) (fun _ => .int 1) trivial (es ++ [c]) [] (by have := small_sz (n := es.length + 1) (by omega); simpa [dSeq, dRet, dNext, dIf, dAnd, dOr, dNot, dIfE, dApp, dCons, dNil, dVar, dC, dBin, dUn, dCall, dChain, dRaise, dDrop, dAsg, dgName, dPar, dTup, dLst, startD, c1D, c2D, iiD, ltD, ixG, ixD, sqD, atI_0, atI_1, dget_tup, dget_lst] using this) ?_ ?_
  · have e : ([] : List D) ++ ((es ++ [c]).filter fun e => !isI e).map (fun _ => D.int 1) = (bads es c).map .int := by simp [dSeq, dRet, dNext, dIf, dAnd, dOr, dNot, dIfE, dApp, dCons, dNil, dVar, dC, dBin, dUn, dCall, dChain, dRaise, dDrop, dAsg, dgName, dPar, dTup, dLst, startD, c1D, c2D, iiD, ltD, ixG, ixD, sqD, atI_0, atI_1, dget_tup, dget_lst, bads, Function.comp_def]
    rw [e]
    simp only [mkL, Bool.false_eq_true, if_false, dLst, dNil]
    refine ⟨small_sz (by simp [dSeq, dRet, dNext, dIf, dAnd, dOr, dNot, dIfE, dApp, dCons, dNil, dVar, dC, dBin, dUn, dCall, dChain, dRaise, dDrop, dAsg, dgName, dPar, dTup, dLst, startD, c1D, c2D, iiD, ltD, ixG, ixD, sqD, atI_0, atI_1, dget_tup, dget_lst]), ?_⟩
    have hbl : (bads es c).length ≤ sizeLine := Nat.le_trans (by unfold bads; rw [List.length_map]; exact List.length_filter_le _ _) (by have := small_sz (n := es.length + 1) (by omega); simpa [dSeq, dRet, dNext, dIf, dAnd, dOr, dNot, dIfE, dApp, dCons, dNil, dVar, dC, dBin, dUn, dCall, dChain, dRaise, dDrop, dAsg, dgName, dPar, dTup, dLst, startD, c1D, c2D, iiD, ltD, ixG, ixD, sqD, atI_0, atI_1, dget_tup, dget_lst] using this)
    refine neD_pln (eqOk_lst _ hbl) (eqOk_lst [] (by simp [dSeq, dRet, dNext, dIf, dAnd, dOr, dNot, dIfE, dApp, dCons, dNil, dVar, dC, dBin, dUn, dCall, dChain, dRaise, dDrop, dAsg, dgName, dPar, dTup, dLst, startD, c1D, c2D, iiD, ltD, ixG, ixD, sqD, atI_0, atI_1, dget_tup, dget_lst])) ⟨_, rfl, ?_⟩
    have e2 := eqv_lst_nil (bads es c)
    have e3 : (bads es c).isEmpty = (es.all isI && isI c) := by
      unfold bads
      rw [List.isEmpty_map, List.filter_append]
      cases hc : isI c with
      | false => simp [dSeq, dRet, dNext, dIf, dAnd, dOr, dNot, dIfE, dApp, dCons, dNil, dVar, dC, dBin, dUn, dCall, dChain, dRaise, dDrop, dAsg, dgName, dPar, dTup, dLst, startD, c1D, c2D, iiD, ltD, ixG, ixD, sqD, atI_0, atI_1, dget_tup, dget_lst, hc]
      | true =>
        simp [dSeq, dRet, dNext, dIf, dAnd, dOr, dNot, dIfE, dApp, dCons, dNil, dVar, dC, dBin, dUn, dCall, dChain, dRaise, dDrop, dAsg, dgName, dPar, dTup, dLst, startD, c1D, c2D, iiD, ltD, ixG, ixD, sqD, atI_0, atI_1, dget_tup, dget_lst, hc]
        rw [Bool.eq_iff_iff]
        simp [dSeq, dRet, dNext, dIf, dAnd, dOr, dNot, dIfE, dApp, dCons, dNil, dVar, dC, dBin, dUn, dCall, dChain, dRaise, dDrop, dAsg, dgName, dPar, dTup, dLst, startD, c1D, c2D, iiD, ltD, ixG, ixD, sqD, atI_0, atI_1, dget_tup, dget_lst]
    have e4 := e2.trans e3
    rw [e4]
    by_cases k1 : (es.all isI && isI c) = true
    · rw [k1] at h ⊢
      rw [if_neg (by simp [dSeq, dRet, dNext, dIf, dAnd, dOr, dNot, dIfE, dApp, dCons, dNil, dVar, dC, dBin, dUn, dCall, dChain, dRaise, dDrop, dAsg, dgName, dPar, dTup, dLst, startD, c1D, c2D, iiD, ltD, ixG, ixD, sqD, atI_0, atI_1, dget_tup, dget_lst])]
      have hc : isI c = true := (Bool.and_eq_true_iff.mp k1).2
      obtain ⟨cv, rfl⟩ := isI_ex hc
      refine ⟨_, hs, .inl ⟨_, _, rfl, atI_1, ?_⟩⟩
      have e5 : (cv == 0) = !(true && decide (iOf (.int cv) ≠ 0)) := by simp only [iOf]; by_cases h : cv = 0 <;> simp [dSeq, dRet, dNext, dIf, dAnd, dOr, dNot, dIfE, dApp, dCons, dNil, dVar, dC, dBin, dUn, dCall, dChain, dRaise, dDrop, dAsg, dgName, dPar, dTup, dLst, startD, c1D, c2D, iiD, ltD, ixG, ixD, sqD, atI_0, atI_1, dget_tup, dget_lst, h]
      show q (.bl (cv == 0)) M
      rw [e5]
      exact h
    · rw [Bool.of_not_eq_true k1] at h ⊢
      rw [if_pos (show (!false) = true from rfl)]
      exact h
  · intro e he r s hb
    have hpl : pln e = true := by
      rcases List.mem_append.mp he with h | h
      · exact hpe e h
      · rw [List.mem_singleton.mp h]; exact hp.2.2.1
    have hb := hb _ rfl
    refine isInt_test hpl (by rw [List.getElem?_set_self hl]) ⟨_, rfl, ?_⟩
    exact hb
theorem pl__law_is_sum_here (c : Wc) : PL sp__law_is_sum_here 5 (rd__law_is_sum_here c) := by
  intro ds M q x b1 b2 h; simp only [sp__law_is_sum_here] at h; split at h; case h_2 => exact h.elim
  obtain ⟨hv, h1, h2, h⟩ := h
  rename_i v d
  have no : isSum v d = false → gcQ M.length q (.bl false) M := fun e => gcQ_here rfl b1 (e ▸ h)
  rw [rd__law_is_sum_here, dSeq]
  refine isT_var rfl h1 ⟨_, rfl, _, rfl, ?_⟩
  by_cases ht : isT d = true
  · obtain ⟨ts, rfl⟩ : ∃ xs, d = .tup xs := by cases d <;> simp [dSeq, dRet, dNext, dIf, dAnd, dOr, dNot, dIfE, dApp, dCons, dNil, dVar, dC, dBin, dUn, dCall, dChain, dRaise, dDrop, dAsg, dgName, dPar, dTup, dLst, startD, c1D, c2D, iiD, ltD, ixG, ixD, sqD, atI_0, atI_1, dget_tup, dget_lst, isT] at ht; exact ⟨_, rfl⟩
    rw [if_neg (by simp [dSeq, dRet, dNext, dIf, dAnd, dOr, dNot, dIfE, dApp, dCons, dNil, dVar, dC, dBin, dUn, dCall, dChain, dRaise, dDrop, dAsg, dgName, dPar, dTup, dLst, startD, c1D, c2D, iiD, ltD, ixG, ixD, sqD, atI_0, atI_1, dget_tup, dget_lst, isT])]
    simp only [pln, Bool.and_eq_true, decide_eq_true_eq] at h1
    have hp := plnL_all.mp h1.2
    refine ⟨_, rfl, ?_⟩
    refine ⟨trivial, _, rfl, ?_⟩
    by_cases hl : 2000 < ts.length
    · rw [if_pos (by simp [dSeq, dRet, dNext, dIf, dAnd, dOr, dNot, dIfE, dApp, dCons, dNil, dVar, dC, dBin, dUn, dCall, dChain, dRaise, dDrop, dAsg, dgName, dPar, dTup, dLst, startD, c1D, c2D, iiD, ltD, ixG, ixD, sqD, atI_0, atI_1, dget_tup, dget_lst]; omega)]
      exact no (by simp only [isSum]; rw [decide_eq_false (by omega)]; simp [dSeq, dRet, dNext, dIf, dAnd, dOr, dNot, dIfE, dApp, dCons, dNil, dVar, dC, dBin, dUn, dCall, dChain, dRaise, dDrop, dAsg, dgName, dPar, dTup, dLst, startD, c1D, c2D, iiD, ltD, ixG, ixD, sqD, atI_0, atI_1, dget_tup, dget_lst])
    · rw [if_neg (by simp [dSeq, dRet, dNext, dIf, dAnd, dOr, dNot, dIfE, dApp, dCons, dNil, dVar, dC, dBin, dUn, dCall, dChain, dRaise, dDrop, dAsg, dgName, dPar, dTup, dLst, startD, c1D, c2D, iiD, ltD, ixG, ixD, sqD, atI_0, atI_1, dget_tup, dget_lst]; omega)]
      refine ⟨_, rfl, ?_⟩
      simp only [seqItems]
      refine wFor_inv (fun rest σ M' => M = M' ∧ (∀ t ∈ rest, t ∈ ts) ∧ (∀ t ∈ ts, t ∈ rest ∨ good v t = true) ∧ ∃ a b d, σ = [some (.int v), some (.tup ts), a, b, d]) ?_ ?_ _ _ _ ⟨rfl, fun _ h => h, fun _ h => .inl h, none, none, none, rfl⟩
      · rintro σ M' ⟨rfl, -, hg, a, b, d, rfl⟩
        refine ⟨trivial, ?_⟩
        have hG : ∀ t ∈ ts, good v t = true := fun t ht => (hg t ht).resolve_left (by simp [dSeq, dRet, dNext, dIf, dAnd, dOr, dNot, dIfE, dApp, dCons, dNil, dVar, dC, dBin, dUn, dCall, dChain, dRaise, dDrop, dAsg, dgName, dPar, dTup, dLst, startD, c1D, c2D, iiD, ltD, ixG, ixD, sqD, atI_0, atI_1, dget_tup, dget_lst])
        have hT : ∀ t ∈ ts, isTerm v t = true := fun t ht => by have := hG t ht; simp only [good, Bool.and_eq_true] at this; exact this.1
        refine ⟨_, rfl, ?_⟩
        refine ⟨trivial, _, rfl, by omega, ?_⟩
        have hn : ((ts.length : Int) - 1).toNat = ts.length - 1 := by omega
        rw [hn]
        refine wLc_filter (fun e => !ascAt ts (iOf e).toNat) (fun _ => .int 1) trivial (rgD 0 (ts.length - 1)) [] (by rw [rgD_len]; have := small_sz (n := ts.length) (by omega); simp [dSeq, dRet, dNext, dIf, dAnd, dOr, dNot, dIfE, dApp, dCons, dNil, dVar, dC, dBin, dUn, dCall, dChain, dRaise, dDrop, dAsg, dgName, dPar, dTup, dLst, startD, c1D, c2D, iiD, ltD, ixG, ixD, sqD, atI_0, atI_1, dget_tup, dget_lst]; omega) ?_ ?_
        · have e : ([] : List D) ++ ((rgD 0 (ts.length - 1)).filter fun e => !ascAt ts (iOf e).toNat).map (fun _ => D.int 1) = (((rgD 0 (ts.length - 1)).filter fun e => !ascAt ts (iOf e).toNat).map fun _ => (1 : Int)).map .int := by simp [dSeq, dRet, dNext, dIf, dAnd, dOr, dNot, dIfE, dApp, dCons, dNil, dVar, dC, dBin, dUn, dCall, dChain, dRaise, dDrop, dAsg, dgName, dPar, dTup, dLst, startD, c1D, c2D, iiD, ltD, ixG, ixD, sqD, atI_0, atI_1, dget_tup, dget_lst, Function.comp_def]
          rw [e]
          simp only [mkL, Bool.false_eq_true, if_false, dLst, dNil]
          refine ⟨small_sz (by simp [dSeq, dRet, dNext, dIf, dAnd, dOr, dNot, dIfE, dApp, dCons, dNil, dVar, dC, dBin, dUn, dCall, dChain, dRaise, dDrop, dAsg, dgName, dPar, dTup, dLst, startD, c1D, c2D, iiD, ltD, ixG, ixD, sqD, atI_0, atI_1, dget_tup, dget_lst]), ?_⟩
          refine eqD_pln (eqOk_lst _ ?_) (eqOk_lst [] (by simp [dSeq, dRet, dNext, dIf, dAnd, dOr, dNot, dIfE, dApp, dCons, dNil, dVar, dC, dBin, dUn, dCall, dChain, dRaise, dDrop, dAsg, dgName, dPar, dTup, dLst, startD, c1D, c2D, iiD, ltD, ixG, ixD, sqD, atI_0, atI_1, dget_tup, dget_lst])) ?_
          · rw [List.length_map]
            refine Nat.le_trans (List.length_filter_le _ _) ?_
            rw [rgD_len]
            exact small_sz (by omega)
          · have e2 := eqv_lst_nil (((rgD 0 (ts.length - 1)).filter fun e => !ascAt ts (iOf e).toNat).map fun _ => (1 : Int))
            rw [e2]
            refine gcQ_here rfl b1 ?_
            have e3 : isSum v (.tup ts) = (((rgD 0 (ts.length - 1)).filter fun e => !ascAt ts (iOf e).toNat).map fun _ => (1 : Int)).isEmpty := by
              have q1 : ts.all (isTerm v) = true := List.all_eq_true.mpr hT
              have q2 : ts.all (fun t => decide (cntI t ≠ 0)) = true := List.all_eq_true.mpr fun t ht => by have := hG t ht; simp only [good, Bool.and_eq_true] at this; exact this.2
              show (decide (ts.length ≤ 2000) && ts.all (isTerm v) && ts.all (fun t => decide (cntI t ≠ 0)) && _) = _
              rw [q1, q2, decide_eq_true (by omega)]
              simp only [Bool.true_and]
              rw [List.isEmpty_map, Bool.eq_iff_iff, List.all_eq_true, List.isEmpty_iff, List.filter_eq_nil_iff]
              constructor
              · intro hh d hd
                obtain ⟨i, hi, rfl⟩ := rgD_mem hd
                have := hh i (by simpa [dSeq, dRet, dNext, dIf, dAnd, dOr, dNot, dIfE, dApp, dCons, dNil, dVar, dC, dBin, dUn, dCall, dChain, dRaise, dDrop, dAsg, dgName, dPar, dTup, dLst, startD, c1D, c2D, iiD, ltD, ixG, ixD, sqD, atI_0, atI_1, dget_tup, dget_lst] using hi)
                simp [dSeq, dRet, dNext, dIf, dAnd, dOr, dNot, dIfE, dApp, dCons, dNil, dVar, dC, dBin, dUn, dCall, dChain, dRaise, dDrop, dAsg, dgName, dPar, dTup, dLst, startD, c1D, c2D, iiD, ltD, ixG, ixD, sqD, atI_0, atI_1, dget_tup, dget_lst, iOf, this]
              · intro hh i hi
                have := hh (.int (0 + (i : Int))) (by simp only [rgD, List.mem_map]; exact ⟨i, hi, rfl⟩)
                simpa [dSeq, dRet, dNext, dIf, dAnd, dOr, dNot, dIfE, dApp, dCons, dNil, dVar, dC, dBin, dUn, dCall, dChain, dRaise, dDrop, dAsg, dgName, dPar, dTup, dLst, startD, c1D, c2D, iiD, ltD, ixG, ixD, sqD, atI_0, atI_1, dget_tup, dget_lst, iOf] using this
            rw [e3] at h
            exact h
        · intro e he r s hb
          obtain ⟨i, hi, rfl⟩ := rgD_mem he
          have g1 : ts[i]? = some ts[i] := List.getElem?_eq_getElem (by omega)
          have g2 : ts[i + 1]? = some ts[i + 1] := List.getElem?_eq_getElem (by omega)
          obtain ⟨e1, k1, h3, _⟩ := isTerm_ex (hT ts[i] (by simp [dSeq, dRet, dNext, dIf, dAnd, dOr, dNot, dIfE, dApp, dCons, dNil, dVar, dC, dBin, dUn, dCall, dChain, dRaise, dDrop, dAsg, dgName, dPar, dTup, dLst, startD, c1D, c2D, iiD, ltD, ixG, ixD, sqD, atI_0, atI_1, dget_tup, dget_lst]))
          obtain ⟨e2, k2, h4, _⟩ := isTerm_ex (hT ts[i + 1] (by simp [dSeq, dRet, dNext, dIf, dAnd, dOr, dNot, dIfE, dApp, dCons, dNil, dVar, dC, dBin, dUn, dCall, dChain, dRaise, dDrop, dAsg, dgName, dPar, dTup, dLst, startD, c1D, c2D, iiD, ltD, ixG, ixD, sqD, atI_0, atI_1, dget_tup, dget_lst]))
          rw [h3] at g1
          rw [h4] at g2
          have ha : ascAt ts i = HT.lexLt e1 e2 := by
            unfold ascAt
            rw [List.getD_eq_getElem?_getD, List.getD_eq_getElem?_getD, g1, g2]
            simp [dSeq, dRet, dNext, dIf, dAnd, dOr, dNot, dIfE, dApp, dCons, dNil, dVar, dC, dBin, dUn, dCall, dChain, dRaise, dDrop, dAsg, dgName, dPar, dTup, dLst, startD, c1D, c2D, iiD, ltD, ixG, ixD, sqD, atI_0, atI_1, dget_tup, dget_lst, rowOf, rowI_rowD]
          have a1 := atI_nat g1
          have a2 : atI ts ((i : Int) + 1) = _ := atI_nat (j := i + 1) g2
          have hb : if (!ascAt ts i) = true then s (.int 1) M else r .non M := by simpa [dSeq, dRet, dNext, dIf, dAnd, dOr, dNot, dIfE, dApp, dCons, dNil, dVar, dC, dBin, dUn, dCall, dChain, dRaise, dDrop, dAsg, dgName, dPar, dTup, dLst, startD, c1D, c2D, iiD, ltD, ixG, ixD, sqD, atI_0, atI_1, dget_tup, dget_lst, iOf] using hb _ rfl
          simp [dSeq, dRet, dNext, dIf, dAnd, dOr, dNot, dIfE, dApp, dCons, dNil, dVar, dC, dBin, dUn, dCall, dChain, dRaise, dDrop, dAsg, dgName, dPar, dTup, dLst, startD, c1D, c2D, iiD, ltD, ixG, ixD, sqD, atI_0, atI_1, dget_tup, dget_lst, wipeD, addD, a1, a2, rowD]
          refine ⟨e1, rfl, e2, rfl, ?_⟩
          rw [ha] at hb
          cases hh : HT.lexLt e1 e2 with
          | true => rw [hh] at hb; simpa [dSeq, dRet, dNext, dIf, dAnd, dOr, dNot, dIfE, dApp, dCons, dNil, dVar, dC, dBin, dUn, dCall, dChain, dRaise, dDrop, dAsg, dgName, dPar, dTup, dLst, startD, c1D, c2D, iiD, ltD, ixG, ixD, sqD, atI_0, atI_1, dget_tup, dget_lst] using hb
          | false => rw [hh] at hb; simpa [dSeq, dRet, dNext, dIf, dAnd, dOr, dNot, dIfE, dApp, dCons, dNil, dVar, dC, dBin, dUn, dCall, dChain, dRaise, dDrop, dAsg, dgName, dPar, dTup, dLst, startD, c1D, c2D, iiD, ltD, ixG, ixD, sqD, atI_0, atI_1, dget_tup, dget_lst] using hb
      · rintro t rest σ M' K ⟨rfl, hin, hg, a, b, d, rfl⟩ hrt hbk hnx hct
        refine ⟨trivial, ?_⟩
        have htm := hin t (by simp [dSeq, dRet, dNext, dIf, dAnd, dOr, dNot, dIfE, dApp, dCons, dNil, dVar, dC, dBin, dUn, dCall, dChain, dRaise, dDrop, dAsg, dgName, dPar, dTup, dLst, startD, c1D, c2D, iiD, ltD, ixG, ixD, sqD, atI_0, atI_1, dget_tup, dget_lst])
        have hpt := hp t htm
        have bad : good v t = false → K.rt (.bl false) M := fun e => by rw [hrt]; exact no (isSum_bad htm e)
        refine here1 rfl rfl hpt ⟨_, rfl, ?_⟩
        by_cases k1 : shape v t = true
        · rw [if_neg (by simp [dSeq, dRet, dNext, dIf, dAnd, dOr, dNot, dIfE, dApp, dCons, dNil, dVar, dC, dBin, dUn, dCall, dChain, dRaise, dDrop, dAsg, dgName, dPar, dTup, dLst, startD, c1D, c2D, iiD, ltD, ixG, ixD, sqD, atI_0, atI_1, dget_tup, dget_lst, k1])]
          obtain ⟨es, cc, rfl, hlen⟩ : ∃ es cc, t = .tup [.tup es, cc] ∧ (es.length : Int) = v := by
            unfold shape at k1
            split at k1
            · exact ⟨_, _, rfl, of_decide_eq_true k1⟩
            · cases k1
          refine here2 (by simp [dSeq, dRet, dNext, dIf, dAnd, dOr, dNot, dIfE, dApp, dCons, dNil, dVar, dC, dBin, dUn, dCall, dChain, dRaise, dDrop, dAsg, dgName, dPar, dTup, dLst, startD, c1D, c2D, iiD, ltD, ixG, ixD, sqD, atI_0, atI_1, dget_tup, dget_lst]) rfl hpt (by omega) ⟨_, rfl, ?_⟩
          obtain ⟨ok1, ok2⟩ := h2 ts rfl _ htm _ _ rfl
          cases g : (es.all isI && isI cc && decide (iOf cc ≠ 0)) with
          | false =>
            rw [if_pos (by rfl)]
            refine bad ?_
            have hr : isRow (.tup es) v = es.all isI := by simp [dSeq, dRet, dNext, dIf, dAnd, dOr, dNot, dIfE, dApp, dCons, dNil, dVar, dC, dBin, dUn, dCall, dChain, dRaise, dDrop, dAsg, dgName, dPar, dTup, dLst, startD, c1D, c2D, iiD, ltD, ixG, ixD, sqD, atI_0, atI_1, dget_tup, dget_lst, isRow, isTup, tpl, hlen]
            simp only [good, isTerm, hr, cntI]
            cases e1 : es.all isI with
            | false => simp [dSeq, dRet, dNext, dIf, dAnd, dOr, dNot, dIfE, dApp, dCons, dNil, dVar, dC, dBin, dUn, dCall, dChain, dRaise, dDrop, dAsg, dgName, dPar, dTup, dLst, startD, c1D, c2D, iiD, ltD, ixG, ixD, sqD, atI_0, atI_1, dget_tup, dget_lst]
            | true =>
              cases e2 : isI cc with
              | false => simp [dSeq, dRet, dNext, dIf, dAnd, dOr, dNot, dIfE, dApp, dCons, dNil, dVar, dC, dBin, dUn, dCall, dChain, dRaise, dDrop, dAsg, dgName, dPar, dTup, dLst, startD, c1D, c2D, iiD, ltD, ixG, ixD, sqD, atI_0, atI_1, dget_tup, dget_lst]
              | true => rw [e1, e2] at g; simp [dSeq, dRet, dNext, dIf, dAnd, dOr, dNot, dIfE, dApp, dCons, dNil, dVar, dC, dBin, dUn, dCall, dChain, dRaise, dDrop, dAsg, dgName, dPar, dTup, dLst, startD, c1D, c2D, iiD, ltD, ixG, ixD, sqD, atI_0, atI_1, dget_tup, dget_lst] at g; simp [dSeq, dRet, dNext, dIf, dAnd, dOr, dNot, dIfE, dApp, dCons, dNil, dVar, dC, dBin, dUn, dCall, dChain, dRaise, dDrop, dAsg, dgName, dPar, dTup, dLst, startD, c1D, c2D, iiD, ltD, ixG, ixD, sqD, atI_0, atI_1, dget_tup, dget_lst, g]
          | true =>
            rw [if_neg (by simp [dSeq, dRet, dNext, dIf, dAnd, dOr, dNot, dIfE, dApp, dCons, dNil, dVar, dC, dBin, dUn, dCall, dChain, dRaise, dDrop, dAsg, dgName, dPar, dTup, dLst, startD, c1D, c2D, iiD, ltD, ixG, ixD, sqD, atI_0, atI_1, dget_tup, dget_lst])]
            refine hnx _ _ ⟨rfl, fun t ht => hin t (by simp [dSeq, dRet, dNext, dIf, dAnd, dOr, dNot, dIfE, dApp, dCons, dNil, dVar, dC, dBin, dUn, dCall, dChain, dRaise, dDrop, dAsg, dgName, dPar, dTup, dLst, startD, c1D, c2D, iiD, ltD, ixG, ixD, sqD, atI_0, atI_1, dget_tup, dget_lst, ht]), fun t ht => ?_, _, _, _, rfl⟩
            rcases hg t ht with h | h
            · rcases List.mem_cons.mp h with rfl | h
              · refine .inr ?_
                simp only [Bool.and_eq_true, decide_eq_true_eq] at g
                obtain ⟨⟨g1, g2⟩, g3⟩ := g
                obtain ⟨cv, rfl⟩ := isI_ex g2
                have hr : isRow (.tup es) v = true := by simp only [isRow, isTup, tpl, g1]; simp [dSeq, dRet, dNext, dIf, dAnd, dOr, dNot, dIfE, dApp, dCons, dNil, dVar, dC, dBin, dUn, dCall, dChain, dRaise, dDrop, dAsg, dgName, dPar, dTup, dLst, startD, c1D, c2D, iiD, ltD, ixG, ixD, sqD, atI_0, atI_1, dget_tup, dget_lst, hlen]
                have hs : (es.all fun e => small (iOf e)) = true := List.all_eq_true.mpr fun e he => by
                  obtain ⟨i, rfl⟩ := isI_ex (List.all_eq_true.mp g1 e he)
                  exact ok1 es rfl i he
                have hl := ok2 cv rfl
                simp only [good, isTerm, hr, cntI, tpl, hs]
                simp [dSeq, dRet, dNext, dIf, dAnd, dOr, dNot, dIfE, dApp, dCons, dNil, dVar, dC, dBin, dUn, dCall, dChain, dRaise, dDrop, dAsg, dgName, dPar, dTup, dLst, startD, c1D, c2D, iiD, ltD, ixG, ixD, sqD, atI_0, atI_1, dget_tup, dget_lst, isI, iOf, hl] at g3 ⊢
                exact decide_eq_true g3
              · exact .inl h
            · exact .inr h
        · rw [if_pos (by simpa [dSeq, dRet, dNext, dIf, dAnd, dOr, dNot, dIfE, dApp, dCons, dNil, dVar, dC, dBin, dUn, dCall, dChain, dRaise, dDrop, dAsg, dgName, dPar, dTup, dLst, startD, c1D, c2D, iiD, ltD, ixG, ixD, sqD, atI_0, atI_1, dget_tup, dget_lst] using k1)]
          refine bad ?_
          have : isTerm v t = false := by
            unfold isTerm
            split
            · rename_i r cc
              have e : isRow r v = false := by
                unfold isRow
                cases e : isTup r v with
                | false => rfl
                | true =>
                  obtain ⟨es, rfl, hl⟩ := isTup_ex e
                  exact absurd (by simp [dSeq, dRet, dNext, dIf, dAnd, dOr, dNot, dIfE, dApp, dCons, dNil, dVar, dC, dBin, dUn, dCall, dChain, dRaise, dDrop, dAsg, dgName, dPar, dTup, dLst, startD, c1D, c2D, iiD, ltD, ixG, ixD, sqD, atI_0, atI_1, dget_tup, dget_lst, shape, hl]) k1
              rw [e]; rfl
            · rfl
          simp [dSeq, dRet, dNext, dIf, dAnd, dOr, dNot, dIfE, dApp, dCons, dNil, dVar, dC, dBin, dUn, dCall, dChain, dRaise, dDrop, dAsg, dgName, dPar, dTup, dLst, startD, c1D, c2D, iiD, ltD, ixG, ixD, sqD, atI_0, atI_1, dget_tup, dget_lst, good, this]
  · rw [if_pos (by simpa [dSeq, dRet, dNext, dIf, dAnd, dOr, dNot, dIfE, dApp, dCons, dNil, dVar, dC, dBin, dUn, dCall, dChain, dRaise, dDrop, dAsg, dgName, dPar, dTup, dLst, startD, c1D, c2D, iiD, ltD, ixG, ixD, sqD, atI_0, atI_1, dget_tup, dget_lst] using ht)]
    refine ⟨_, rfl, ?_⟩
    rw [if_pos rfl]
    exact no (by cases d <;> first | rfl | simp [dSeq, dRet, dNext, dIf, dAnd, dOr, dNot, dIfE, dApp, dCons, dNil, dVar, dC, dBin, dUn, dCall, dChain, dRaise, dDrop, dAsg, dgName, dPar, dTup, dLst, startD, c1D, c2D, iiD, ltD, ixG, ixD, sqD, atI_0, atI_1, dget_tup, dget_lst, isT] at ht)
end Law
namespace Law
open PySem PySem.Spec PyProof.Rows L2 LamX TL
theorem log10 (b : Nat) : ((10 : Int) ^ b).natAbs.log2 < 4 * b + 1 := by
  have e : ((10 : Int) ^ b).natAbs = 10 ^ b := by rw [Int.natAbs_pow]; rfl
  rw [e]
  refine (Nat.log2_lt (by have := Nat.pow_pos (n := b) (show 0 < 10 by omega); omega)).mpr ?_
  have h1 : 10 ^ b ≤ 16 ^ b := Nat.pow_le_pow_left (by omega) b
  have h2 : (16 : Nat) ^ b = 2 ^ (4 * b) := by rw [Nat.pow_mul]
  have h3 : (2 : Nat) ^ (4 * b) < 2 ^ (4 * b + 1) := Nat.pow_lt_pow_right (by omega) (by omega)
  omega
theorem pl_ten_up (c : Wc) : PL sp_ten_up 3 (rd_ten_up c) := by
  intro ds M q x b1 b2 h; simp only [sp_ten_up] at h; split at h; case h_2 => exact h.elim
  obtain ⟨h0, h1, h⟩ := h
  rename_i m0
  rw [rd_ten_up, dSeq]
  refine ⟨small_sz (by simp [dSeq, dRet, dNext, dIf, dAnd, dOr, dNot, dIfE, dApp, dCons, dNil, dVar, dC, dBin, dUn, dCall, dChain, dRaise, dDrop, dAsg, dgName, dPar, dTup, dLst, startD, c1D, c2D, iiD, ltD, ixG, ixD, sqD, atI_0, atI_1, dget_tup, dget_lst]), _, rfl, rfl, ?_⟩
  refine ⟨_, _, rfl, ?_⟩
  refine ⟨_, _, rfl, ?_⟩
  refine ⟨rfl, ?_⟩
  refine dWhile_inv (fun n σ M' => M = M' ∧ ∃ (a b : Nat), a + b * n = m0.toNat ∧ b ≤ 8192 ∧ σ = [some (.int n), some (.int (10 ^ a)), some (.int (10 ^ b))]) ?_ (n := m0.toNat) ⟨rfl, 0, 1, by omega, by omega, by
    show [some (D.int m0), some (.int 1), some (.int 10)] = _
    have : ((m0.toNat : Nat) : Int) = m0 := by omega
    rw [this]; rfl⟩
  rintro n σ M' K ⟨rfl, a, b, e1, e2, rfl⟩ hrt hbk hnx hct
  refine ⟨_, rfl, trivial, _, rfl, ?_⟩
  by_cases hn : n = 0
  · subst hn
    rw [if_neg (by simp [dSeq, dRet, dNext, dIf, dAnd, dOr, dNot, dIfE, dApp, dCons, dNil, dVar, dC, dBin, dUn, dCall, dChain, dRaise, dDrop, dAsg, dgName, dPar, dTup, dLst, startD, c1D, c2D, iiD, ltD, ixG, ixD, sqD, atI_0, atI_1, dget_tup, dget_lst])]
    refine ⟨_, rfl, gcQ_here rfl b1 ?_⟩
    have : a = m0.toNat := by omega
    rw [this]
    exact h
  · rw [if_pos (by simp [dSeq, dRet, dNext, dIf, dAnd, dOr, dNot, dIfE, dApp, dCons, dNil, dVar, dC, dBin, dUn, dCall, dChain, dRaise, dDrop, dAsg, dgName, dPar, dTup, dLst, startD, c1D, c2D, iiD, ltD, ixG, ixD, sqD, atI_0, atI_1, dget_tup, dget_lst]; omega)]
    have hb : b * n ≤ 4096 := by omega
    have hb2 : b ≤ 4096 := Nat.le_trans (Nat.le_mul_of_pos_right b (by omega)) hb
    have ha : a ≤ 4096 := by omega
    have la := log10 a
    have lb := log10 b
    have hs : b * n = b * 2 * (n / 2) + b * (n % 2) := by rw [Nat.mul_assoc, ← Nat.mul_add, Nat.div_add_mod]
    have hd : ((n : Int) / 2) = ((n / 2 : Nat) : Int) := by omega
    have hm : ((n : Int) % 2) = ((n % 2 : Nat) : Int) := by omega
    have sq : (10 : Int) ^ b * 10 ^ b = 10 ^ (b * 2) := by rw [← Int.pow_add]; congr 1; omega
    have last : ∀ a' : Nat, a' = a + b * (n % 2) → dSeq (dPar 2 0 (dCons (dBin mulD (dVar 2) (dVar 2)) (dCons (dBin (iiD CDivW fun i j => .int (i / j)) (dVar 0) (dC (.int 2))) dNil))) dNext K (gcX M.length x) [some (.int n), some (.int (10 ^ a')), some (.int (10 ^ b))] M := by
      intro a' e
      refine ⟨_, rfl, _, rfl, ⟨by show _ + _ < _; omega, ?_⟩⟩
      refine ⟨_, rfl, ⟨by omega, by have : (2 : Int).natAbs.log2 = 1 := by decide
                                    omega⟩, ?_⟩
      refine ⟨_, _, rfl, ?_⟩
      refine hnx (n / 2) _ _ (by omega) ⟨rfl, a', b * 2, by omega, by omega, ?_⟩
      simp only [List.set, sq, hd]
    rw [dSeq]
    refine ⟨_, rfl, by omega, ?_⟩
    simp only [eqD]
    refine ⟨_, rfl, ?_⟩
    by_cases h2 : n % 2 = 1
    · rw [if_pos (by simp [dSeq, dRet, dNext, dIf, dAnd, dOr, dNot, dIfE, dApp, dCons, dNil, dVar, dC, dBin, dUn, dCall, dChain, dRaise, dDrop, dAsg, dgName, dPar, dTup, dLst, startD, c1D, c2D, iiD, ltD, ixG, ixD, sqD, atI_0, atI_1, dget_tup, dget_lst]; omega)]
      refine ⟨_, rfl, _, rfl, by show _ + _ < _; omega, ?_⟩
      have e := last (a + b) (by rw [h2]; omega)
      rw [Int.pow_add] at e
      exact e
    · rw [if_neg (by simp [dSeq, dRet, dNext, dIf, dAnd, dOr, dNot, dIfE, dApp, dCons, dNil, dVar, dC, dBin, dUn, dCall, dChain, dRaise, dDrop, dAsg, dgName, dPar, dTup, dLst, startD, c1D, c2D, iiD, ltD, ixG, ixD, sqD, atI_0, atI_1, dget_tup, dget_lst]; omega)]
      exact last a (by have : n % 2 = 0 := by omega
                       rw [this]; omega)
end Law
namespace Law
open PySem PySem.Spec PyProof.Rows L2 LamX TL
theorem isE_test {j k : Nat} {es : List D} {M : Sto} {q : QD} (h : q (.bl (subK j k)) M) : isiD subK (.err j es) (.cls k) M q := h
theorem isE_var {j k : Nat} {es : List D} {M : Sto} {q : QD} {σ : Std} {x : XD} {i : Nat} (hs : σ[i]? = some (some (.err j es))) (h : q (.bl (subK j k)) M) : dApp (c2D (isiD subK)) (dCons (dVar i) (dCons (dC (.cls k)) dNil)) σ M q x := ⟨_, hs, isE_test (es := es) (q := q) h⟩
theorem badC_pl {P : Program} {c : Wc} {fi : Nat → Addr} {mg : Str → Option Value} (i : Nat) (F : Str) (hi : subK i i = true) (hc : cokK i = true) (hf : c.fld i = [F]) : PLC cokK (badC i) 3 2 (dSeq (dRet (dAnd (dApp (c2D (isiD subK)) (dCons (dVar 2) (dCons (dC (.cls i)) dNil))) (dCall sp__law_same (dCons (dUn (fldD c F) (dVar 2)) (dCons (dVar 1) dNil))))) dNext) := by
  intro tc fc ds M q x b1 b2 h
  simp only [badC] at h; split at h; case h_2 => exact h.elim
  obtain ⟨hr, h⟩ := h
  refine ⟨_, _, h, fun _ _ z => z.elim, ?_⟩
  rintro j es M' ⟨rfl, rfl, hl, hb, hq⟩
  rw [if_pos hc]
  refine isE_var rfl ⟨_, rfl, ?_⟩
  rw [if_pos hi]
  refine ⟨_, rfl, ⟨hf, _, rfl, rfl, hr, M', [], by simp [dSeq, dRet, dNext, dIf, dAnd, dOr, dNot, dIfE, dApp, dCons, dNil, dVar, dC, dBin, dUn, dCall, dChain, dRaise, dDrop, dAsg, dgName, dPar, dTup, dLst, startD, c1D, c2D, iiD, ltD, ixG, ixD, sqD, atI_0, atI_1, dget_tup, dget_lst], hl, rfl, hb, hq⟩⟩
theorem pl__law_is_bad_number {P : Program} {c : Wc} {fi : Nat → Addr} {mg : Str → Option Value} (T : Tx P c fi mg) : PLC cokK sp__law_is_bad_number 3 2 (rd__law_is_bad_number c) := badC_pl (P := P) (fi := fi) (mg := mg) 1 "part" (by decide) (by decide) T.l_BadNumber
theorem pl__law_is_bad_sum {P : Program} {c : Wc} {fi : Nat → Addr} {mg : Str → Option Value} (T : Tx P c fi mg) : PLC cokK sp__law_is_bad_sum 3 2 (rd__law_is_bad_sum c) := badC_pl (P := P) (fi := fi) (mg := mg) 3 "part" (by decide) (by decide) T.l_BadSum
theorem pl__law_is_too_many {P : Program} {c : Wc} {fi : Nat → Addr} {mg : Str → Option Value} (T : Tx P c fi mg) : PLC cokK sp__law_is_too_many 3 2 (rd__law_is_too_many c) := badC_pl (P := P) (fi := fi) (mg := mg) 2 "most" (by decide) (by decide) T.l_TooMany
end Law
namespace Law
open PySem PySem.Spec PyProof.Rows L2 LamX TL
/-! ### what is shown is short -/
theorem shown_int {i : Int} {k : Nat} (hk : 0 < k) (h : i.natAbs < 2 ^ k) : (PyData.shown (.int i)).length ≤ k + 1 := by
  have e := PySem.int_text_length_le (a := i) hk (by
    by_cases h0 : i.natAbs = 0
    · rw [h0]; simpa [dSeq, dRet, dNext, dIf, dAnd, dOr, dNot, dIfE, dApp, dCons, dNil, dVar, dC, dBin, dUn, dCall, dChain, dRaise, dDrop, dAsg, dgName, dPar, dTup, dLst, startD, c1D, c2D, iiD, ltD, ixG, ixD, sqD, atI_0, atI_1, dget_tup, dget_lst] using hk
    · exact (Nat.log2_lt h0).mpr h)
  simp only [PyData.shown]
  show (Str.ofString (toString i)).length ≤ _
  rw [PySem.ofString_length]; exact e
theorem int_ok {i : Int} {k : Nat} (hk : 0 < k) (hk2 : k ≤ 1919) (h : i.natAbs < 2 ^ k) : PyData.showable (.int i) = true ∧ PyData.leavesShort (k + 1) (.int i) = true := by
  refine ⟨?_, ?_⟩
  · simp only [PyData.showable, decide_eq_true_eq]
    by_cases h0 : i.natAbs = 0
    · rw [h0]; decide
    · have := (Nat.log2_lt h0).mpr h
      omega
  · simp only [PyData.leavesShort, decide_eq_true_eq]
    exact shown_int hk h
theorem row_show {k : Nat} (hk : 0 < k) (hk2 : k ≤ 1919) : ∀ e : List Int, (∀ y ∈ e, y.natAbs < 2 ^ k) → PyData.depthAll (pdvL (e.map D.int)) = 0 ∧ PyData.showableAll (pdvL (e.map D.int)) = true ∧ PyData.leavesShortAll (k + 1) (pdvL (e.map D.int)) = true ∧ PyData.bulkAll (pdvL (e.map D.int)) = e.length
  | [], _ => ⟨rfl, rfl, rfl, rfl⟩
  | i :: e, h => by
    obtain ⟨a, b, c, d⟩ := row_show hk hk2 e fun y hy => h y (by simp [dSeq, dRet, dNext, dIf, dAnd, dOr, dNot, dIfE, dApp, dCons, dNil, dVar, dC, dBin, dUn, dCall, dChain, dRaise, dDrop, dAsg, dgName, dPar, dTup, dLst, startD, c1D, c2D, iiD, ltD, ixG, ixD, sqD, atI_0, atI_1, dget_tup, dget_lst, hy])
    obtain ⟨f, g⟩ := int_ok hk hk2 (h i (by simp [dSeq, dRet, dNext, dIf, dAnd, dOr, dNot, dIfE, dApp, dCons, dNil, dVar, dC, dBin, dUn, dCall, dChain, dRaise, dDrop, dAsg, dgName, dPar, dTup, dLst, startD, c1D, c2D, iiD, ltD, ixG, ixD, sqD, atI_0, atI_1, dget_tup, dget_lst]))
    simp [dSeq, dRet, dNext, dIf, dAnd, dOr, dNot, dIfE, dApp, dCons, dNil, dVar, dC, dBin, dUn, dCall, dChain, dRaise, dDrop, dAsg, dgName, dPar, dTup, dLst, startD, c1D, c2D, iiD, ltD, ixG, ixD, sqD, atI_0, atI_1, dget_tup, dget_lst, pdvL, pdv, PyData.depthAll, PyData.depth, PyData.showableAll, PyData.leavesShortAll, PyData.bulkAll, PyData.bulk, a, b, c, d, f, g, Nat.add_comm]
theorem trm_show {k v : Nat} (hk : 0 < k) (hk2 : k ≤ 1919) : ∀ ts : List (List Int × Int), (∀ t ∈ ts, t.1.length ≤ v ∧ (∀ y ∈ t.1, y.natAbs < 2 ^ k) ∧ t.2.natAbs < 2 ^ k) →
    PyData.depthAll (pdvL (ts.map trm)) ≤ 2 ∧ PyData.showableAll (pdvL (ts.map trm)) = true ∧ PyData.leavesShortAll (k + 1) (pdvL (ts.map trm)) = true ∧ PyData.bulkAll (pdvL (ts.map trm)) ≤ ts.length * (v + 3)
  | [], _ => ⟨Nat.zero_le _, rfl, rfl, Nat.zero_le _⟩
  | t :: ts, h => by
    obtain ⟨a, b, c, d⟩ := trm_show (v := v) hk hk2 ts fun y hy => h y (by simp [dSeq, dRet, dNext, dIf, dAnd, dOr, dNot, dIfE, dApp, dCons, dNil, dVar, dC, dBin, dUn, dCall, dChain, dRaise, dDrop, dAsg, dgName, dPar, dTup, dLst, startD, c1D, c2D, iiD, ltD, ixG, ixD, sqD, atI_0, atI_1, dget_tup, dget_lst, hy])
    obtain ⟨h1, h2, h3⟩ := h t (by simp [dSeq, dRet, dNext, dIf, dAnd, dOr, dNot, dIfE, dApp, dCons, dNil, dVar, dC, dBin, dUn, dCall, dChain, dRaise, dDrop, dAsg, dgName, dPar, dTup, dLst, startD, c1D, c2D, iiD, ltD, ixG, ixD, sqD, atI_0, atI_1, dget_tup, dget_lst])
    obtain ⟨f, g⟩ := int_ok hk hk2 h3
    obtain ⟨a1, b1, c1, d1⟩ := row_show hk hk2 t.1 h2
    refine ⟨?_, ?_, ?_, ?_⟩
    · simp [dSeq, dRet, dNext, dIf, dAnd, dOr, dNot, dIfE, dApp, dCons, dNil, dVar, dC, dBin, dUn, dCall, dChain, dRaise, dDrop, dAsg, dgName, dPar, dTup, dLst, startD, c1D, c2D, iiD, ltD, ixG, ixD, sqD, atI_0, atI_1, dget_tup, dget_lst, pdvL, pdv, trm, rowD, PyData.depthAll, PyData.depth, a1]; omega
    · simp [dSeq, dRet, dNext, dIf, dAnd, dOr, dNot, dIfE, dApp, dCons, dNil, dVar, dC, dBin, dUn, dCall, dChain, dRaise, dDrop, dAsg, dgName, dPar, dTup, dLst, startD, c1D, c2D, iiD, ltD, ixG, ixD, sqD, atI_0, atI_1, dget_tup, dget_lst, pdvL, pdv, trm, rowD, PyData.showableAll, PyData.showable, b, b1]
      simpa [dSeq, dRet, dNext, dIf, dAnd, dOr, dNot, dIfE, dApp, dCons, dNil, dVar, dC, dBin, dUn, dCall, dChain, dRaise, dDrop, dAsg, dgName, dPar, dTup, dLst, startD, c1D, c2D, iiD, ltD, ixG, ixD, sqD, atI_0, atI_1, dget_tup, dget_lst, PyData.showable] using f
    · simp [dSeq, dRet, dNext, dIf, dAnd, dOr, dNot, dIfE, dApp, dCons, dNil, dVar, dC, dBin, dUn, dCall, dChain, dRaise, dDrop, dAsg, dgName, dPar, dTup, dLst, startD, c1D, c2D, iiD, ltD, ixG, ixD, sqD, atI_0, atI_1, dget_tup, dget_lst, pdvL, pdv, trm, rowD, PyData.leavesShortAll, PyData.leavesShort, c, c1]
      simpa [dSeq, dRet, dNext, dIf, dAnd, dOr, dNot, dIfE, dApp, dCons, dNil, dVar, dC, dBin, dUn, dCall, dChain, dRaise, dDrop, dAsg, dgName, dPar, dTup, dLst, startD, c1D, c2D, iiD, ltD, ixG, ixD, sqD, atI_0, atI_1, dget_tup, dget_lst, PyData.leavesShort] using g
    · simp [dSeq, dRet, dNext, dIf, dAnd, dOr, dNot, dIfE, dApp, dCons, dNil, dVar, dC, dBin, dUn, dCall, dChain, dRaise, dDrop, dAsg, dgName, dPar, dTup, dLst, startD, c1D, c2D, iiD, ltD, ixG, ixD, sqD, atI_0, atI_1, dget_tup, dget_lst, pdvL, pdv, trm, rowD, PyData.bulkAll, PyData.bulk, d1]
      rw [Nat.add_mul]
      omega
theorem reprOk_sm {ts : List (List Int × Int)} {n v k : Nat} (hk : 7 ≤ k) (hk2 : k ≤ 1919) (hn : ts.length ≤ n) (hv : v ≤ 1000) (hn2 : n ≤ 100000) (h : ∀ t ∈ ts, t.1.length ≤ v ∧ (∀ y ∈ t.1, y.natAbs < 2 ^ k) ∧ t.2.natAbs < 2 ^ k) (hz : (k + 3) * (n * (v + 3)) + (k + 1) ≤ 16777216) : ReprOk (smD ts) := by
  obtain ⟨a, b, c, d⟩ := trm_show (v := v) (by omega) hk2 ts h
  refine ⟨pln_sm (small_sz (by omega)) fun t ht => small_sz (by have := (h t ht).1; omega), ?_, ?_, ?_⟩
  · simp [dSeq, dRet, dNext, dIf, dAnd, dOr, dNot, dIfE, dApp, dCons, dNil, dVar, dC, dBin, dUn, dCall, dChain, dRaise, dDrop, dAsg, dgName, dPar, dTup, dLst, startD, c1D, c2D, iiD, ltD, ixG, ixD, sqD, atI_0, atI_1, dget_tup, dget_lst, smD, pdv, PyData.depth]; omega
  · simp [dSeq, dRet, dNext, dIf, dAnd, dOr, dNot, dIfE, dApp, dCons, dNil, dVar, dC, dBin, dUn, dCall, dChain, dRaise, dDrop, dAsg, dgName, dPar, dTup, dLst, startD, c1D, c2D, iiD, ltD, ixG, ixD, sqD, atI_0, atI_1, dget_tup, dget_lst, smD, pdv, PyData.showable, b]
  · have := PyData.shown_le_bulk (k + 1) (by omega) (pdv (smD ts)) (by simp [dSeq, dRet, dNext, dIf, dAnd, dOr, dNot, dIfE, dApp, dCons, dNil, dVar, dC, dBin, dUn, dCall, dChain, dRaise, dDrop, dAsg, dgName, dPar, dTup, dLst, startD, c1D, c2D, iiD, ltD, ixG, ixD, sqD, atI_0, atI_1, dget_tup, dget_lst, smD, pdv, PyData.leavesShort, c])
    have e : (pdv (smD ts)).bulk = PyData.bulkAll (pdvL (ts.map trm)) := by simp [dSeq, dRet, dNext, dIf, dAnd, dOr, dNot, dIfE, dApp, dCons, dNil, dVar, dC, dBin, dUn, dCall, dChain, dRaise, dDrop, dAsg, dgName, dPar, dTup, dLst, startD, c1D, c2D, iiD, ltD, ixG, ixD, sqD, atI_0, atI_1, dget_tup, dget_lst, smD, pdv, PyData.bulk]
    rw [e] at this
    have d2 : PyData.bulkAll (pdvL (ts.map trm)) ≤ n * (v + 3) := Nat.le_trans d (Nat.mul_le_mul_right _ hn)
    have d3 := Nat.mul_le_mul_left (k + 3) d2
    rw [PySem.sizeLine_eq, show (k + 1 + 2) = k + 3 from rfl] at *
    omega
theorem reprOk_str (s : Str) (h : (PyData.shown (.str s)).length ≤ 1000) : ReprOk (.str s) := by
  refine ⟨rfl, by simp [dSeq, dRet, dNext, dIf, dAnd, dOr, dNot, dIfE, dApp, dCons, dNil, dVar, dC, dBin, dUn, dCall, dChain, dRaise, dDrop, dAsg, dgName, dPar, dTup, dLst, startD, c1D, c2D, iiD, ltD, ixG, ixD, sqD, atI_0, atI_1, dget_tup, dget_lst, pdv, PyData.depth], by simp [dSeq, dRet, dNext, dIf, dAnd, dOr, dNot, dIfE, dApp, dCons, dNil, dVar, dC, dBin, dUn, dCall, dChain, dRaise, dDrop, dAsg, dgName, dPar, dTup, dLst, startD, c1D, c2D, iiD, ltD, ixG, ixD, sqD, atI_0, atI_1, dget_tup, dget_lst, pdv, PyData.showable], ?_⟩
  simp only [pdv]
  exact Nat.le_trans h (small_sz (by omega))
theorem reprOk_int {i : Int} {k : Nat} (hk : 0 < k) (hk2 : k ≤ 1919) (h : i.natAbs < 2 ^ k) : ReprOk (.int i) := by
  refine ⟨rfl, by simp [dSeq, dRet, dNext, dIf, dAnd, dOr, dNot, dIfE, dApp, dCons, dNil, dVar, dC, dBin, dUn, dCall, dChain, dRaise, dDrop, dAsg, dgName, dPar, dTup, dLst, startD, c1D, c2D, iiD, ltD, ixG, ixD, sqD, atI_0, atI_1, dget_tup, dget_lst, pdv, PyData.depth], (int_ok hk hk2 h).1, ?_⟩
  have := shown_int hk h
  simp only [pdv]
  exact Nat.le_trans this (small_sz (by omega))
/-! ### sums -/
theorem isSum_of {v : Int} {ts : List (List Int × Int)} (hl : ts.length ≤ 2000) (ha : Asc (ts.map (·.1))) (h : ∀ t ∈ ts, (t.1.length : Int) = v ∧ t.1.all small = true ∧ t.2 ≠ 0 ∧ isLong t.2 4000 = false) : isSum v (smD ts) = true := by
  simp only [isSum, smD, Bool.and_eq_true, decide_eq_true_eq, List.length_map]
  refine ⟨⟨⟨hl, ?_⟩, ?_⟩, ?_⟩
  · rw [List.all_eq_true]
    intro d hd
    obtain ⟨t, ht, rfl⟩ := List.mem_map.mp hd
    obtain ⟨h1, h2, h3, h4⟩ := h t ht
    simp only [trm, isTerm, isRow, isTup, rowD, tpl, List.length_map, h1, decide_true, Bool.true_and, isI, h4, Bool.not_false, Bool.and_true, List.all_map]
    simp only [Bool.and_eq_true]
    exact ⟨⟨List.all_eq_true.mpr fun _ _ => rfl, by simpa [dSeq, dRet, dNext, dIf, dAnd, dOr, dNot, dIfE, dApp, dCons, dNil, dVar, dC, dBin, dUn, dCall, dChain, dRaise, dDrop, dAsg, dgName, dPar, dTup, dLst, startD, c1D, c2D, iiD, ltD, ixG, ixD, sqD, atI_0, atI_1, dget_tup, dget_lst, Function.comp_def, iOf] using h2⟩, by simp [dSeq, dRet, dNext, dIf, dAnd, dOr, dNot, dIfE, dApp, dCons, dNil, dVar, dC, dBin, dUn, dCall, dChain, dRaise, dDrop, dAsg, dgName, dPar, dTup, dLst, startD, c1D, c2D, iiD, ltD, ixG, ixD, sqD, atI_0, atI_1, dget_tup, dget_lst, iOf, h4]⟩
  · rw [List.all_eq_true]
    intro d hd
    obtain ⟨t, ht, rfl⟩ := List.mem_map.mp hd
    exact decide_eq_true (by simpa [dSeq, dRet, dNext, dIf, dAnd, dOr, dNot, dIfE, dApp, dCons, dNil, dVar, dC, dBin, dUn, dCall, dChain, dRaise, dDrop, dAsg, dgName, dPar, dTup, dLst, startD, c1D, c2D, iiD, ltD, ixG, ixD, sqD, atI_0, atI_1, dget_tup, dget_lst, trm, cntI, iOf] using (h t ht).2.2.1)
  · rw [List.all_eq_true]
    intro k hk
    have hk := List.mem_range.mp hk
    have p := List.pairwise_iff_getElem.mp ha k (k + 1) (by simp [dSeq, dRet, dNext, dIf, dAnd, dOr, dNot, dIfE, dApp, dCons, dNil, dVar, dC, dBin, dUn, dCall, dChain, dRaise, dDrop, dAsg, dgName, dPar, dTup, dLst, startD, c1D, c2D, iiD, ltD, ixG, ixD, sqD, atI_0, atI_1, dget_tup, dget_lst]; omega) (by simp [dSeq, dRet, dNext, dIf, dAnd, dOr, dNot, dIfE, dApp, dCons, dNil, dVar, dC, dBin, dUn, dCall, dChain, dRaise, dDrop, dAsg, dgName, dPar, dTup, dLst, startD, c1D, c2D, iiD, ltD, ixG, ixD, sqD, atI_0, atI_1, dget_tup, dget_lst]; omega) (by omega)
    simp only [List.getElem_map] at p
    unfold ascAt
    have g1 : (ts.map trm).getD k .non = trm (ts[k]'(by omega)) := by simp [dSeq, dRet, dNext, dIf, dAnd, dOr, dNot, dIfE, dApp, dCons, dNil, dVar, dC, dBin, dUn, dCall, dChain, dRaise, dDrop, dAsg, dgName, dPar, dTup, dLst, startD, c1D, c2D, iiD, ltD, ixG, ixD, sqD, atI_0, atI_1, dget_tup, dget_lst, List.getD_eq_getElem?_getD, List.getElem?_map, List.getElem?_eq_getElem (show k < ts.length by omega)]
    have g2 : (ts.map trm).getD (k + 1) .non = trm (ts[k + 1]'(by omega)) := by simp [dSeq, dRet, dNext, dIf, dAnd, dOr, dNot, dIfE, dApp, dCons, dNil, dVar, dC, dBin, dUn, dCall, dChain, dRaise, dDrop, dAsg, dgName, dPar, dTup, dLst, startD, c1D, c2D, iiD, ltD, ixG, ixD, sqD, atI_0, atI_1, dget_tup, dget_lst, List.getD_eq_getElem?_getD, List.getElem?_map, List.getElem?_eq_getElem (show k + 1 < ts.length by omega)]
    rw [g1, g2]
    simpa [dSeq, dRet, dNext, dIf, dAnd, dOr, dNot, dIfE, dApp, dCons, dNil, dVar, dC, dBin, dUn, dCall, dChain, dRaise, dDrop, dAsg, dgName, dPar, dTup, dLst, startD, c1D, c2D, iiD, ltD, ixG, ixD, sqD, atI_0, atI_1, dget_tup, dget_lst, trm, rowOf, rowI_rowD] using p
/-- of unlike rows the dict is the list -/
theorem coll_nd : ∀ (ts acc : List (List Int × Int)), ((acc ++ ts).map (·.1)).Nodup → ts.foldl addR (acc.map (·.1), acc.map (·.2)) = ((acc ++ ts).map (·.1), (acc ++ ts).map (·.2))
  | [], acc, _ => by simp [dSeq, dRet, dNext, dIf, dAnd, dOr, dNot, dIfE, dApp, dCons, dNil, dVar, dC, dBin, dUn, dCall, dChain, dRaise, dDrop, dAsg, dgName, dPar, dTup, dLst, startD, c1D, c2D, iiD, ltD, ixG, ixD, sqD, atI_0, atI_1, dget_tup, dget_lst]
  | t :: ts, acc, h => by
    have hn : t.1 ∉ acc.map (·.1) := by
      simp only [List.map_append, List.map_cons, List.nodup_append] at h
      intro z
      exact h.2.2 t.1 z t.1 (by simp [dSeq, dRet, dNext, dIf, dAnd, dOr, dNot, dIfE, dApp, dCons, dNil, dVar, dC, dBin, dUn, dCall, dChain, dRaise, dDrop, dAsg, dgName, dPar, dTup, dLst, startD, c1D, c2D, iiD, ltD, ixG, ixD, sqD, atI_0, atI_1, dget_tup, dget_lst]) rfl
    have lk : ∀ (ks : List (List Int)) (cs : List Int), t.1 ∉ ks → lkp ks cs t.1 = none := by
      intro ks
      induction ks with
      | nil => intro cs _; simp [dSeq, dRet, dNext, dIf, dAnd, dOr, dNot, dIfE, dApp, dCons, dNil, dVar, dC, dBin, dUn, dCall, dChain, dRaise, dDrop, dAsg, dgName, dPar, dTup, dLst, startD, c1D, c2D, iiD, ltD, ixG, ixD, sqD, atI_0, atI_1, dget_tup, dget_lst, lkp]
      | cons k ks ih =>
        intro cs hk
        cases cs with
        | nil => simp [dSeq, dRet, dNext, dIf, dAnd, dOr, dNot, dIfE, dApp, dCons, dNil, dVar, dC, dBin, dUn, dCall, dChain, dRaise, dDrop, dAsg, dgName, dPar, dTup, dLst, startD, c1D, c2D, iiD, ltD, ixG, ixD, sqD, atI_0, atI_1, dget_tup, dget_lst, lkp]
        | cons c cs =>
          simp only [List.mem_cons, not_or] at hk
          simp only [lkp, if_neg (Ne.symm hk.1)]
          exact ih cs hk.2
    have e : addR (acc.map (·.1), acc.map (·.2)) t = ((acc ++ [t]).map (·.1), (acc ++ [t]).map (·.2)) := by
      simp only [addR, putR, getR, putKs, putVs, if_neg hn, lk _ _ hn, Option.getD_none, Int.zero_add, List.map_append, List.map_cons, List.map_nil]
    rw [List.foldl_cons, e, coll_nd ts (acc ++ [t]) (by simpa [dSeq, dRet, dNext, dIf, dAnd, dOr, dNot, dIfE, dApp, dCons, dNil, dVar, dC, dBin, dUn, dCall, dChain, dRaise, dDrop, dAsg, dgName, dPar, dTup, dLst, startD, c1D, c2D, iiD, ltD, ixG, ixD, sqD, atI_0, atI_1, dget_tup, dget_lst] using h)]
    simp [dSeq, dRet, dNext, dIf, dAnd, dOr, dNot, dIfE, dApp, dCons, dNil, dVar, dC, dBin, dUn, dCall, dChain, dRaise, dDrop, dAsg, dgName, dPar, dTup, dLst, startD, c1D, c2D, iiD, ltD, ixG, ixD, sqD, atI_0, atI_1, dget_tup, dget_lst]
theorem getR_at : ∀ {ts : List (List Int × Int)}, (ts.map (·.1)).Nodup → ∀ t ∈ ts, getR (ts.map (·.1), ts.map (·.2)) t.1 = t.2
  | [], _, t, h => by cases h
  | u :: ts, hn, t, h => by
    simp only [List.map_cons, List.nodup_cons] at hn
    rcases List.mem_cons.mp h with rfl | h
    · simp [dSeq, dRet, dNext, dIf, dAnd, dOr, dNot, dIfE, dApp, dCons, dNil, dVar, dC, dBin, dUn, dCall, dChain, dRaise, dDrop, dAsg, dgName, dPar, dTup, dLst, startD, c1D, c2D, iiD, ltD, ixG, ixD, sqD, atI_0, atI_1, dget_tup, dget_lst, getR, lkp]
    · have hne : u.1 ≠ t.1 := fun z => hn.1 (by rw [z]; exact List.mem_map_of_mem h)
      have := getR_at hn.2 t h
      simp only [getR, List.map_cons, lkp, if_neg hne] at this ⊢
      exact this
theorem sumP_of {ts us : List (List Int × Int)} (ha : Asc (ts.map (·.1))) (hp : ts.Perm us) (hz : ∀ t ∈ ts, t.2 ≠ 0) : sumP (coll us) = ts := by
  have hnd : (us.map (·.1)).Nodup := ((hp.map _).nodup_iff).mp ha.nodup
  have e : coll us = (us.map (·.1), us.map (·.2)) := coll_nd us [] (by simpa [dSeq, dRet, dNext, dIf, dAnd, dOr, dNot, dIfE, dApp, dCons, dNil, dVar, dC, dBin, dUn, dCall, dChain, dRaise, dDrop, dAsg, dgName, dPar, dTup, dLst, startD, c1D, c2D, iiD, ltD, ixG, ixD, sqD, atI_0, atI_1, dget_tup, dget_lst] using hnd)
  unfold sumP
  rw [e, sortR_of ha (hp.map _)]
  have hg : ∀ t ∈ ts, getR (us.map (·.1), us.map (·.2)) t.1 = t.2 := fun t ht => getR_at hnd t (hp.mem_iff.mp ht)
  rw [List.filter_eq_self.mpr, List.map_map]
  · conv => rhs; rw [← List.map_id ts]
    refine List.map_congr_left fun t ht => ?_
    simp [dSeq, dRet, dNext, dIf, dAnd, dOr, dNot, dIfE, dApp, dCons, dNil, dVar, dC, dBin, dUn, dCall, dChain, dRaise, dDrop, dAsg, dgName, dPar, dTup, dLst, startD, c1D, c2D, iiD, ltD, ixG, ixD, sqD, atI_0, atI_1, dget_tup, dget_lst, hg t ht]
  · intro r hr
    obtain ⟨t, ht, rfl⟩ := List.mem_map.mp hr
    simpa [dSeq, dRet, dNext, dIf, dAnd, dOr, dNot, dIfE, dApp, dCons, dNil, dVar, dC, dBin, dUn, dCall, dChain, dRaise, dDrop, dAsg, dgName, dPar, dTup, dLst, startD, c1D, c2D, iiD, ltD, ixG, ixD, sqD, atI_0, atI_1, dget_tup, dget_lst, hg t ht] using hz t ht
end Law
namespace Law
open PySem PySem.Spec PyProof.Rows L2 LamX TL
/-! ### the law, statement by statement -/
structure Iv (n : Nat) (M : Sto) : Prop where
  d : Draw 1 0 n M
  b : D.bdL M.length M = true
theorem Iv.mono {n m : Nat} {M : Sto} (h : Iv n M) (hm : n ≤ m) : Iv m M := ⟨h.d.mono hm, h.b⟩
theorem Iv.next {n m : Nat} {M M' : Sto} (h : Iv n M) (s : SameBut 1 0 M M') (d : Draw 1 0 m M') : Iv m M' := ⟨d, d.bd h.b s⟩
/-- what _law_sum of the drawn dict is -/
structure OneOk (v : Nat) (ts : List (List Int × Int)) : Prop where
  len : ts.length ≤ 6
  asc : Asc (ts.map (·.1))
  row : ∀ t ∈ ts, t.1.length = v ∧ ∀ y ∈ t.1, -2 ≤ y ∧ y ≤ 3
  cnt : ∀ t ∈ ts, okC t.2
theorem sumP_mem {p : List (List Int) × List Int} {t : List Int × Int} (h : t ∈ sumP p) : t.1 ∈ p.1 ∧ t.2 = getR p t.1 ∧ t.2 ≠ 0 := by
  obtain ⟨e, he, rfl⟩ := List.mem_map.mp h
  obtain ⟨h1, h2⟩ := List.mem_filter.mp he
  exact ⟨(sortR_perm p.1).mem_iff.mp h1, rfl, of_decide_eq_true h2⟩
theorem getR_mem {p : List (List Int) × List Int} {e : List Int} (hl : p.1.length = p.2.length) (h : e ∈ p.1) : getR p e ∈ p.2 := by
  obtain ⟨c, hc⟩ := lkp_ex hl h
  have : getR p e = c := by simp [dSeq, dRet, dNext, dIf, dAnd, dOr, dNot, dIfE, dApp, dCons, dNil, dVar, dC, dBin, dUn, dCall, dChain, dRaise, dDrop, dAsg, dgName, dPar, dTup, dLst, startD, c1D, c2D, iiD, ltD, ixG, ixD, sqD, atI_0, atI_1, dget_tup, dget_lst, getR, hc]
  rw [this]
  clear this
  obtain ⟨ks, cs⟩ := p
  simp only at hc hl h ⊢
  clear h
  induction ks generalizing cs with
  | nil => simp [dSeq, dRet, dNext, dIf, dAnd, dOr, dNot, dIfE, dApp, dCons, dNil, dVar, dC, dBin, dUn, dCall, dChain, dRaise, dDrop, dAsg, dgName, dPar, dTup, dLst, startD, c1D, c2D, iiD, ltD, ixG, ixD, sqD, atI_0, atI_1, dget_tup, dget_lst, lkp] at hc
  | cons k ks ih =>
    cases cs with
    | nil => simp [dSeq, dRet, dNext, dIf, dAnd, dOr, dNot, dIfE, dApp, dCons, dNil, dVar, dC, dBin, dUn, dCall, dChain, dRaise, dDrop, dAsg, dgName, dPar, dTup, dLst, startD, c1D, c2D, iiD, ltD, ixG, ixD, sqD, atI_0, atI_1, dget_tup, dget_lst, lkp] at hc
    | cons d cs =>
      simp only [lkp] at hc
      split at hc
      · cases hc; simp [dSeq, dRet, dNext, dIf, dAnd, dOr, dNot, dIfE, dApp, dCons, dNil, dVar, dC, dBin, dUn, dCall, dChain, dRaise, dDrop, dAsg, dgName, dPar, dTup, dLst, startD, c1D, c2D, iiD, ltD, ixG, ixD, sqD, atI_0, atI_1, dget_tup, dget_lst]
      · exact List.mem_cons_of_mem _ (ih (cs := cs) (by simpa [dSeq, dRet, dNext, dIf, dAnd, dOr, dNot, dIfE, dApp, dCons, dNil, dVar, dC, dBin, dUn, dCall, dChain, dRaise, dDrop, dAsg, dgName, dPar, dTup, dLst, startD, c1D, c2D, iiD, ltD, ixG, ixD, sqD, atI_0, atI_1, dget_tup, dget_lst] using hl) hc)
theorem sumP_rows (p : List (List Int) × List Int) : (sumP p).map (·.1) = (sortR p.1).filter fun e => decide (getR p e ≠ 0) := by simp [dSeq, dRet, dNext, dIf, dAnd, dOr, dNot, dIfE, dApp, dCons, dNil, dVar, dC, dBin, dUn, dCall, dChain, dRaise, dDrop, dAsg, dgName, dPar, dTup, dLst, startD, c1D, c2D, iiD, ltD, ixG, ixD, sqD, atI_0, atI_1, dget_tup, dget_lst, sumP, Function.comp_def]
theorem oneOk_of {v : Int} {p : List (List Int) × List Int} (h1 : okP p) (h2 : p.1.length ≤ 6) (h3 : ∀ e ∈ p.1, (e.length : Int) = v ∧ ∀ y ∈ e, -2 ≤ y ∧ y ≤ 3) (h4 : ∀ c ∈ p.2, okC c) : OneOk v.toNat (sumP p) where
  len := by
    rw [← List.length_map (f := fun t : List Int × Int => t.1), sumP_rows]
    exact Nat.le_trans (List.length_filter_le _ _) (by rw [(sortR_perm p.1).length_eq]; exact h2)
  asc := by rw [sumP_rows]; exact (sortR_asc h1.2.2.2).filter _
  row := fun t ht => by
    have := h3 _ (sumP_mem ht).1
    exact ⟨by omega, this.2⟩
  cnt := fun t ht => by
    obtain ⟨a, b, _⟩ := sumP_mem ht
    rw [b]
    exact h4 _ (getR_mem h1.1 a)
section
variable {c : Wc} {K : DEnds} {x : XD} {σ : Std} {M : Sto} {n : Nat}
theorem L184 (h1 : σ[1]? = some (some (.obj 1))) (I : Iv n M) (hn : n < 2 ^ 60) (k : ∀ v M', 1 ≤ v → v ≤ 5 → Iv (n + 1) M' → K.nx (σ.set 3 (some (.int v))) M') : st_law_184 c K x σ M := by
  simp only [st_law_184, dAsg, dBin, dC, dCall, dCons, dNil, dVar, sp__law_take, dgName]
  refine ⟨_, h1, by omega, by omega, 0, n, I.d, by omega, fun r M' r0 r1 s d => ?_⟩
  simp only [addD]
  exact k _ _ (by omega) (by omega) (I.next s d)
theorem L185 {v : Int} (h1 : σ[1]? = some (some (.obj 1))) (h3 : σ[3]? = some (some (.int v))) (v1 : 1 ≤ v) (v2 : v ≤ 5) (I : Iv n M) (hn : n < 2 ^ 60) (k : ∀ ts M', OneOk v.toNat ts → Iv (n + 3000) M' → K.nx (σ.set 4 (some (smD ts))) M') : st_law_185 c K x σ M := by
  have l := I.d.lt
  simp only [st_law_185, dAsg, dCall, dCons, dNil, dVar, dC, dUn, negD, sp__law_drawn, dgName]
  refine ⟨_, h1, _, h3, v1, by omega, by omega, by omega, by omega, by omega, by omega, l.1, 0, n, I.d, l.2, by omega, fun p M' p1 p2 p3 p4 m1 m2 m3 m4 m5 => ?_⟩
  simp only [sp__law_sum]
  refine ⟨p, by simp only [dtOf, m4], p1, ?_⟩
  exact k _ _ (oneOk_of p1 p2 p3 p4) ⟨m3, m5⟩
theorem OneOk.sum {v : Int} {ts : List (List Int × Int)} (O : OneOk v.toNat ts) (v1 : 1 ≤ v) : isSum v (smD ts) = true := by
  refine isSum_of (by have := O.len; omega) O.asc fun t ht => ?_
  obtain ⟨a, b⟩ := O.row t ht
  obtain ⟨p, q⟩ := O.cnt t ht
  refine ⟨by omega, ?_, p, not_long (by omega) _⟩
  rw [List.all_eq_true]
  intro y hy
  have := b y hy
  simp only [small, Bool.and_eq_true, decide_eq_true_eq]
  omega
theorem OneOk.pln {v : Nat} {ts : List (List Int × Int)} (O : OneOk v ts) (v2 : v ≤ 16) : pln (smD ts) = true := pln_sm (small_sz (by have := O.len; omega)) fun t ht => small_sz (by have := (O.row t ht).1; omega)
theorem L186 {v : Int} {ts : List (List Int × Int)} (h3 : σ[3]? = some (some (.int v))) (h4 : σ[4]? = some (some (smD ts))) (v1 : 1 ≤ v) (v2 : v ≤ 5) (O : OneOk v.toNat ts) (k : K.nx σ M) : st_law_186 c K x σ M := by
  have hb : btw (.int v) 1 16 = true := by simp [dSeq, dRet, dNext, dIf, dAnd, dOr, dNot, dIfE, dApp, dCons, dNil, dVar, dC, dBin, dUn, dCall, dChain, dRaise, dDrop, dAsg, dgName, dPar, dTup, dLst, startD, c1D, c2D, iiD, ltD, ixG, ixD, sqD, atI_0, atI_1, dget_tup, dget_lst, btw]; omega
  have hs := O.sum v1
  have hp := O.pln (by omega)
  simp [dSeq, dRet, dNext, dIf, dAnd, dOr, dNot, dIfE, dApp, dCons, dNil, dVar, dC, dBin, dUn, dCall, dChain, dRaise, dDrop, dAsg, dgName, dPar, dTup, dLst, startD, c1D, c2D, iiD, ltD, ixG, ixD, sqD, atI_0, atI_1, dget_tup, dget_lst, st_law_186, h3, h4, sp_is_sum, hb, hp, pln, iOf, hs, isNotD, isD, k]
theorem L188 {v : Int} (h3 : σ[3]? = some (some (.int v))) (v1 : 1 ≤ v) (v2 : v ≤ 5) (k : K.nx (σ.set 5 (some (rowD (List.replicate v.toNat 0)))) M) : st_law_188 c K x σ M := by
  simp only [st_law_188, dAsg, dBin, dTup, dCons, dNil, dC, dVar, mulD, dgName]
  refine ⟨small_sz (by simp [dSeq, dRet, dNext, dIf, dAnd, dOr, dNot, dIfE, dApp, dCons, dNil, dVar, dC, dBin, dUn, dCall, dChain, dRaise, dDrop, dAsg, dgName, dPar, dTup, dLst, startD, c1D, c2D, iiD, ltD, ixG, ixD, sqD, atI_0, atI_1, dget_tup, dget_lst]), _, h3, ⟨by omega, by omega, by simp [dSeq, dRet, dNext, dIf, dAnd, dOr, dNot, dIfE, dApp, dCons, dNil, dVar, dC, dBin, dUn, dCall, dChain, dRaise, dDrop, dAsg, dgName, dPar, dTup, dLst, startD, c1D, c2D, iiD, ltD, ixG, ixD, sqD, atI_0, atI_1, dget_tup, dget_lst]⟩, ?_⟩
  rw [flat_zero]; exact k
def okT1 (t : D) : Prop := ∀ r c : D, t = .tup [r, c] → (∀ e, r = .tup e → ∀ i, .int i ∈ e → small i = true) ∧ ∀ i, c = .int i → isLong i 4000 = false
def Near (d : D) : Prop := pln d = true ∧ okD d
theorem Near.tup {ds : List D} (hl : ds.length ≤ 1000) (h : ∀ t ∈ ds, pln t = true ∧ okT1 t) : Near (.tup ds) := by
  refine ⟨?_, ?_⟩
  · simp only [TL.pln, Bool.and_eq_true, decide_eq_true_eq]
    exact ⟨small_sz (by omega), plnL_all.mpr fun t ht => (h t ht).1⟩
  · intro ts e t ht r c hr
    cases e
    exact (h t ht).2 r c hr
theorem okT1_pair {es : List D} {c : D} (h : ∀ i, .int i ∈ es → small i = true) (h2 : ∀ i, c = .int i → isLong i 4000 = false) : okT1 (.tup [.tup es, c]) := by
  intro r c' e
  cases e
  exact ⟨fun e2 h3 i hi => by cases h3; exact h i hi, h2⟩
theorem okT1_no {d : D} (h : ∀ r c, d ≠ .tup [r, c]) : okT1 d := fun r c e => absurd e (h r c)
theorem isL1 : isLong 1 4000 = false := not_long (by decide) _
theorem pln_pair {a b : D} (h : pln a = true) (h2 : pln b = true) : pln (.tup [a, b]) = true := by
  simp only [pln, plnL, h, h2, Bool.and_true, decide_eq_true_eq]
  exact small_sz (by simp [dSeq, dRet, dNext, dIf, dAnd, dOr, dNot, dIfE, dApp, dCons, dNil, dVar, dC, dBin, dUn, dCall, dChain, dRaise, dDrop, dAsg, dgName, dPar, dTup, dLst, startD, c1D, c2D, iiD, ltD, ixG, ixD, sqD, atI_0, atI_1, dget_tup, dget_lst])
theorem L189 {v : Int} {ts : List (List Int × Int)} {z : List Int} (h3 : σ[3]? = some (some (.int v))) (h4 : σ[4]? = some (some (smD ts))) (h5 : σ[5]? = some (some (rowD z))) (hz : z = List.replicate v.toNat 0) (v1 : 1 ≤ v) (v2 : v ≤ 5) (O : OneOk v.toNat ts)
    (k : ∀ es : List D, (∀ d ∈ es, Near d) → 0 < es.length → es.length ≤ 100 → K.nx (σ.set 6 (some (.lst es))) M) : st_law_189 c K x σ M := by
  have hl := O.len
  have zl : z.length = v.toNat := by rw [hz]; simp [dSeq, dRet, dNext, dIf, dAnd, dOr, dNot, dIfE, dApp, dCons, dNil, dVar, dC, dBin, dUn, dCall, dChain, dRaise, dDrop, dAsg, dgName, dPar, dTup, dLst, startD, c1D, c2D, iiD, ltD, ixG, ixD, sqD, atI_0, atI_1, dget_tup, dget_lst]
  have sz : ∀ n : Nat, n ≤ 100000 → n ≤ sizeLine := fun n h => small_sz h
  have big : ∀ (u : TED) (d : D), (∀ q x, q d M → u σ M q x) → ∀ (q : QD) (x : XD), q (.tup (ts.map trm ++ [d])) M → dBin (addD false) (dVar 4) (dTup (dCons u dNil)) σ M q x := fun u d hu q x hq =>
    ⟨_, h4, hu _ _ ⟨sz _ (by simp [dSeq, dRet, dNext, dIf, dAnd, dOr, dNot, dIfE, dApp, dCons, dNil, dVar, dC, dBin, dUn, dCall, dChain, dRaise, dDrop, dAsg, dgName, dPar, dTup, dLst, startD, c1D, c2D, iiD, ltD, ixG, ixD, sqD, atI_0, atI_1, dget_tup, dget_lst]), sz _ (by simp [dSeq, dRet, dNext, dIf, dAnd, dOr, dNot, dIfE, dApp, dCons, dNil, dVar, dC, dBin, dUn, dCall, dChain, dRaise, dDrop, dAsg, dgName, dPar, dTup, dLst, startD, c1D, c2D, iiD, ltD, ixG, ixD, sqD, atI_0, atI_1, dget_tup, dget_lst]; omega), hq⟩⟩
  have pair : ∀ (u w : TED) (d e : D), (∀ q x, q d M → u σ M q x) → (∀ q x, q e M → w σ M q x) → ∀ (q : QD) (x : XD), q (.tup [d, e]) M → dTup (dCons u (dCons w dNil)) σ M q x := fun u w d e hu hw q x hq =>
    hu _ _ (hw _ _ ⟨sz _ (by simp [dSeq, dRet, dNext, dIf, dAnd, dOr, dNot, dIfE, dApp, dCons, dNil, dVar, dC, dBin, dUn, dCall, dChain, dRaise, dDrop, dAsg, dgName, dPar, dTup, dLst, startD, c1D, c2D, iiD, ltD, ixG, ixD, sqD, atI_0, atI_1, dget_tup, dget_lst]), hq⟩)
  have cc : ∀ (d : D) (q : QD) (x : XD), q d M → dC d σ M q x := fun d q x h => h
  have r5 : ∀ (q : QD) (x : XD), q (rowD z) M → dVar 5 σ M q x := fun q x h => ⟨_, h5, h⟩
  have r51 : ∀ (q : QD) (x : XD), q (.tup (z.map .int ++ [.int 1])) M → dBin (addD false) (dVar 5) (dTup (dCons (dC (.int 1)) dNil)) σ M q x := fun q x h => ⟨_, h5, sz _ (by simp [dSeq, dRet, dNext, dIf, dAnd, dOr, dNot, dIfE, dApp, dCons, dNil, dVar, dC, dBin, dUn, dCall, dChain, dRaise, dDrop, dAsg, dgName, dPar, dTup, dLst, startD, c1D, c2D, iiD, ltD, ixG, ixD, sqD, atI_0, atI_1, dget_tup, dget_lst]), sz _ (by simp [dSeq, dRet, dNext, dIf, dAnd, dOr, dNot, dIfE, dApp, dCons, dNil, dVar, dC, dBin, dUn, dCall, dChain, dRaise, dDrop, dAsg, dgName, dPar, dTup, dLst, startD, c1D, c2D, iiD, ltD, ixG, ixD, sqD, atI_0, atI_1, dget_tup, dget_lst]; omega), h⟩
  have r5l : ∀ (q : QD) (x : XD), q (.lst (z.map .int)) M → dApp (c1D (lstOfD false)) (dCons (dVar 5) dNil) σ M q x := fun q x h => ⟨_, h5, _, rfl, h⟩
  have r5t : ∀ (q : QD) (x : XD), q (.tup (List.replicate v.toNat [D.bl true]).flatten) M → dBin mulD (dTup (dCons (dC (.bl true)) dNil)) (dVar 3) σ M q x := fun q x h => ⟨sz _ (by simp [dSeq, dRet, dNext, dIf, dAnd, dOr, dNot, dIfE, dApp, dCons, dNil, dVar, dC, dBin, dUn, dCall, dChain, dRaise, dDrop, dAsg, dgName, dPar, dTup, dLst, startD, c1D, c2D, iiD, ltD, ixG, ixD, sqD, atI_0, atI_1, dget_tup, dget_lst]), _, h3, ⟨by omega, by omega, by simp [dSeq, dRet, dNext, dIf, dAnd, dOr, dNot, dIfE, dApp, dCons, dNil, dVar, dC, dBin, dUn, dCall, dChain, dRaise, dDrop, dAsg, dgName, dPar, dTup, dLst, startD, c1D, c2D, iiD, ltD, ixG, ixD, sqD, atI_0, atI_1, dget_tup, dget_lst]⟩, h⟩
  rw [st_law_189]
  refine ⟨_, h4, _, rfl, ?_⟩
  refine big _ _ (pair _ _ _ _ r5 (cc _)) _ _ ?_
  refine ⟨_, h4, _, h4, sz _ (by simp [dSeq, dRet, dNext, dIf, dAnd, dOr, dNot, dIfE, dApp, dCons, dNil, dVar, dC, dBin, dUn, dCall, dChain, dRaise, dDrop, dAsg, dgName, dPar, dTup, dLst, startD, c1D, c2D, iiD, ltD, ixG, ixD, sqD, atI_0, atI_1, dget_tup, dget_lst]; omega), ?_⟩
  refine ⟨_, h4, .inl ⟨_, rfl, ?_⟩⟩
  refine big _ _ (pair _ _ _ _ r51 (cc _)) _ _ ?_
  refine big _ _ (pair _ _ _ _ r5l (cc _)) _ _ ?_
  refine big _ _ (pair _ _ _ _ r5 (cc _)) _ _ ?_
  refine big _ _ (fun q x h => ⟨_, h5, sz _ (by simp [dSeq, dRet, dNext, dIf, dAnd, dOr, dNot, dIfE, dApp, dCons, dNil, dVar, dC, dBin, dUn, dCall, dChain, dRaise, dDrop, dAsg, dgName, dPar, dTup, dLst, startD, c1D, c2D, iiD, ltD, ixG, ixD, sqD, atI_0, atI_1, dget_tup, dget_lst]), h⟩) _ _ ?_
  refine cc _ _ _ (cc _ _ _ ?_)
  refine pair _ _ _ _ (pair _ _ _ _ r5 (cc _)) (pair _ _ _ _ r5 (cc _)) _ _ ?_
  have r1 : ∀ (q : QD) (x : XD), q (.tup [.tup [.tup (List.replicate v.toNat [D.bl true]).flatten, .int 1]]) M → dTup (dCons (dTup (dCons (dBin mulD (dTup (dCons (dC (.bl true)) dNil)) (dVar 3)) (dCons (dC (.int 1)) dNil))) dNil) σ M q x := fun q x h =>
    pair _ _ _ _ r5t (cc _) (fun d M1 => [d].length ≤ sizeLine ∧ q (.tup [d]) M1) x ⟨sz _ (by simp [dSeq, dRet, dNext, dIf, dAnd, dOr, dNot, dIfE, dApp, dCons, dNil, dVar, dC, dBin, dUn, dCall, dChain, dRaise, dDrop, dAsg, dgName, dPar, dTup, dLst, startD, c1D, c2D, iiD, ltD, ixG, ixD, sqD, atI_0, atI_1, dget_tup, dget_lst]), h⟩
  refine r1 _ _ ?_
  refine ⟨sz _ (by simp [dSeq, dRet, dNext, dIf, dAnd, dOr, dNot, dIfE, dApp, dCons, dNil, dVar, dC, dBin, dUn, dCall, dChain, dRaise, dDrop, dAsg, dgName, dPar, dTup, dLst, startD, c1D, c2D, iiD, ltD, ixG, ixD, sqD, atI_0, atI_1, dget_tup, dget_lst]), ?_⟩
  have tt : ∀ t ∈ ts.map trm, pln t = true ∧ okT1 t := fun d hd => by
    obtain ⟨t, ht, rfl⟩ := List.mem_map.mp hd
    obtain ⟨a, b⟩ := O.row t ht
    obtain ⟨p, q⟩ := O.cnt t ht
    refine ⟨pln_pair (pln_row (small_sz (by omega))) rfl, okT1_pair (fun i hi => ?_) fun i e => by cases e; exact not_long (by omega) _⟩
    obtain ⟨y, hy, e⟩ := List.mem_map.mp hi
    cases e
    have := b _ hy
    simp only [small, Bool.and_eq_true, decide_eq_true_eq]
    omega
  have zs : ∀ i, D.int i ∈ z.map D.int → small i = true := fun i hi => by
    obtain ⟨y, hy, e⟩ := List.mem_map.mp hi
    cases e
    rw [hz] at hy
    rw [(List.mem_replicate.mp hy).2]
    decide
  have pz : pln (.tup (z.map D.int)) = true := pln_row (small_sz (by omega))
  have more : ∀ t : D, pln t = true → okT1 t → Near (.tup (ts.map trm ++ [t])) := fun t h1 h2 => .tup (by simp [dSeq, dRet, dNext, dIf, dAnd, dOr, dNot, dIfE, dApp, dCons, dNil, dVar, dC, dBin, dUn, dCall, dChain, dRaise, dDrop, dAsg, dgName, dPar, dTup, dLst, startD, c1D, c2D, iiD, ltD, ixG, ixD, sqD, atI_0, atI_1, dget_tup, dget_lst]; omega) fun u hu => by
    rcases List.mem_append.mp hu with hu | hu
    · exact tt u hu
    · rw [List.mem_singleton.mp hu]; exact ⟨h1, h2⟩
  refine k _ (fun d hd => ?_) (by simp [dSeq, dRet, dNext, dIf, dAnd, dOr, dNot, dIfE, dApp, dCons, dNil, dVar, dC, dBin, dUn, dCall, dChain, dRaise, dDrop, dAsg, dgName, dPar, dTup, dLst, startD, c1D, c2D, iiD, ltD, ixG, ixD, sqD, atI_0, atI_1, dget_tup, dget_lst]) (by simp [dSeq, dRet, dNext, dIf, dAnd, dOr, dNot, dIfE, dApp, dCons, dNil, dVar, dC, dBin, dUn, dCall, dChain, dRaise, dDrop, dAsg, dgName, dPar, dTup, dLst, startD, c1D, c2D, iiD, ltD, ixG, ixD, sqD, atI_0, atI_1, dget_tup, dget_lst])
  simp only [smD, rowD] at hd
  simp only [List.mem_cons, List.not_mem_nil, or_false] at hd
  rcases hd with rfl | rfl | rfl | rfl | rfl | rfl | rfl | rfl | rfl | rfl | rfl | rfl
  · refine ⟨?_, fun _ e => nomatch e⟩
    simp only [pln, Bool.and_eq_true, decide_eq_true_eq]
    exact ⟨small_sz (by simp [dSeq, dRet, dNext, dIf, dAnd, dOr, dNot, dIfE, dApp, dCons, dNil, dVar, dC, dBin, dUn, dCall, dChain, dRaise, dDrop, dAsg, dgName, dPar, dTup, dLst, startD, c1D, c2D, iiD, ltD, ixG, ixD, sqD, atI_0, atI_1, dget_tup, dget_lst]; omega), plnL_all.mpr fun t ht => (tt t ht).1⟩
  · exact more _ (pln_pair pz rfl) (okT1_pair zs fun i e => by cases e; exact not_long (by decide) _)
  · exact .tup (by simp [dSeq, dRet, dNext, dIf, dAnd, dOr, dNot, dIfE, dApp, dCons, dNil, dVar, dC, dBin, dUn, dCall, dChain, dRaise, dDrop, dAsg, dgName, dPar, dTup, dLst, startD, c1D, c2D, iiD, ltD, ixG, ixD, sqD, atI_0, atI_1, dget_tup, dget_lst]; omega) fun u hu => (List.mem_append.mp hu).elim (tt u) (tt u)
  · exact .tup (by simp [dSeq, dRet, dNext, dIf, dAnd, dOr, dNot, dIfE, dApp, dCons, dNil, dVar, dC, dBin, dUn, dCall, dChain, dRaise, dDrop, dAsg, dgName, dPar, dTup, dLst, startD, c1D, c2D, iiD, ltD, ixG, ixD, sqD, atI_0, atI_1, dget_tup, dget_lst]; omega) fun u hu => tt u (List.mem_reverse.mp hu)
  · refine more _ (pln_pair ?_ rfl) (okT1_pair (fun i hi => ?_) fun i e => by cases e; exact isL1)
    · have := pln_row (e := z ++ [1]) (small_sz (by simp [dSeq, dRet, dNext, dIf, dAnd, dOr, dNot, dIfE, dApp, dCons, dNil, dVar, dC, dBin, dUn, dCall, dChain, dRaise, dDrop, dAsg, dgName, dPar, dTup, dLst, startD, c1D, c2D, iiD, ltD, ixG, ixD, sqD, atI_0, atI_1, dget_tup, dget_lst]; omega))
      simpa [dSeq, dRet, dNext, dIf, dAnd, dOr, dNot, dIfE, dApp, dCons, dNil, dVar, dC, dBin, dUn, dCall, dChain, dRaise, dDrop, dAsg, dgName, dPar, dTup, dLst, startD, c1D, c2D, iiD, ltD, ixG, ixD, sqD, atI_0, atI_1, dget_tup, dget_lst, rowD] using this
    · rcases List.mem_append.mp hi with hi | hi
      · exact zs i hi
      · have := List.mem_singleton.mp hi
        cases this
        decide
  · refine more _ (pln_pair ?_ rfl) fun r c e => ?_
    · simpa [dSeq, dRet, dNext, dIf, dAnd, dOr, dNot, dIfE, dApp, dCons, dNil, dVar, dC, dBin, dUn, dCall, dChain, dRaise, dDrop, dAsg, dgName, dPar, dTup, dLst, startD, c1D, c2D, iiD, ltD, ixG, ixD, sqD, atI_0, atI_1, dget_tup, dget_lst, pln] using pz
    · cases e
      exact ⟨fun e2 h => (nomatch h), fun i e => by cases e; exact isL1⟩
  · exact more _ (pln_pair pz rfl) (okT1_pair zs fun i e => nomatch e)
  · refine more _ ?_ (okT1_no fun r c e => by simp [dSeq, dRet, dNext, dIf, dAnd, dOr, dNot, dIfE, dApp, dCons, dNil, dVar, dC, dBin, dUn, dCall, dChain, dRaise, dDrop, dAsg, dgName, dPar, dTup, dLst, startD, c1D, c2D, iiD, ltD, ixG, ixD, sqD, atI_0, atI_1, dget_tup, dget_lst] at e)
    simp only [pln, plnL, Bool.and_eq_true, Bool.and_true] at pz ⊢
    exact ⟨decide_eq_true (small_sz (by simp [dSeq, dRet, dNext, dIf, dAnd, dOr, dNot, dIfE, dApp, dCons, dNil, dVar, dC, dBin, dUn, dCall, dChain, dRaise, dDrop, dAsg, dgName, dPar, dTup, dLst, startD, c1D, c2D, iiD, ltD, ixG, ixD, sqD, atI_0, atI_1, dget_tup, dget_lst])), pz⟩
  · exact ⟨rfl, fun _ e => nomatch e⟩
  · exact ⟨rfl, fun _ e => nomatch e⟩
  · have q : pln (.tup [.tup (z.map D.int), .int 1]) = true ∧ okT1 (.tup [.tup (z.map D.int), .int 1]) := ⟨pln_pair pz rfl, okT1_pair zs fun i e => by cases e; exact isL1⟩
    exact .tup (by simp [dSeq, dRet, dNext, dIf, dAnd, dOr, dNot, dIfE, dApp, dCons, dNil, dVar, dC, dBin, dUn, dCall, dChain, dRaise, dDrop, dAsg, dgName, dPar, dTup, dLst, startD, c1D, c2D, iiD, ltD, ixG, ixD, sqD, atI_0, atI_1, dget_tup, dget_lst]) fun u hu => by
      simp only [List.mem_cons, List.not_mem_nil, or_false, or_self] at hu
      rw [hu]; exact q
  · have fl : (List.replicate v.toNat [D.bl true]).flatten = List.replicate v.toNat (D.bl true) := by
      generalize v.toNat = n
      induction n with
      | zero => rfl
      | succ n ih => rw [List.replicate_succ, List.flatten_cons, ih, List.replicate_succ]; rfl
    rw [fl]
    exact .tup (by simp [dSeq, dRet, dNext, dIf, dAnd, dOr, dNot, dIfE, dApp, dCons, dNil, dVar, dC, dBin, dUn, dCall, dChain, dRaise, dDrop, dAsg, dgName, dPar, dTup, dLst, startD, c1D, c2D, iiD, ltD, ixG, ixD, sqD, atI_0, atI_1, dget_tup, dget_lst]) fun u hu => by
      rw [List.mem_singleton.mp hu]
      refine ⟨pln_pair ?_ rfl, okT1_pair (fun i hi => ?_) fun i e => by cases e; exact isL1⟩
      · simp only [pln, Bool.and_eq_true, decide_eq_true_eq, List.length_replicate]
        exact ⟨small_sz (by omega), plnL_all.mpr fun t ht => by rw [(List.mem_replicate.mp ht).2]; rfl⟩
      · have := (List.mem_replicate.mp hi).2
        cases this
theorem L190 {es : List D} (h1 : σ[1]? = some (some (.obj 1))) (h6 : σ[6]? = some (some (.lst es))) (l0 : 0 < es.length) (l1 : es.length ≤ 100) (I : Iv n M) (hn : n < 2 ^ 60) (k : ∀ d M', d ∈ es → Iv (n + 1) M' → K.nx (σ.set 7 (some d)) M') : st_law_190 c K x σ M := by
  simp only [st_law_190, dAsg, dCall, dCons, dNil, dVar, sp__law_pick, dgName]
  exact ⟨_, h1, _, h6, l0, by omega, 0, n, I.d, by omega, fun d M' hd s D => k d M' hd (I.next s D)⟩
theorem L191 {v : Int} {d : D} (h3 : σ[3]? = some (some (.int v))) (h7 : σ[7]? = some (some d)) (v1 : 1 ≤ v) (v2 : v ≤ 5) (N : Near d) (k : K.nx σ M) : st_law_191 c K x σ M := by
  have hb : btw (.int v) 1 16 = true := by simp [dSeq, dRet, dNext, dIf, dAnd, dOr, dNot, dIfE, dApp, dCons, dNil, dVar, dC, dBin, dUn, dCall, dChain, dRaise, dDrop, dAsg, dgName, dPar, dTup, dLst, startD, c1D, c2D, iiD, ltD, ixG, ixD, sqD, atI_0, atI_1, dget_tup, dget_lst, btw]; omega
  rw [st_law_191]
  refine ⟨_, h3, _, h7, rfl, N.1, ?_⟩
  rw [if_pos hb]
  refine ⟨_, h3, _, h7, by omega, N.1, N.2, _, rfl, _, rfl, ?_⟩
  simp only [iOf, beq_self_eq_true, Bool.not_true, Bool.false_eq_true, if_false]
  exact k
end
end Law
namespace Law
open PySem PySem.Spec PyProof.Rows L2 LamX TL
section
variable {c : Wc} {K : DEnds} {x : XD} {σ : Std} {M : Sto} {n : Nat}
def PairOk (ts : List (List Int × Int)) (z : List Int) (t : List Int × Int) : Prop := t ∈ ts ∨ t = (z, 3) ∨ t = (z, -3)
theorem L193 {ts : List (List Int × Int)} {z : List Int} (hl : σ.length = 18) (h1 : σ[1]? = some (some (.obj 1))) (h4 : σ[4]? = some (some (smD ts))) (h5 : σ[5]? = some (some (rowD z))) (ht : ts.length ≤ 6) (I : Iv n M) (hn : n < 2 ^ 60)
    (k : ∀ (us : List (List Int × Int)) M', us.length ≤ 8 → (∀ t ∈ us, PairOk ts z t) → Iv (n + 20) M' → K.nx (σ.set 8 (some (.lst (us.map trm)))) M') : st_law_193 c K x σ M := by
  rw [st_law_193]
  refine ⟨_, h1, by omega, by omega, 0, n, I.d, by omega, fun r M1 r0 r1 s d => ⟨r, rfl, by omega, ?_⟩⟩
  have I1 := I.next s d
  refine wLc_inv (fun rest acc M2 => ∃ us : List (List Int × Int), acc = us.map trm ∧ us.length + rest.length ≤ 8 ∧ (∀ t ∈ us, PairOk ts z t) ∧ Iv (n + 1 + us.length) M2) ?_ ?_ _ _ _ ⟨[], rfl, by simp [dSeq, dRet, dNext, dIf, dAnd, dOr, dNot, dIfE, dApp, dCons, dNil, dVar, dC, dBin, dUn, dCall, dChain, dRaise, dDrop, dAsg, dgName, dPar, dTup, dLst, startD, c1D, c2D, iiD, ltD, ixG, ixD, sqD, atI_0, atI_1, dget_tup, dget_lst, rgD_len]; omega, by simp [dSeq, dRet, dNext, dIf, dAnd, dOr, dNot, dIfE, dApp, dCons, dNil, dVar, dC, dBin, dUn, dCall, dChain, dRaise, dDrop, dAsg, dgName, dPar, dTup, dLst, startD, c1D, c2D, iiD, ltD, ixG, ixD, sqD, atI_0, atI_1, dget_tup, dget_lst], by simpa [dSeq, dRet, dNext, dIf, dAnd, dOr, dNot, dIfE, dApp, dCons, dNil, dVar, dC, dBin, dUn, dCall, dChain, dRaise, dDrop, dAsg, dgName, dPar, dTup, dLst, startD, c1D, c2D, iiD, ltD, ixG, ixD, sqD, atI_0, atI_1, dget_tup, dget_lst] using I1⟩
  · rintro acc M2 ⟨us, rfl, l, hu, I2⟩
    exact ⟨trivial, k us M2 (by simpa [dSeq, dRet, dNext, dIf, dAnd, dOr, dNot, dIfE, dApp, dCons, dNil, dVar, dC, dBin, dUn, dCall, dChain, dRaise, dDrop, dAsg, dgName, dPar, dTup, dLst, startD, c1D, c2D, iiD, ltD, ixG, ixD, sqD, atI_0, atI_1, dget_tup, dget_lst] using l) hu (I2.mono (by simp [dSeq, dRet, dNext, dIf, dAnd, dOr, dNot, dIfE, dApp, dCons, dNil, dVar, dC, dBin, dUn, dCall, dChain, dRaise, dDrop, dAsg, dgName, dPar, dTup, dLst, startD, c1D, c2D, iiD, ltD, ixG, ixD, sqD, atI_0, atI_1, dget_tup, dget_lst] at l; omega))⟩
  · rintro d2 rest acc M2 k' ⟨us, rfl, l, hu, I2⟩ hk'
    simp only [List.length_cons] at l
    refine ⟨trivial, ?_⟩
    refine ⟨true, rfl, ?_⟩
    rw [if_pos rfl]
    have g1 : ((wipeD σ [9]).set 9 (some d2))[1]? = some (some (.obj 1)) := by simp [dSeq, dRet, dNext, dIf, dAnd, dOr, dNot, dIfE, dApp, dCons, dNil, dVar, dC, dBin, dUn, dCall, dChain, dRaise, dDrop, dAsg, dgName, dPar, dTup, dLst, startD, c1D, c2D, iiD, ltD, ixG, ixD, sqD, atI_0, atI_1, dget_tup, dget_lst, wipeD, h1]
    have g4 : ((wipeD σ [9]).set 9 (some d2))[4]? = some (some (smD ts)) := by simp [dSeq, dRet, dNext, dIf, dAnd, dOr, dNot, dIfE, dApp, dCons, dNil, dVar, dC, dBin, dUn, dCall, dChain, dRaise, dDrop, dAsg, dgName, dPar, dTup, dLst, startD, c1D, c2D, iiD, ltD, ixG, ixD, sqD, atI_0, atI_1, dget_tup, dget_lst, wipeD, h4]
    have g5 : ((wipeD σ [9]).set 9 (some d2))[5]? = some (some (rowD z)) := by simp [dSeq, dRet, dNext, dIf, dAnd, dOr, dNot, dIfE, dApp, dCons, dNil, dVar, dC, dBin, dUn, dCall, dChain, dRaise, dDrop, dAsg, dgName, dPar, dTup, dLst, startD, c1D, c2D, iiD, ltD, ixG, ixD, sqD, atI_0, atI_1, dget_tup, dget_lst, wipeD, h5]
    refine ⟨_, g1, _, g4, _, rfl, _, g5, small_sz (by simp [dSeq, dRet, dNext, dIf, dAnd, dOr, dNot, dIfE, dApp, dCons, dNil, dVar, dC, dBin, dUn, dCall, dChain, dRaise, dDrop, dAsg, dgName, dPar, dTup, dLst, startD, c1D, c2D, iiD, ltD, ixG, ixD, sqD, atI_0, atI_1, dget_tup, dget_lst]), _, g5, small_sz (by simp [dSeq, dRet, dNext, dIf, dAnd, dOr, dNot, dIfE, dApp, dCons, dNil, dVar, dC, dBin, dUn, dCall, dChain, dRaise, dDrop, dAsg, dgName, dPar, dTup, dLst, startD, c1D, c2D, iiD, ltD, ixG, ixD, sqD, atI_0, atI_1, dget_tup, dget_lst]), small_sz (by simp [dSeq, dRet, dNext, dIf, dAnd, dOr, dNot, dIfE, dApp, dCons, dNil, dVar, dC, dBin, dUn, dCall, dChain, dRaise, dDrop, dAsg, dgName, dPar, dTup, dLst, startD, c1D, c2D, iiD, ltD, ixG, ixD, sqD, atI_0, atI_1, dget_tup, dget_lst]), ?_⟩
    refine ⟨_, _, rfl, rfl, small_sz (by simp [dSeq, dRet, dNext, dIf, dAnd, dOr, dNot, dIfE, dApp, dCons, dNil, dVar, dC, dBin, dUn, dCall, dChain, dRaise, dDrop, dAsg, dgName, dPar, dTup, dLst, startD, c1D, c2D, iiD, ltD, ixG, ixD, sqD, atI_0, atI_1, dget_tup, dget_lst]; omega), by simp [dSeq, dRet, dNext, dIf, dAnd, dOr, dNot, dIfE, dApp, dCons, dNil, dVar, dC, dBin, dUn, dCall, dChain, dRaise, dDrop, dAsg, dgName, dPar, dTup, dLst, startD, c1D, c2D, iiD, ltD, ixG, ixD, sqD, atI_0, atI_1, dget_tup, dget_lst], by simp [dSeq, dRet, dNext, dIf, dAnd, dOr, dNot, dIfE, dApp, dCons, dNil, dVar, dC, dBin, dUn, dCall, dChain, dRaise, dDrop, dAsg, dgName, dPar, dTup, dLst, startD, c1D, c2D, iiD, ltD, ixG, ixD, sqD, atI_0, atI_1, dget_tup, dget_lst]; omega, 0, _, I2.d, by omega, fun d M3 hd s3 d3 => ?_⟩
    obtain ⟨t, rfl, ht2⟩ : ∃ t, d = trm t ∧ PairOk ts z t := by
      rcases List.mem_append.mp hd with hd | hd
      · obtain ⟨t, h1, rfl⟩ := List.mem_map.mp hd
        exact ⟨t, rfl, .inl h1⟩
      · simp only [List.mem_cons, List.not_mem_nil, or_false] at hd
        rcases hd with rfl | rfl
        · exact ⟨(z, 3), rfl, .inr (.inl rfl)⟩
        · exact ⟨(z, -3), rfl, .inr (.inr rfl)⟩
    refine ⟨by rw [List.length_map]; have := small_sz (n := 100000) (by omega); omega, hk' _ _ ⟨us ++ [t], by simp [dSeq, dRet, dNext, dIf, dAnd, dOr, dNot, dIfE, dApp, dCons, dNil, dVar, dC, dBin, dUn, dCall, dChain, dRaise, dDrop, dAsg, dgName, dPar, dTup, dLst, startD, c1D, c2D, iiD, ltD, ixG, ixD, sqD, atI_0, atI_1, dget_tup, dget_lst], by simp [dSeq, dRet, dNext, dIf, dAnd, dOr, dNot, dIfE, dApp, dCons, dNil, dVar, dC, dBin, dUn, dCall, dChain, dRaise, dDrop, dAsg, dgName, dPar, dTup, dLst, startD, c1D, c2D, iiD, ltD, ixG, ixD, sqD, atI_0, atI_1, dget_tup, dget_lst]; omega, ?_, by simpa [dSeq, dRet, dNext, dIf, dAnd, dOr, dNot, dIfE, dApp, dCons, dNil, dVar, dC, dBin, dUn, dCall, dChain, dRaise, dDrop, dAsg, dgName, dPar, dTup, dLst, startD, c1D, c2D, iiD, ltD, ixG, ixD, sqD, atI_0, atI_1, dget_tup, dget_lst, Nat.add_assoc] using I2.next s3 d3⟩⟩
    intro u hu2
    rcases List.mem_append.mp hu2 with h | h
    · exact hu u h
    · rw [List.mem_singleton.mp h]; exact ht2
theorem Iv.push {d : D} (I : Iv n M) (h : D.bd (M.length + 1) d = true) : Iv n (M ++ [d]) := ⟨I.d.app, by
  rw [List.length_append]
  refine bdL_of fun e he => ?_
  rcases List.mem_append.mp he with he | he
  · exact bd_le (by simp [dSeq, dRet, dNext, dIf, dAnd, dOr, dNot, dIfE, dApp, dCons, dNil, dVar, dC, dBin, dUn, dCall, dChain, dRaise, dDrop, dAsg, dgName, dPar, dTup, dLst, startD, c1D, c2D, iiD, ltD, ixG, ixD, sqD, atI_0, atI_1, dget_tup, dget_lst]) (bd_mem I.b e he)
  · rw [List.mem_singleton.mp he]; exact h⟩
theorem Iv.put {m : Nat} {d : D} (I : Iv n M) (h0 : m ≠ 1) (h1 : m ≠ 0) (h : D.bd M.length d = true) : Iv n (M.set m d) := ⟨I.d.put h0 h1, by rw [List.length_set]; exact bd_set I.b h⟩
theorem L194 (I : Iv n M) (k : ∀ M', Iv n M' → M'[M.length]? = some (.dt [] []) → K.nx (σ.set 10 (some (.obj M.length))) M') : st_law_194 c K x σ M := by
  rw [st_law_194]
  exact k (M ++ [.dt [] []]) (I.push (by simp [dSeq, dRet, dNext, dIf, dAnd, dOr, dNot, dIfE, dApp, dCons, dNil, dVar, dC, dBin, dUn, dCall, dChain, dRaise, dDrop, dAsg, dgName, dPar, dTup, dLst, startD, c1D, c2D, iiD, ltD, ixG, ixD, sqD, atI_0, atI_1, dget_tup, dget_lst, D.bd, D.bdL])) (by simp [dSeq, dRet, dNext, dIf, dAnd, dOr, dNot, dIfE, dApp, dCons, dNil, dVar, dC, dBin, dUn, dCall, dChain, dRaise, dDrop, dAsg, dgName, dPar, dTup, dLst, startD, c1D, c2D, iiD, ltD, ixG, ixD, sqD, atI_0, atI_1, dget_tup, dget_lst])
/-! the dict of the pairs -/
structure CollOk (us : List (List Int × Int)) (p : List (List Int) × List Int) : Prop where
  len : p.1.length = p.2.length
  nd : p.1.Nodup
  few : p.1.length ≤ us.length
  row : ∀ e ∈ p.1, ∃ t ∈ us, t.1 = e
  cnt : ∀ B, (∀ t ∈ us, t.2.natAbs ≤ B) → ∀ d ∈ p.2, d.natAbs ≤ us.length * B
theorem getR_or (p : List (List Int) × List Int) (e : List Int) : getR p e = 0 ∨ getR p e ∈ p.2 := by
  obtain ⟨ks, cs⟩ := p
  simp only [getR]
  induction ks generalizing cs with
  | nil => simp [dSeq, dRet, dNext, dIf, dAnd, dOr, dNot, dIfE, dApp, dCons, dNil, dVar, dC, dBin, dUn, dCall, dChain, dRaise, dDrop, dAsg, dgName, dPar, dTup, dLst, startD, c1D, c2D, iiD, ltD, ixG, ixD, sqD, atI_0, atI_1, dget_tup, dget_lst, lkp]
  | cons k ks ih =>
    cases cs with
    | nil => simp [dSeq, dRet, dNext, dIf, dAnd, dOr, dNot, dIfE, dApp, dCons, dNil, dVar, dC, dBin, dUn, dCall, dChain, dRaise, dDrop, dAsg, dgName, dPar, dTup, dLst, startD, c1D, c2D, iiD, ltD, ixG, ixD, sqD, atI_0, atI_1, dget_tup, dget_lst, lkp]
    | cons d cs =>
      simp only [lkp]
      split
      · simp [dSeq, dRet, dNext, dIf, dAnd, dOr, dNot, dIfE, dApp, dCons, dNil, dVar, dC, dBin, dUn, dCall, dChain, dRaise, dDrop, dAsg, dgName, dPar, dTup, dLst, startD, c1D, c2D, iiD, ltD, ixG, ixD, sqD, atI_0, atI_1, dget_tup, dget_lst]
      · rcases ih cs with h | h
        · exact .inl h
        · exact .inr (List.mem_cons_of_mem _ h)
theorem CollOk.add {us : List (List Int × Int)} {p : List (List Int) × List Int} (h : CollOk us p) (t : List Int × Int) : CollOk (us ++ [t]) (addR p t) where
  len := putR_len h.len _ _
  nd := putR_nodup h.nd _ _
  few := by have := putR_size p t.1 (getR p t.1 + t.2); have := h.few; simp only [addR, List.length_append, List.length_singleton]; omega
  row := fun e he => by
    rcases putR_mem he with he | rfl
    · obtain ⟨t, h1, h2⟩ := h.row e he
      exact ⟨t, by simp [dSeq, dRet, dNext, dIf, dAnd, dOr, dNot, dIfE, dApp, dCons, dNil, dVar, dC, dBin, dUn, dCall, dChain, dRaise, dDrop, dAsg, dgName, dPar, dTup, dLst, startD, c1D, c2D, iiD, ltD, ixG, ixD, sqD, atI_0, atI_1, dget_tup, dget_lst, h1], h2⟩
    · exact ⟨t, by simp [dSeq, dRet, dNext, dIf, dAnd, dOr, dNot, dIfE, dApp, dCons, dNil, dVar, dC, dBin, dUn, dCall, dChain, dRaise, dDrop, dAsg, dgName, dPar, dTup, dLst, startD, c1D, c2D, iiD, ltD, ixG, ixD, sqD, atI_0, atI_1, dget_tup, dget_lst], rfl⟩
  cnt := fun B hB d hd => by
    have hB1 : ∀ t ∈ us, t.2.natAbs ≤ B := fun u hu => hB u (by simp [dSeq, dRet, dNext, dIf, dAnd, dOr, dNot, dIfE, dApp, dCons, dNil, dVar, dC, dBin, dUn, dCall, dChain, dRaise, dDrop, dAsg, dgName, dPar, dTup, dLst, startD, c1D, c2D, iiD, ltD, ixG, ixD, sqD, atI_0, atI_1, dget_tup, dget_lst, hu])
    have ht := hB t (by simp [dSeq, dRet, dNext, dIf, dAnd, dOr, dNot, dIfE, dApp, dCons, dNil, dVar, dC, dBin, dUn, dCall, dChain, dRaise, dDrop, dAsg, dgName, dPar, dTup, dLst, startD, c1D, c2D, iiD, ltD, ixG, ixD, sqD, atI_0, atI_1, dget_tup, dget_lst])
    have hp := h.cnt B hB1
    have hg : (getR p t.1).natAbs ≤ us.length * B := by
      rcases getR_or p t.1 with h | h
      · rw [h]; simp [dSeq, dRet, dNext, dIf, dAnd, dOr, dNot, dIfE, dApp, dCons, dNil, dVar, dC, dBin, dUn, dCall, dChain, dRaise, dDrop, dAsg, dgName, dPar, dTup, dLst, startD, c1D, c2D, iiD, ltD, ixG, ixD, sqD, atI_0, atI_1, dget_tup, dget_lst]
      · exact hp _ h
    have hn : (getR p t.1 + t.2).natAbs ≤ (us ++ [t]).length * B := by
      rw [List.length_append, List.length_singleton, Nat.add_mul]
      omega
    have mono : us.length * B ≤ (us ++ [t]).length * B := Nat.mul_le_mul_right _ (by simp [dSeq, dRet, dNext, dIf, dAnd, dOr, dNot, dIfE, dApp, dCons, dNil, dVar, dC, dBin, dUn, dCall, dChain, dRaise, dDrop, dAsg, dgName, dPar, dTup, dLst, startD, c1D, c2D, iiD, ltD, ixG, ixD, sqD, atI_0, atI_1, dget_tup, dget_lst])
    simp only [addR, putR, putVs] at hd
    split at hd
    · obtain ⟨k, hk, h11⟩ := List.mem_iff_getElem.mp hd
      rw [List.getElem_zipWith] at h11
      split at h11
      · rw [← h11]; exact hn
      · rw [← h11]; exact Nat.le_trans (hp _ (List.getElem_mem _)) mono
    · rcases List.mem_append.mp hd with h10 | h10
      · exact Nat.le_trans (hp d h10) mono
      · rw [List.mem_singleton.mp h10]; exact hn
theorem CollOk.all : ∀ (vs us : List (List Int × Int)) (p : List (List Int) × List Int), CollOk us p → CollOk (us ++ vs) (vs.foldl addR p)
  | [], us, p, h => by simpa [dSeq, dRet, dNext, dIf, dAnd, dOr, dNot, dIfE, dApp, dCons, dNil, dVar, dC, dBin, dUn, dCall, dChain, dRaise, dDrop, dAsg, dgName, dPar, dTup, dLst, startD, c1D, c2D, iiD, ltD, ixG, ixD, sqD, atI_0, atI_1, dget_tup, dget_lst] using h
  | t :: vs, us, p, h => by simpa [dSeq, dRet, dNext, dIf, dAnd, dOr, dNot, dIfE, dApp, dCons, dNil, dVar, dC, dBin, dUn, dCall, dChain, dRaise, dDrop, dAsg, dgName, dPar, dTup, dLst, startD, c1D, c2D, iiD, ltD, ixG, ixD, sqD, atI_0, atI_1, dget_tup, dget_lst] using CollOk.all vs (us ++ [t]) (addR p t) (h.add t)
theorem collOk (us : List (List Int × Int)) : CollOk us (coll us) := CollOk.all us [] ([], []) ⟨rfl, .nil, by simp [dSeq, dRet, dNext, dIf, dAnd, dOr, dNot, dIfE, dApp, dCons, dNil, dVar, dC, dBin, dUn, dCall, dChain, dRaise, dDrop, dAsg, dgName, dPar, dTup, dLst, startD, c1D, c2D, iiD, ltD, ixG, ixD, sqD, atI_0, atI_1, dget_tup, dget_lst], by simp [dSeq, dRet, dNext, dIf, dAnd, dOr, dNot, dIfE, dApp, dCons, dNil, dVar, dC, dBin, dUn, dCall, dChain, dRaise, dDrop, dAsg, dgName, dPar, dTup, dLst, startD, c1D, c2D, iiD, ltD, ixG, ixD, sqD, atI_0, atI_1, dget_tup, dget_lst], by simp [dSeq, dRet, dNext, dIf, dAnd, dOr, dNot, dIfE, dApp, dCons, dNil, dVar, dC, dBin, dUn, dCall, dChain, dRaise, dDrop, dAsg, dgName, dPar, dTup, dLst, startD, c1D, c2D, iiD, ltD, ixG, ixD, sqD, atI_0, atI_1, dget_tup, dget_lst]⟩
abbrev fw (vs : List Nat) (σ σ' : Std) : Prop := σ'.length = σ.length ∧ ∀ i, i ∉ vs → σ'[i]? = σ[i]?
theorem L195 {us : List (List Int × Int)} {m : Nat} (h8 : σ[8]? = some (some (.lst (us.map trm)))) (h10 : σ[10]? = some (some (.obj m))) (hl : σ.length = 18) (m1 : m ≠ 1) (m0 : m ≠ 0) (hM : M[m]? = some (.dt [] [])) (lu : us.length ≤ 8) (I : Iv n M)
    (k : ∀ σ' M', fw [11, 12] σ σ' → M'[m]? = some (.dt (dR (coll us)).1 (dR (coll us)).2) → Iv n M' → K.nx σ' M') :
    dFor (dSeqI (dVar 8)) (dgTup 2 (dgCons (dgName 11) (dgCons (dgName 12) dgNil))) (dSeq (dPut (dVar 10) (dVar 11) (dBin (addD false) (dIfE (dBin inD (dVar 11) (dVar 10)) (dBin ixG (dVar 10) (dVar 11)) (dC (.int 0))) (dVar 12))) dNext) K x σ M := by
  refine ⟨_, h8, ?_⟩
  refine wFor_inv (fun rest σ' M' => ∃ vs ws, us = vs ++ ws ∧ rest = ws.map trm ∧ fw [11, 12] σ σ' ∧ M'[m]? = some (.dt (dR (coll vs)).1 (dR (coll vs)).2) ∧ Iv n M') ?_ ?_ _ _ _ ⟨[], us, rfl, rfl, ⟨rfl, fun _ _ => rfl⟩, by simpa [dSeq, dRet, dNext, dIf, dAnd, dOr, dNot, dIfE, dApp, dCons, dNil, dVar, dC, dBin, dUn, dCall, dChain, dRaise, dDrop, dAsg, dgName, dPar, dTup, dLst, startD, c1D, c2D, iiD, ltD, ixG, ixD, sqD, atI_0, atI_1, dget_tup, dget_lst, coll, dR] using hM, I⟩
  · rintro σ' M' ⟨vs, ws, rfl, e, f, hm, I'⟩
    obtain rfl : ws = [] := by simpa [dSeq, dRet, dNext, dIf, dAnd, dOr, dNot, dIfE, dApp, dCons, dNil, dVar, dC, dBin, dUn, dCall, dChain, dRaise, dDrop, dAsg, dgName, dPar, dTup, dLst, startD, c1D, c2D, iiD, ltD, ixG, ixD, sqD, atI_0, atI_1, dget_tup, dget_lst] using e.symm
    rw [List.append_nil] at k
    exact ⟨trivial, k σ' M' f hm I'⟩
  · rintro d rest σ' M' K' ⟨vs, ws, rfl, e, f, hm, I'⟩ hrt hbk hnx hct
    cases ws with
    | nil => simp [dSeq, dRet, dNext, dIf, dAnd, dOr, dNot, dIfE, dApp, dCons, dNil, dVar, dC, dBin, dUn, dCall, dChain, dRaise, dDrop, dAsg, dgName, dPar, dTup, dLst, startD, c1D, c2D, iiD, ltD, ixG, ixD, sqD, atI_0, atI_1, dget_tup, dget_lst] at e
    | cons t ws =>
      simp only [List.map_cons, List.cons.injEq] at e
      obtain ⟨rfl, rfl⟩ := e
      refine ⟨trivial, [rowD t.1, .int t.2], rfl, rfl, ?_⟩
      refine ⟨_, _, rfl, ?_⟩
      refine ⟨_, _, rfl, rfl, ?_⟩
      have s11 : ((σ'.set 11 (some (rowD t.1))).set 12 (some (.int t.2)))[11]? = some (some (rowD t.1)) := by simp [dSeq, dRet, dNext, dIf, dAnd, dOr, dNot, dIfE, dApp, dCons, dNil, dVar, dC, dBin, dUn, dCall, dChain, dRaise, dDrop, dAsg, dgName, dPar, dTup, dLst, startD, c1D, c2D, iiD, ltD, ixG, ixD, sqD, atI_0, atI_1, dget_tup, dget_lst, f.1, hl]
      have s12 : ((σ'.set 11 (some (rowD t.1))).set 12 (some (.int t.2)))[12]? = some (some (.int t.2)) := by simp [dSeq, dRet, dNext, dIf, dAnd, dOr, dNot, dIfE, dApp, dCons, dNil, dVar, dC, dBin, dUn, dCall, dChain, dRaise, dDrop, dAsg, dgName, dPar, dTup, dLst, startD, c1D, c2D, iiD, ltD, ixG, ixD, sqD, atI_0, atI_1, dget_tup, dget_lst, f.1, hl]
      have s10 : ((σ'.set 11 (some (rowD t.1))).set 12 (some (.int t.2)))[10]? = some (some (.obj m)) := by simp [dSeq, dRet, dNext, dIf, dAnd, dOr, dNot, dIfE, dApp, dCons, dNil, dVar, dC, dBin, dUn, dCall, dChain, dRaise, dDrop, dAsg, dgName, dPar, dTup, dLst, startD, c1D, c2D, iiD, ltD, ixG, ixD, sqD, atI_0, atI_1, dget_tup, dget_lst, f.2 10 (by simp [dSeq, dRet, dNext, dIf, dAnd, dOr, dNot, dIfE, dApp, dCons, dNil, dVar, dC, dBin, dUn, dCall, dChain, dRaise, dDrop, dAsg, dgName, dPar, dTup, dLst, startD, c1D, c2D, iiD, ltD, ixG, ixD, sqD, atI_0, atI_1, dget_tup, dget_lst]), h10]
      have ok := collOk vs
      have hd : dtOf M' (.obj m) = some (dR (coll vs)) := by simp only [dtOf, hm]
      have hg := dget_dR hd (dk_of_dt hd) t.1
      have hz : (coll vs).1.length + 1 ≤ 8 := by have := ok.few; simp [dSeq, dRet, dNext, dIf, dAnd, dOr, dNot, dIfE, dApp, dCons, dNil, dVar, dC, dBin, dUn, dCall, dChain, dRaise, dDrop, dAsg, dgName, dPar, dTup, dLst, startD, c1D, c2D, iiD, ltD, ixG, ixD, sqD, atI_0, atI_1, dget_tup, dget_lst] at lu; omega
      have fin : ∀ q : Int, q = getR (coll vs) t.1 → ∃ d, ((σ'.set 11 (some (rowD t.1))).set 12 (some (.int t.2)))[12]? = some (some d) ∧ addD false (.int q) d M' fun v M1 => dVar 10 ((σ'.set 11 (some (rowD t.1))).set 12 (some (.int t.2))) M1 (fun d M2 => dVar 11 ((σ'.set 11 (some (rowD t.1))).set 12 (some (.int t.2))) M2 (fun y M3 => ∃ M4, dput M3 d y v = some M4 ∧ K'.nx ((σ'.set 11 (some (rowD t.1))).set 12 (some (.int t.2))) M4) x) x := by
        rintro q rfl
        refine ⟨_, s12, _, s10, _, s11, M'.set m (.dt (dR (coll (vs ++ [t]))).1 (dR (coll (vs ++ [t]))).2), ?_, ?_⟩
        · have hq := dR_put (coll vs) t.1 (getR (coll vs) t.1 + t.2)
          have ec : coll (vs ++ [t]) = addR (coll vs) t := by simp [dSeq, dRet, dNext, dIf, dAnd, dOr, dNot, dIfE, dApp, dCons, dNil, dVar, dC, dBin, dUn, dCall, dChain, dRaise, dDrop, dAsg, dgName, dPar, dTup, dLst, startD, c1D, c2D, iiD, ltD, ixG, ixD, sqD, atI_0, atI_1, dget_tup, dget_lst, coll]
          simp only [dput, hm, tkD_row, Option.bind_some]
          rw [if_pos (by have := small_sz (n := 100000) (by omega); simp [dSeq, dRet, dNext, dIf, dAnd, dOr, dNot, dIfE, dApp, dCons, dNil, dVar, dC, dBin, dUn, dCall, dChain, dRaise, dDrop, dAsg, dgName, dPar, dTup, dLst, startD, c1D, c2D, iiD, ltD, ixG, ixD, sqD, atI_0, atI_1, dget_tup, dget_lst, dR]; omega), ec]
          simp only [addR, ← hq]
        · refine hnx _ _ ⟨vs ++ [t], ws, by simp [dSeq, dRet, dNext, dIf, dAnd, dOr, dNot, dIfE, dApp, dCons, dNil, dVar, dC, dBin, dUn, dCall, dChain, dRaise, dDrop, dAsg, dgName, dPar, dTup, dLst, startD, c1D, c2D, iiD, ltD, ixG, ixD, sqD, atI_0, atI_1, dget_tup, dget_lst], rfl, ⟨by simpa [dSeq, dRet, dNext, dIf, dAnd, dOr, dNot, dIfE, dApp, dCons, dNil, dVar, dC, dBin, dUn, dCall, dChain, dRaise, dDrop, dAsg, dgName, dPar, dTup, dLst, startD, c1D, c2D, iiD, ltD, ixG, ixD, sqD, atI_0, atI_1, dget_tup, dget_lst] using f.1, fun i hi => ?_⟩, set_get hm, I'.put m1 m0 ?_⟩
          · simp only [List.mem_cons, List.not_mem_nil, or_false, not_or] at hi
            rw [List.getElem?_set_ne (by omega), List.getElem?_set_ne (by omega)]
            exact f.2 i (by simp [dSeq, dRet, dNext, dIf, dAnd, dOr, dNot, dIfE, dApp, dCons, dNil, dVar, dC, dBin, dUn, dCall, dChain, dRaise, dDrop, dAsg, dgName, dPar, dTup, dLst, startD, c1D, c2D, iiD, ltD, ixG, ixD, sqD, atI_0, atI_1, dget_tup, dget_lst]; omega)
          · simp only [dR, D.bd]
            exact bdL_of fun d hd => by obtain ⟨i, _, rfl⟩ := List.mem_map.mp hd; rfl
      refine ⟨_, s11, _, s10, .inl ⟨_, hg, _, rfl, ?_⟩⟩
      cases hk : lkp (coll vs).1 (coll vs).2 t.1 with
      | none =>
        rw [if_neg (by simp [dSeq, dRet, dNext, dIf, dAnd, dOr, dNot, dIfE, dApp, dCons, dNil, dVar, dC, dBin, dUn, dCall, dChain, dRaise, dDrop, dAsg, dgName, dPar, dTup, dLst, startD, c1D, c2D, iiD, ltD, ixG, ixD, sqD, atI_0, atI_1, dget_tup, dget_lst])]
        exact fin 0 (by simp [dSeq, dRet, dNext, dIf, dAnd, dOr, dNot, dIfE, dApp, dCons, dNil, dVar, dC, dBin, dUn, dCall, dChain, dRaise, dDrop, dAsg, dgName, dPar, dTup, dLst, startD, c1D, c2D, iiD, ltD, ixG, ixD, sqD, atI_0, atI_1, dget_tup, dget_lst, getR, hk])
      | some q =>
        rw [if_pos (by simp [dSeq, dRet, dNext, dIf, dAnd, dOr, dNot, dIfE, dApp, dCons, dNil, dVar, dC, dBin, dUn, dCall, dChain, dRaise, dDrop, dAsg, dgName, dPar, dTup, dLst, startD, c1D, c2D, iiD, ltD, ixG, ixD, sqD, atI_0, atI_1, dget_tup, dget_lst])]
        rw [hk] at hg
        exact ⟨_, s10, _, s11, .inr ⟨_, hg, fin q (by simp [dSeq, dRet, dNext, dIf, dAnd, dOr, dNot, dIfE, dApp, dCons, dNil, dVar, dC, dBin, dUn, dCall, dChain, dRaise, dDrop, dAsg, dgName, dPar, dTup, dLst, startD, c1D, c2D, iiD, ltD, ixG, ixD, sqD, atI_0, atI_1, dget_tup, dget_lst, getR, hk])⟩⟩
end
end Law
namespace Law
open PySem PySem.Spec PyProof.Rows L2 LamX TL
section
variable {c : Wc} {K : DEnds} {x : XD} {σ : Std} {M : Sto} {n : Nat}
theorem isT_smD (ts : List (List Int × Int)) : isT (smD ts) = true := rfl
theorem isTerm_trm {v : Int} {t : List Int × Int} (h1 : (t.1.length : Int) = v) (h2 : t.1.all small = true) (h4 : isLong t.2 4000 = false) : isTerm v (trm t) = true := by
  simp only [trm, isTerm, isRow, isTup, rowD, tpl, List.length_map, h1, decide_true, Bool.true_and, isI, h4, Bool.not_false, Bool.and_true, List.all_map]
  simp only [Bool.and_eq_true]
  exact ⟨⟨List.all_eq_true.mpr fun _ _ => rfl, by simpa [dSeq, dRet, dNext, dIf, dAnd, dOr, dNot, dIfE, dApp, dCons, dNil, dVar, dC, dBin, dUn, dCall, dChain, dRaise, dDrop, dAsg, dgName, dPar, dTup, dLst, startD, c1D, c2D, iiD, ltD, ixG, ixD, sqD, atI_0, atI_1, dget_tup, dget_lst, Function.comp_def, iOf] using h2⟩, by simp [dSeq, dRet, dNext, dIf, dAnd, dOr, dNot, dIfE, dApp, dCons, dNil, dVar, dC, dBin, dUn, dCall, dChain, dRaise, dDrop, dAsg, dgName, dPar, dTup, dLst, startD, c1D, c2D, iiD, ltD, ixG, ixD, sqD, atI_0, atI_1, dget_tup, dget_lst, iOf, h4]⟩
theorem small_of {e : List Int} (h : ∀ y ∈ e, -2 ≤ y ∧ y ≤ 3) : e.all small = true := by
  rw [List.all_eq_true]
  intro y hy
  have := h y hy
  simp only [small, Bool.and_eq_true, decide_eq_true_eq]
  omega
theorem ltP {i : Int} {B : Nat} (h : i.natAbs ≤ B) (k : Nat) (hk : B < 2 ^ k) : i.natAbs < 2 ^ k := Nat.lt_of_le_of_lt h hk
/-- rows and counts of the drawn pairs -/
theorem PairOk.ok {v : Nat} {ts : List (List Int × Int)} {z : List Int} {t : List Int × Int} (O : OneOk v ts) (hz : z = List.replicate v 0) (h : PairOk ts z t) : t.1.length = v ∧ (∀ y ∈ t.1, -2 ≤ y ∧ y ≤ 3) ∧ t.2.natAbs ≤ 1000000000000 := by
  have zz : z.length = v ∧ ∀ y ∈ z, -2 ≤ y ∧ y ≤ 3 := by
    subst hz
    exact ⟨by simp [dSeq, dRet, dNext, dIf, dAnd, dOr, dNot, dIfE, dApp, dCons, dNil, dVar, dC, dBin, dUn, dCall, dChain, dRaise, dDrop, dAsg, dgName, dPar, dTup, dLst, startD, c1D, c2D, iiD, ltD, ixG, ixD, sqD, atI_0, atI_1, dget_tup, dget_lst], fun y hy => by rw [(List.mem_replicate.mp hy).2]; decide⟩
  rcases h with h | rfl | rfl
  · exact ⟨(O.row t h).1, (O.row t h).2, (O.cnt t h).2⟩
  · exact ⟨zz.1, zz.2, by simp [dSeq, dRet, dNext, dIf, dAnd, dOr, dNot, dIfE, dApp, dCons, dNil, dVar, dC, dBin, dUn, dCall, dChain, dRaise, dDrop, dAsg, dgName, dPar, dTup, dLst, startD, c1D, c2D, iiD, ltD, ixG, ixD, sqD, atI_0, atI_1, dget_tup, dget_lst]⟩
  · exact ⟨zz.1, zz.2, by simp [dSeq, dRet, dNext, dIf, dAnd, dOr, dNot, dIfE, dApp, dCons, dNil, dVar, dC, dBin, dUn, dCall, dChain, dRaise, dDrop, dAsg, dgName, dPar, dTup, dLst, startD, c1D, c2D, iiD, ltD, ixG, ixD, sqD, atI_0, atI_1, dget_tup, dget_lst]⟩
theorem rowSmall {y : Int} (h : -2 ≤ y ∧ y ≤ 3) : y.natAbs < 2 ^ 200 := Nat.lt_of_lt_of_le (m := 8) (by omega) (by decide)
theorem L197 {v : Int} {us ts : List (List Int × Int)} {z : List Int} {m : Nat} (h3 : σ[3]? = some (some (.int v))) (h8 : σ[8]? = some (some (.lst (us.map trm)))) (h10 : σ[10]? = some (some (.obj m))) (hz : z = List.replicate v.toNat 0) (v1 : 1 ≤ v) (v2 : v ≤ 5) (O : OneOk v.toNat ts)
    (lu : us.length ≤ 8) (hu : ∀ t ∈ us, PairOk ts z t) (hM : M[m]? = some (.dt (dR (coll us)).1 (dR (coll us)).2)) (k : K.nx σ M) : st_law_197 c K x σ M := by
  have ok := collOk us
  have pk := fun t ht => (hu t ht).ok O hz
  have cb := ok.cnt 1000000000000 fun t ht => (pk t ht).2.2
  have cb2 : ∀ d ∈ (coll us).2, d.natAbs ≤ 8000000000000 := fun d hd => by have := cb d hd; omega
  have sm : ∀ t ∈ sumP (coll us), t.1.length = v.toNat ∧ (∀ y ∈ t.1, -2 ≤ y ∧ y ≤ 3) ∧ t.2.natAbs ≤ 8000000000000 := fun t ht => by
    obtain ⟨a, b, _⟩ := sumP_mem ht
    obtain ⟨u, u1, u2⟩ := ok.row _ a
    rw [← u2, b]
    exact ⟨(pk u u1).1, (pk u u1).2.1, cb2 _ (getR_mem ok.len a)⟩
  have sl : (sumP (coll us)).length ≤ 8 := by
    rw [← List.length_map (f := fun t : List Int × Int => t.1), sumP_rows]
    refine Nat.le_trans (List.length_filter_le _ _) ?_
    rw [(sortR_perm _).length_eq]
    exact Nat.le_trans ok.few lu
  have hT : (isT (smD us) && (tpl (smD us)).all (isTerm v)) = true := by
    rw [isT_smD, Bool.true_and, smD, tpl, List.all_map, List.all_eq_true]
    intro t ht
    obtain ⟨a, b, d⟩ := pk t ht
    exact isTerm_trm (by omega) (small_of b) (not_long (by omega) _)
  have hp : pln (smD us) = true := pln_sm (small_sz (by omega)) fun t ht => small_sz (by have := (pk t ht).1; omega)
  have R : ReprOk (smD (sumP (coll us))) := reprOk_sm (n := 8) (v := 5) (k := 200) (by decide) (by decide) sl (by decide) (by decide) (fun t ht => by
    obtain ⟨a, b, d⟩ := sm t ht
    exact ⟨by omega, fun y hy => rowSmall (b y hy), Nat.lt_of_le_of_lt d (by decide)⟩) (by decide)
  have hL : letR v.toNat (v - 1) ≠ [] := fun e => by
    have : (letR v.toNat (v - 1)).length = v.toNat := by simp [dSeq, dRet, dNext, dIf, dAnd, dOr, dNot, dIfE, dApp, dCons, dNil, dVar, dC, dBin, dUn, dCall, dChain, dRaise, dDrop, dAsg, dgName, dPar, dTup, dLst, startD, c1D, c2D, iiD, ltD, ixG, ixD, sqD, atI_0, atI_1, dget_tup, dget_lst, letR]
    rw [e] at this
    simp [dSeq, dRet, dNext, dIf, dAnd, dOr, dNot, dIfE, dApp, dCons, dNil, dVar, dC, dBin, dUn, dCall, dChain, dRaise, dDrop, dAsg, dgName, dPar, dTup, dLst, startD, c1D, c2D, iiD, ltD, ixG, ixD, sqD, atI_0, atI_1, dget_tup, dget_lst] at this
    omega
  have R2 : ReprOk (smD [(letR v.toNat (v - 1), 1)]) := reprOk_sm (n := 1) (v := 5) (k := 200) (by decide) (by decide) (by simp [dSeq, dRet, dNext, dIf, dAnd, dOr, dNot, dIfE, dApp, dCons, dNil, dVar, dC, dBin, dUn, dCall, dChain, dRaise, dDrop, dAsg, dgName, dPar, dTup, dLst, startD, c1D, c2D, iiD, ltD, ixG, ixD, sqD, atI_0, atI_1, dget_tup, dget_lst]) (by decide) (by decide) (fun t ht => by
    rw [List.mem_singleton.mp ht]
    refine ⟨by simp [dSeq, dRet, dNext, dIf, dAnd, dOr, dNot, dIfE, dApp, dCons, dNil, dVar, dC, dBin, dUn, dCall, dChain, dRaise, dDrop, dAsg, dgName, dPar, dTup, dLst, startD, c1D, c2D, iiD, ltD, ixG, ixD, sqD, atI_0, atI_1, dget_tup, dget_lst, letR]; omega, fun y hy => ?_, show (1 : Int).natAbs < 2 ^ 200 by decide⟩
    simp only [letR, List.mem_map] at hy
    obtain ⟨j, _, rfl⟩ := hy
    split <;> decide) (by decide)
  have s1 : sumP ([letR v.toNat (v - 1)], [1]) = [(letR v.toNat (v - 1), 1)] := by
    have := sumP_of (ts := [(letR v.toNat (v - 1), 1)]) (us := [(letR v.toNat (v - 1), 1)]) (by simp [dSeq, dRet, dNext, dIf, dAnd, dOr, dNot, dIfE, dApp, dCons, dNil, dVar, dC, dBin, dUn, dCall, dChain, dRaise, dDrop, dAsg, dgName, dPar, dTup, dLst, startD, c1D, c2D, iiD, ltD, ixG, ixD, sqD, atI_0, atI_1, dget_tup, dget_lst, Asc]) (.refl _) (by simp [dSeq, dRet, dNext, dIf, dAnd, dOr, dNot, dIfE, dApp, dCons, dNil, dVar, dC, dBin, dUn, dCall, dChain, dRaise, dDrop, dAsg, dgName, dPar, dTup, dLst, startD, c1D, c2D, iiD, ltD, ixG, ixD, sqD, atI_0, atI_1, dget_tup, dget_lst])
    have e : coll [(letR v.toNat (v - 1), 1)] = ([letR v.toNat (v - 1)], [1]) := by simp [dSeq, dRet, dNext, dIf, dAnd, dOr, dNot, dIfE, dApp, dCons, dNil, dVar, dC, dBin, dUn, dCall, dChain, dRaise, dDrop, dAsg, dgName, dPar, dTup, dLst, startD, c1D, c2D, iiD, ltD, ixG, ixD, sqD, atI_0, atI_1, dget_tup, dget_lst, coll, addR, putR, getR, lkp, putKs, putVs]
    rwa [e] at this
  have last : K.nx σ M := k
  rw [st_law_197]
  refine ⟨_, h3, _, h8, _, rfl, by omega, by omega, hp, ?_⟩
  rw [if_pos (show (isT (D.tup (us.map trm)) && (tpl (D.tup (us.map trm))).all (isTerm v)) = true from hT)]
  refine ⟨us, rfl, by omega, fun t ht => ⟨by have := (sm t ht).1; omega, small_of (sm t ht).2.1, by have := (sm t ht).2.2; omega⟩, ?_⟩
  rw [if_neg (by omega)]
  refine ⟨_, h10, coll us, by simp only [dtOf, hM], ⟨ok.len, by have := ok.few; omega, fun e he => ?_, ok.nd⟩, rfl, R, true, rfl, _, rfl, ?_⟩
  · obtain ⟨u, u1, rfl⟩ := ok.row e he
    intro z
    have := (pk u u1).1
    rw [z] at this
    simp [dSeq, dRet, dNext, dIf, dAnd, dOr, dNot, dIfE, dApp, dCons, dNil, dVar, dC, dBin, dUn, dCall, dChain, dRaise, dDrop, dAsg, dgName, dPar, dTup, dLst, startD, c1D, c2D, iiD, ltD, ixG, ixD, sqD, atI_0, atI_1, dget_tup, dget_lst] at this
    omega
  rw [if_neg (by simp [dSeq, dRet, dNext, dIf, dAnd, dOr, dNot, dIfE, dApp, dCons, dNil, dVar, dC, dBin, dUn, dCall, dChain, dRaise, dDrop, dAsg, dgName, dPar, dTup, dLst, startD, c1D, c2D, iiD, ltD, ixG, ixD, sqD, atI_0, atI_1, dget_tup, dget_lst])]
  refine ⟨_, h3, _, h3, by omega, by omega, rfl, ?_⟩
  rw [if_pos (by simp [dSeq, dRet, dNext, dIf, dAnd, dOr, dNot, dIfE, dApp, dCons, dNil, dVar, dC, dBin, dUn, dCall, dChain, dRaise, dDrop, dAsg, dgName, dPar, dTup, dLst, startD, c1D, c2D, iiD, ltD, ixG, ixD, sqD, atI_0, atI_1, dget_tup, dget_lst, btw]; omega)]
  refine ⟨_, h3, _, h3, trivial, by omega, by omega, ⟨[letR v.toNat (v - 1)], [1]⟩, rfl, ⟨rfl, by simp [dSeq, dRet, dNext, dIf, dAnd, dOr, dNot, dIfE, dApp, dCons, dNil, dVar, dC, dBin, dUn, dCall, dChain, dRaise, dDrop, dAsg, dgName, dPar, dTup, dLst, startD, c1D, c2D, iiD, ltD, ixG, ixD, sqD, atI_0, atI_1, dget_tup, dget_lst], by simpa [dSeq, dRet, dNext, dIf, dAnd, dOr, dNot, dIfE, dApp, dCons, dNil, dVar, dC, dBin, dUn, dCall, dChain, dRaise, dDrop, dAsg, dgName, dPar, dTup, dLst, startD, c1D, c2D, iiD, ltD, ixG, ixD, sqD, atI_0, atI_1, dget_tup, dget_lst] using hL, by simp [dSeq, dRet, dNext, dIf, dAnd, dOr, dNot, dIfE, dApp, dCons, dNil, dVar, dC, dBin, dUn, dCall, dChain, dRaise, dDrop, dAsg, dgName, dPar, dTup, dLst, startD, c1D, c2D, iiD, ltD, ixG, ixD, sqD, atI_0, atI_1, dget_tup, dget_lst]⟩, ?_, R2, true, rfl, _, rfl, ?_⟩
  · rw [s1]; rfl
  · rw [if_neg (by simp [dSeq, dRet, dNext, dIf, dAnd, dOr, dNot, dIfE, dApp, dCons, dNil, dVar, dC, dBin, dUn, dCall, dChain, dRaise, dDrop, dAsg, dgName, dPar, dTup, dLst, startD, c1D, c2D, iiD, ltD, ixG, ixD, sqD, atI_0, atI_1, dget_tup, dget_lst])]; exact k
theorem L199 (h1 : σ[1]? = some (some (.obj 1))) (I : Iv n M) (hn : n < 2 ^ 60) (k : ∀ (y : Int) M', y = 0 ∨ y = 1 ∨ y = -7 ∨ y = 10 ^ 40 → Iv (n + 1) M' → K.nx (σ.set 13 (some (.int y))) M') : st_law_199 c K x σ M := by
  rw [st_law_199]
  refine ⟨_, h1, ⟨by omega, by omega, by omega⟩, small_sz (by simp [dSeq, dRet, dNext, dIf, dAnd, dOr, dNot, dIfE, dApp, dCons, dNil, dVar, dC, dBin, dUn, dCall, dChain, dRaise, dDrop, dAsg, dgName, dPar, dTup, dLst, startD, c1D, c2D, iiD, ltD, ixG, ixD, sqD, atI_0, atI_1, dget_tup, dget_lst]), by simp [dSeq, dRet, dNext, dIf, dAnd, dOr, dNot, dIfE, dApp, dCons, dNil, dVar, dC, dBin, dUn, dCall, dChain, dRaise, dDrop, dAsg, dgName, dPar, dTup, dLst, startD, c1D, c2D, iiD, ltD, ixG, ixD, sqD, atI_0, atI_1, dget_tup, dget_lst], by simp [dSeq, dRet, dNext, dIf, dAnd, dOr, dNot, dIfE, dApp, dCons, dNil, dVar, dC, dBin, dUn, dCall, dChain, dRaise, dDrop, dAsg, dgName, dPar, dTup, dLst, startD, c1D, c2D, iiD, ltD, ixG, ixD, sqD, atI_0, atI_1, dget_tup, dget_lst], 0, n, I.d, by omega, fun d M' hd s D => ?_⟩
  simp only [List.mem_cons, List.not_mem_nil, or_false] at hd
  rcases hd with rfl | rfl | rfl | rfl
  · exact k _ _ (.inl rfl) (I.next s D)
  · exact k _ _ (.inr (.inl rfl)) (I.next s D)
  · exact k _ _ (.inr (.inr (.inl rfl))) (I.next s D)
  · exact k _ _ (.inr (.inr (.inr rfl))) (I.next s D)
theorem L200 {v y : Int} (h3 : σ[3]? = some (some (.int v))) (h13 : σ[13]? = some (some (.int y))) (v1 : 1 ≤ v) (v2 : v ≤ 5) (hy : y.natAbs ≤ 10 ^ 40) (k : K.nx σ M) : st_law_200 c K x σ M := by
  have hz : List.replicate v.toNat (0 : Int) ≠ [] := fun e => by
    have : (List.replicate v.toNat (0 : Int)).length = v.toNat := by simp [dSeq, dRet, dNext, dIf, dAnd, dOr, dNot, dIfE, dApp, dCons, dNil, dVar, dC, dBin, dUn, dCall, dChain, dRaise, dDrop, dAsg, dgName, dPar, dTup, dLst, startD, c1D, c2D, iiD, ltD, ixG, ixD, sqD, atI_0, atI_1, dget_tup, dget_lst]
    rw [e] at this
    simp [dSeq, dRet, dNext, dIf, dAnd, dOr, dNot, dIfE, dApp, dCons, dNil, dVar, dC, dBin, dUn, dCall, dChain, dRaise, dDrop, dAsg, dgName, dPar, dTup, dLst, startD, c1D, c2D, iiD, ltD, ixG, ixD, sqD, atI_0, atI_1, dget_tup, dget_lst] at this
    omega
  have hy2 : y.natAbs < 2 ^ 200 := Nat.lt_of_le_of_lt hy (by decide)
  have R : ReprOk (smD (if y = 0 then [] else [(List.replicate v.toNat 0, y)])) := reprOk_sm (n := 1) (v := 5) (k := 200) (by decide) (by decide) (by split <;> simp [dSeq, dRet, dNext, dIf, dAnd, dOr, dNot, dIfE, dApp, dCons, dNil, dVar, dC, dBin, dUn, dCall, dChain, dRaise, dDrop, dAsg, dgName, dPar, dTup, dLst, startD, c1D, c2D, iiD, ltD, ixG, ixD, sqD, atI_0, atI_1, dget_tup, dget_lst]) (by decide) (by decide) (fun t ht => by
    split at ht
    · cases ht
    · rw [List.mem_singleton.mp ht]
      refine ⟨by simp [dSeq, dRet, dNext, dIf, dAnd, dOr, dNot, dIfE, dApp, dCons, dNil, dVar, dC, dBin, dUn, dCall, dChain, dRaise, dDrop, dAsg, dgName, dPar, dTup, dLst, startD, c1D, c2D, iiD, ltD, ixG, ixD, sqD, atI_0, atI_1, dget_tup, dget_lst]; omega, fun y hy => ?_, hy2⟩
      rw [(List.mem_replicate.mp hy).2]
      decide) (by decide)
  rw [st_law_200]
  refine ⟨_, h3, _, h13, by omega, by omega, rfl, ?_⟩
  rw [if_pos (by simp [dSeq, dRet, dNext, dIf, dAnd, dOr, dNot, dIfE, dApp, dCons, dNil, dVar, dC, dBin, dUn, dCall, dChain, dRaise, dDrop, dAsg, dgName, dPar, dTup, dLst, startD, c1D, c2D, iiD, ltD, ixG, ixD, sqD, atI_0, atI_1, dget_tup, dget_lst, isI])]
  refine ⟨Nat.lt_of_le_of_lt hy (by decide), ?_⟩
  refine ⟨_, h3, _, h13, by omega, by omega, ?_⟩
  by_cases h0 : y = 0
  · subst h0
    rw [if_pos rfl]
    refine ⟨([], []), rfl, ⟨rfl, by simp [dSeq, dRet, dNext, dIf, dAnd, dOr, dNot, dIfE, dApp, dCons, dNil, dVar, dC, dBin, dUn, dCall, dChain, dRaise, dDrop, dAsg, dgName, dPar, dTup, dLst, startD, c1D, c2D, iiD, ltD, ixG, ixD, sqD, atI_0, atI_1, dget_tup, dget_lst], by simp [dSeq, dRet, dNext, dIf, dAnd, dOr, dNot, dIfE, dApp, dCons, dNil, dVar, dC, dBin, dUn, dCall, dChain, dRaise, dDrop, dAsg, dgName, dPar, dTup, dLst, startD, c1D, c2D, iiD, ltD, ixG, ixD, sqD, atI_0, atI_1, dget_tup, dget_lst], .nil⟩, by simp [dSeq, dRet, dNext, dIf, dAnd, dOr, dNot, dIfE, dApp, dCons, dNil, dVar, dC, dBin, dUn, dCall, dChain, dRaise, dDrop, dAsg, dgName, dPar, dTup, dLst, startD, c1D, c2D, iiD, ltD, ixG, ixD, sqD, atI_0, atI_1, dget_tup, dget_lst, iOf, sumP, sortR], ?_, true, rfl, _, rfl, ?_⟩
    · simpa [dSeq, dRet, dNext, dIf, dAnd, dOr, dNot, dIfE, dApp, dCons, dNil, dVar, dC, dBin, dUn, dCall, dChain, dRaise, dDrop, dAsg, dgName, dPar, dTup, dLst, startD, c1D, c2D, iiD, ltD, ixG, ixD, sqD, atI_0, atI_1, dget_tup, dget_lst, iOf] using R
    · rw [if_neg (by simp [dSeq, dRet, dNext, dIf, dAnd, dOr, dNot, dIfE, dApp, dCons, dNil, dVar, dC, dBin, dUn, dCall, dChain, dRaise, dDrop, dAsg, dgName, dPar, dTup, dLst, startD, c1D, c2D, iiD, ltD, ixG, ixD, sqD, atI_0, atI_1, dget_tup, dget_lst])]; exact k
  · have s1 : sumP ([List.replicate v.toNat 0], [y]) = [(List.replicate v.toNat 0, y)] := by
      have := sumP_of (ts := [(List.replicate v.toNat 0, y)]) (us := [(List.replicate v.toNat 0, y)]) (by simp [dSeq, dRet, dNext, dIf, dAnd, dOr, dNot, dIfE, dApp, dCons, dNil, dVar, dC, dBin, dUn, dCall, dChain, dRaise, dDrop, dAsg, dgName, dPar, dTup, dLst, startD, c1D, c2D, iiD, ltD, ixG, ixD, sqD, atI_0, atI_1, dget_tup, dget_lst, Asc]) (.refl _) (by simpa [dSeq, dRet, dNext, dIf, dAnd, dOr, dNot, dIfE, dApp, dCons, dNil, dVar, dC, dBin, dUn, dCall, dChain, dRaise, dDrop, dAsg, dgName, dPar, dTup, dLst, startD, c1D, c2D, iiD, ltD, ixG, ixD, sqD, atI_0, atI_1, dget_tup, dget_lst] using h0)
      have e : coll [(List.replicate v.toNat 0, y)] = ([List.replicate v.toNat 0], [y]) := by simp [dSeq, dRet, dNext, dIf, dAnd, dOr, dNot, dIfE, dApp, dCons, dNil, dVar, dC, dBin, dUn, dCall, dChain, dRaise, dDrop, dAsg, dgName, dPar, dTup, dLst, startD, c1D, c2D, iiD, ltD, ixG, ixD, sqD, atI_0, atI_1, dget_tup, dget_lst, coll, addR, putR, getR, lkp, putKs, putVs]
      rwa [e] at this
    rw [if_neg h0]
    refine ⟨([List.replicate v.toNat 0], [y]), rfl, ⟨rfl, by simp [dSeq, dRet, dNext, dIf, dAnd, dOr, dNot, dIfE, dApp, dCons, dNil, dVar, dC, dBin, dUn, dCall, dChain, dRaise, dDrop, dAsg, dgName, dPar, dTup, dLst, startD, c1D, c2D, iiD, ltD, ixG, ixD, sqD, atI_0, atI_1, dget_tup, dget_lst], by simpa [dSeq, dRet, dNext, dIf, dAnd, dOr, dNot, dIfE, dApp, dCons, dNil, dVar, dC, dBin, dUn, dCall, dChain, dRaise, dDrop, dAsg, dgName, dPar, dTup, dLst, startD, c1D, c2D, iiD, ltD, ixG, ixD, sqD, atI_0, atI_1, dget_tup, dget_lst] using hz, by simp [dSeq, dRet, dNext, dIf, dAnd, dOr, dNot, dIfE, dApp, dCons, dNil, dVar, dC, dBin, dUn, dCall, dChain, dRaise, dDrop, dAsg, dgName, dPar, dTup, dLst, startD, c1D, c2D, iiD, ltD, ixG, ixD, sqD, atI_0, atI_1, dget_tup, dget_lst]⟩, ?_, ?_, true, rfl, _, rfl, ?_⟩
    · rw [s1]; simp [dSeq, dRet, dNext, dIf, dAnd, dOr, dNot, dIfE, dApp, dCons, dNil, dVar, dC, dBin, dUn, dCall, dChain, dRaise, dDrop, dAsg, dgName, dPar, dTup, dLst, startD, c1D, c2D, iiD, ltD, ixG, ixD, sqD, atI_0, atI_1, dget_tup, dget_lst, iOf, h0]
    · simpa [dSeq, dRet, dNext, dIf, dAnd, dOr, dNot, dIfE, dApp, dCons, dNil, dVar, dC, dBin, dUn, dCall, dChain, dRaise, dDrop, dAsg, dgName, dPar, dTup, dLst, startD, c1D, c2D, iiD, ltD, ixG, ixD, sqD, atI_0, atI_1, dget_tup, dget_lst, iOf, h0] using R
    · rw [if_neg (by simp [dSeq, dRet, dNext, dIf, dAnd, dOr, dNot, dIfE, dApp, dCons, dNil, dVar, dC, dBin, dUn, dCall, dChain, dRaise, dDrop, dAsg, dgName, dPar, dTup, dLst, startD, c1D, c2D, iiD, ltD, ixG, ixD, sqD, atI_0, atI_1, dget_tup, dget_lst])]; exact k
end
end Law
namespace Law
open PySem PySem.Spec PyProof.Rows L2 LamX TL
section
variable {c : Wc} {K : DEnds} {x : XD} {σ : Std} {M : Sto} {n : Nat}
/-- equal plain things are not unlike -/
theorem neD_self {d : D} {q : QD} (h : eqOk d) (hq : q (.bl false) M) : neD d d M q := by
  refine neD_pln h h ?_
  rw [eqv_refl _ (pdv_noDict d)]
  exact hq
theorem range_lc {v : Nat} {f : Nat → Int} {σ : Std} {j : Nat} {te : TED} {M : Sto} {q : QD} {x : XD} {i : Nat} (h3 : σ[i]? = some (some (.int v))) (hv : v ≤ 1000) (hq : q (.lst (((List.range v).map f).map .int)) M)
    (hstep : ∀ (k : Nat) (q : QD), k < v → q (.int (f k)) M → te ((wipeD σ [j]).set j (some (.int (k : Int)))) M q fun c ds _ M => x c ds σ M) : dLc false [j] (dRg1 (dVar i)) (dgName j) (dC (.bl true)) te σ M q x := by
  refine ⟨_, h3, v, rfl, by omega, ?_⟩
  refine wLc_pure (fun d => .int (f (iOf d).toNat)) trivial (rgD 0 v) [] (by rw [rgD_len]; have := small_sz (n := v) (by omega); simp only [List.length_nil, Nat.zero_add]; exact this) ?_ fun d hd q hq => ?_
  · simp only [mkL, Bool.false_eq_true, if_false, List.nil_append]
    have e : (rgD 0 v).map (fun d => D.int (f (iOf d).toNat)) = ((List.range v).map f).map .int := by
      simp only [rgD_map, List.map_map]
      refine List.map_congr_left fun i _ => ?_
      simp [dSeq, dRet, dNext, dIf, dAnd, dOr, dNot, dIfE, dApp, dCons, dNil, dVar, dC, dBin, dUn, dCall, dChain, dRaise, dDrop, dAsg, dgName, dPar, dTup, dLst, startD, c1D, c2D, iiD, ltD, ixG, ixD, sqD, atI_0, atI_1, dget_tup, dget_lst, iOf]
    rw [e]
    exact hq
  · obtain ⟨k, hk, rfl⟩ := rgD_mem hd
    have := hstep k q hk (by simpa [dSeq, dRet, dNext, dIf, dAnd, dOr, dNot, dIfE, dApp, dCons, dNil, dVar, dC, dBin, dUn, dCall, dChain, dRaise, dDrop, dAsg, dgName, dPar, dTup, dLst, startD, c1D, c2D, iiD, ltD, ixG, ixD, sqD, atI_0, atI_1, dget_tup, dget_lst, iOf] using hq)
    simpa [dSeq, dRet, dNext, dIf, dAnd, dOr, dNot, dIfE, dApp, dCons, dNil, dVar, dC, dBin, dUn, dCall, dChain, dRaise, dDrop, dAsg, dgName, dPar, dTup, dLst, startD, c1D, c2D, iiD, ltD, ixG, ixD, sqD, atI_0, atI_1, dget_tup, dget_lst, dgName] using this
theorem rows_lc {rows : List (List Int)} {σ : Std} {k : Nat} {M : Sto} {q : QD} {x : XD} {i j v : Nat} (hk : k < v) (hr : ∀ e ∈ rows, e.length = v) (h14 : σ[i]? = some (some (.lst (rows.map rowD)))) (h5 : 5 < σ.length) (hj : j ≠ 5) (hj2 : σ[j]? = some (some (.int k))) (hl : rows.length ≤ 1000) (hq : q (.lst ((rows.map fun e => e.getD k 0).map .int)) M) :
    dLc false [5] (dSeqI (dVar i)) (dgName 5) (dC (.bl true)) (dBin ixG (dVar 5) (dVar j)) σ M q x := by
  refine ⟨_, h14, ?_⟩
  refine wLc_pure (fun d => .int ((rowI d).getD k 0)) trivial (rows.map rowD) [] (by simp [dSeq, dRet, dNext, dIf, dAnd, dOr, dNot, dIfE, dApp, dCons, dNil, dVar, dC, dBin, dUn, dCall, dChain, dRaise, dDrop, dAsg, dgName, dPar, dTup, dLst, startD, c1D, c2D, iiD, ltD, ixG, ixD, sqD, atI_0, atI_1, dget_tup, dget_lst]; exact small_sz (by omega)) ?_ fun d hd q hq => ?_
  · simp only [mkL, Bool.false_eq_true, if_false, List.nil_append, List.map_map]
    simp only [List.map_map] at hq
    have e : (fun d => D.int ((rowI d).getD k 0)) ∘ rowD = D.int ∘ fun e : List Int => e.getD k 0 := by
      funext e
      simp [dSeq, dRet, dNext, dIf, dAnd, dOr, dNot, dIfE, dApp, dCons, dNil, dVar, dC, dBin, dUn, dCall, dChain, dRaise, dDrop, dAsg, dgName, dPar, dTup, dLst, startD, c1D, c2D, iiD, ltD, ixG, ixD, sqD, atI_0, atI_1, dget_tup, dget_lst, rowI_rowD]
    rw [e]
    exact hq
  · obtain ⟨e, he, rfl⟩ := List.mem_map.mp hd
    have hl := hr e he
    refine ⟨rowD e, by simp [dSeq, dRet, dNext, dIf, dAnd, dOr, dNot, dIfE, dApp, dCons, dNil, dVar, dC, dBin, dUn, dCall, dChain, dRaise, dDrop, dAsg, dgName, dPar, dTup, dLst, startD, c1D, c2D, iiD, ltD, ixG, ixD, sqD, atI_0, atI_1, dget_tup, dget_lst, wipeD, h5], .int k, by simp [dSeq, dRet, dNext, dIf, dAnd, dOr, dNot, dIfE, dApp, dCons, dNil, dVar, dC, dBin, dUn, dCall, dChain, dRaise, dDrop, dAsg, dgName, dPar, dTup, dLst, startD, c1D, c2D, iiD, ltD, ixG, ixD, sqD, atI_0, atI_1, dget_tup, dget_lst, wipeD, Ne.symm hj, hj2], .inl ⟨_, _, rfl, ?_, hq⟩⟩
    refine atI_nat ?_
    simp [dSeq, dRet, dNext, dIf, dAnd, dOr, dNot, dIfE, dApp, dCons, dNil, dVar, dC, dBin, dUn, dCall, dChain, dRaise, dDrop, dAsg, dgName, dPar, dTup, dLst, startD, c1D, c2D, iiD, ltD, ixG, ixD, sqD, atI_0, atI_1, dget_tup, dget_lst, rowI_rowD, List.getElem?_eq_getElem (show k < e.length by omega)]
theorem L202 {v : Int} {ts : List (List Int × Int)} (hl : σ.length = 18) (h3 : σ[3]? = some (some (.int v))) (h4 : σ[4]? = some (some (smD ts))) (v1 : 1 ≤ v) (v2 : v ≤ 5) (O : OneOk v.toNat ts) (k : ∀ σ', fw [14] σ σ' → K.nx σ' M) : st_law_202 c K x σ M := by
  have lts := O.len
  have es : eqOk (smD ts) := eqOk_sm (small_sz (by omega)) fun t ht => small_sz (by have := (O.row t ht).1; omega)
  have e0 : eqOk (D.tup []) := eqOk_row (e := []) (by simp [dSeq, dRet, dNext, dIf, dAnd, dOr, dNot, dIfE, dApp, dCons, dNil, dVar, dC, dBin, dUn, dCall, dChain, dRaise, dDrop, dAsg, dgName, dPar, dTup, dLst, startD, c1D, c2D, iiD, ltD, ixG, ixD, sqD, atI_0, atI_1, dget_tup, dget_lst])
  rw [st_law_202]
  refine ⟨_, h4, small_sz (by simp [dSeq, dRet, dNext, dIf, dAnd, dOr, dNot, dIfE, dApp, dCons, dNil, dVar, dC, dBin, dUn, dCall, dChain, dRaise, dDrop, dAsg, dgName, dPar, dTup, dLst, startD, c1D, c2D, iiD, ltD, ixG, ixD, sqD, atI_0, atI_1, dget_tup, dget_lst]), neD_pln es e0 ⟨_, rfl, ?_⟩⟩
  rw [eqv_nil]
  by_cases hne : ts = []
  · subst hne
    rw [if_neg (by simp [dSeq, dRet, dNext, dIf, dAnd, dOr, dNot, dIfE, dApp, dCons, dNil, dVar, dC, dBin, dUn, dCall, dChain, dRaise, dDrop, dAsg, dgName, dPar, dTup, dLst, startD, c1D, c2D, iiD, ltD, ixG, ixD, sqD, atI_0, atI_1, dget_tup, dget_lst])]
    exact k _ ⟨rfl, fun _ _ => rfl⟩
  rw [if_pos (by cases ts <;> simp_all [dSeq, dRet, dNext, dIf, dAnd, dOr, dNot, dIfE, dApp, dCons, dNil, dVar, dC, dBin, dUn, dCall, dChain, dRaise, dDrop, dAsg, dgName, dPar, dTup, dLst, startD, c1D, c2D, iiD, ltD, ixG, ixD, sqD, atI_0, atI_1, dget_tup, dget_lst])]
  have hsum : isSome' v (smD ts) = true := by
    rw [isSome', O.sum v1]
    cases ts <;> simp_all [dSeq, dRet, dNext, dIf, dAnd, dOr, dNot, dIfE, dApp, dCons, dNil, dVar, dC, dBin, dUn, dCall, dChain, dRaise, dDrop, dAsg, dgName, dPar, dTup, dLst, startD, c1D, c2D, iiD, ltD, ixG, ixD, sqD, atI_0, atI_1, dget_tup, dget_lst, smD, tpl]
  have hp := O.pln (by omega)
  have hv : ((v.toNat : Nat) : Int) = v := by omega
  refine ⟨_, h4, ?_⟩
  refine wLc_pure rowOf trivial (ts.map trm) [] (by simp [dSeq, dRet, dNext, dIf, dAnd, dOr, dNot, dIfE, dApp, dCons, dNil, dVar, dC, dBin, dUn, dCall, dChain, dRaise, dDrop, dAsg, dgName, dPar, dTup, dLst, startD, c1D, c2D, iiD, ltD, ixG, ixD, sqD, atI_0, atI_1, dget_tup, dget_lst]; exact small_sz (by omega)) ?_ fun d hd q hq => ?_
  · simp only [mkL, Bool.false_eq_true, if_false, List.nil_append, List.map_map]
    have er : (rowOf ∘ trm) = (rowD ∘ fun t : List Int × Int => t.1) := by funext t; simp [dSeq, dRet, dNext, dIf, dAnd, dOr, dNot, dIfE, dApp, dCons, dNil, dVar, dC, dBin, dUn, dCall, dChain, dRaise, dDrop, dAsg, dgName, dPar, dTup, dLst, startD, c1D, c2D, iiD, ltD, ixG, ixD, sqD, atI_0, atI_1, dget_tup, dget_lst, trm, rowOf]
    rw [er, ← List.map_map (g := rowD)]
    have g3 : (σ.set 14 (some (.lst ((ts.map (·.1)).map rowD))))[3]? = some (some (.int v)) := by simp [dSeq, dRet, dNext, dIf, dAnd, dOr, dNot, dIfE, dApp, dCons, dNil, dVar, dC, dBin, dUn, dCall, dChain, dRaise, dDrop, dAsg, dgName, dPar, dTup, dLst, startD, c1D, c2D, iiD, ltD, ixG, ixD, sqD, atI_0, atI_1, dget_tup, dget_lst, h3]
    have g4 : (σ.set 14 (some (.lst ((ts.map (·.1)).map rowD))))[4]? = some (some (smD ts)) := by simp [dSeq, dRet, dNext, dIf, dAnd, dOr, dNot, dIfE, dApp, dCons, dNil, dVar, dC, dBin, dUn, dCall, dChain, dRaise, dDrop, dAsg, dgName, dPar, dTup, dLst, startD, c1D, c2D, iiD, ltD, ixG, ixD, sqD, atI_0, atI_1, dget_tup, dget_lst, h4]
    refine ⟨_, g3, _, g4, by omega, by omega, hp, ?_⟩
    rw [if_pos hsum]
    rintro us hus
    obtain rfl := smD_inj hus
    refine range_lc (v := v.toNat) (f := fun k => minL (ts.map fun t => t.1.getD k 0)) (by rw [hv]; exact g3) (by omega) ?_ fun k q hk hq => ?_
    · refine ⟨_, rfl, ?_⟩
      refine neD_self (d := rowD (leastR ts v.toNat)) (eqOk_row (e := leastR ts v.toNat) (by rw [leastR, List.length_map, List.length_range]; exact small_sz (by omega))) ⟨_, rfl, ?_⟩
      rw [if_neg (by simp [dSeq, dRet, dNext, dIf, dAnd, dOr, dNot, dIfE, dApp, dCons, dNil, dVar, dC, dBin, dUn, dCall, dChain, dRaise, dDrop, dAsg, dgName, dPar, dTup, dLst, startD, c1D, c2D, iiD, ltD, ixG, ixD, sqD, atI_0, atI_1, dget_tup, dget_lst])]
      refine ⟨_, g3, _, g4, by omega, by omega, hp, ?_⟩
      rw [if_pos hsum]
      rintro us hus
      obtain rfl := smD_inj hus
      refine range_lc (v := v.toNat) (f := fun k => maxL (ts.map fun t => t.1.getD k 0)) (by rw [hv]; exact g3) (by omega) ?_ fun k q hk hq => ?_
      · refine ⟨_, rfl, ?_⟩
        refine neD_self (d := rowD (greatR ts v.toNat)) (eqOk_row (e := greatR ts v.toNat) (by rw [greatR, List.length_map, List.length_range]; exact small_sz (by omega))) ⟨_, rfl, ?_⟩
        rw [if_neg (by simp [dSeq, dRet, dNext, dIf, dAnd, dOr, dNot, dIfE, dApp, dCons, dNil, dVar, dC, dBin, dUn, dCall, dChain, dRaise, dDrop, dAsg, dgName, dPar, dTup, dLst, startD, c1D, c2D, iiD, ltD, ixG, ixD, sqD, atI_0, atI_1, dget_tup, dget_lst])]
        exact k _ ⟨by simp [dSeq, dRet, dNext, dIf, dAnd, dOr, dNot, dIfE, dApp, dCons, dNil, dVar, dC, dBin, dUn, dCall, dChain, dRaise, dDrop, dAsg, dgName, dPar, dTup, dLst, startD, c1D, c2D, iiD, ltD, ixG, ixD, sqD, atI_0, atI_1, dget_tup, dget_lst], fun i hi => by rw [List.getElem?_set_ne (by simp [dSeq, dRet, dNext, dIf, dAnd, dOr, dNot, dIfE, dApp, dCons, dNil, dVar, dC, dBin, dUn, dCall, dChain, dRaise, dDrop, dAsg, dgName, dPar, dTup, dLst, startD, c1D, c2D, iiD, ltD, ixG, ixD, sqD, atI_0, atI_1, dget_tup, dget_lst] at hi; omega)]⟩
      · simp only [dApp, dCons, dNil]
        refine rows_lc (i := 14) (j := 15) (rows := ts.map (·.1)) (v := v.toNat) hk (fun e he => by obtain ⟨t, ht, rfl⟩ := List.mem_map.mp he; exact (O.row t ht).1) (by simp [dSeq, dRet, dNext, dIf, dAnd, dOr, dNot, dIfE, dApp, dCons, dNil, dVar, dC, dBin, dUn, dCall, dChain, dRaise, dDrop, dAsg, dgName, dPar, dTup, dLst, startD, c1D, c2D, iiD, ltD, ixG, ixD, sqD, atI_0, atI_1, dget_tup, dget_lst, wipeD, hl]) (by simp [dSeq, dRet, dNext, dIf, dAnd, dOr, dNot, dIfE, dApp, dCons, dNil, dVar, dC, dBin, dUn, dCall, dChain, dRaise, dDrop, dAsg, dgName, dPar, dTup, dLst, startD, c1D, c2D, iiD, ltD, ixG, ixD, sqD, atI_0, atI_1, dget_tup, dget_lst, wipeD, hl]) (by decide) (by simp [dSeq, dRet, dNext, dIf, dAnd, dOr, dNot, dIfE, dApp, dCons, dNil, dVar, dC, dBin, dUn, dCall, dChain, dRaise, dDrop, dAsg, dgName, dPar, dTup, dLst, startD, c1D, c2D, iiD, ltD, ixG, ixD, sqD, atI_0, atI_1, dget_tup, dget_lst, wipeD, hl]) (by simp [dSeq, dRet, dNext, dIf, dAnd, dOr, dNot, dIfE, dApp, dCons, dNil, dVar, dC, dBin, dUn, dCall, dChain, dRaise, dDrop, dAsg, dgName, dPar, dTup, dLst, startD, c1D, c2D, iiD, ltD, ixG, ixD, sqD, atI_0, atI_1, dget_tup, dget_lst]; omega) ?_
        refine .inl ⟨(ts.map (·.1)).map fun e => e.getD k 0, rfl, by simp [dSeq, dRet, dNext, dIf, dAnd, dOr, dNot, dIfE, dApp, dCons, dNil, dVar, dC, dBin, dUn, dCall, dChain, dRaise, dDrop, dAsg, dgName, dPar, dTup, dLst, startD, c1D, c2D, iiD, ltD, ixG, ixD, sqD, atI_0, atI_1, dget_tup, dget_lst]; cases ts <;> simp_all [dSeq, dRet, dNext, dIf, dAnd, dOr, dNot, dIfE, dApp, dCons, dNil, dVar, dC, dBin, dUn, dCall, dChain, dRaise, dDrop, dAsg, dgName, dPar, dTup, dLst, startD, c1D, c2D, iiD, ltD, ixG, ixD, sqD, atI_0, atI_1, dget_tup, dget_lst], fun m hm hle => ?_⟩
        rw [maxL_of hm hle]
        simpa [dSeq, dRet, dNext, dIf, dAnd, dOr, dNot, dIfE, dApp, dCons, dNil, dVar, dC, dBin, dUn, dCall, dChain, dRaise, dDrop, dAsg, dgName, dPar, dTup, dLst, startD, c1D, c2D, iiD, ltD, ixG, ixD, sqD, atI_0, atI_1, dget_tup, dget_lst, Function.comp_def] using hq
    · simp only [dApp, dCons, dNil]
      refine rows_lc (i := 14) (j := 15) (rows := ts.map (·.1)) (v := v.toNat) hk (fun e he => by obtain ⟨t, ht, rfl⟩ := List.mem_map.mp he; exact (O.row t ht).1) (by simp [dSeq, dRet, dNext, dIf, dAnd, dOr, dNot, dIfE, dApp, dCons, dNil, dVar, dC, dBin, dUn, dCall, dChain, dRaise, dDrop, dAsg, dgName, dPar, dTup, dLst, startD, c1D, c2D, iiD, ltD, ixG, ixD, sqD, atI_0, atI_1, dget_tup, dget_lst, wipeD, hl]) (by simp [dSeq, dRet, dNext, dIf, dAnd, dOr, dNot, dIfE, dApp, dCons, dNil, dVar, dC, dBin, dUn, dCall, dChain, dRaise, dDrop, dAsg, dgName, dPar, dTup, dLst, startD, c1D, c2D, iiD, ltD, ixG, ixD, sqD, atI_0, atI_1, dget_tup, dget_lst, wipeD, hl]) (by decide) (by simp [dSeq, dRet, dNext, dIf, dAnd, dOr, dNot, dIfE, dApp, dCons, dNil, dVar, dC, dBin, dUn, dCall, dChain, dRaise, dDrop, dAsg, dgName, dPar, dTup, dLst, startD, c1D, c2D, iiD, ltD, ixG, ixD, sqD, atI_0, atI_1, dget_tup, dget_lst, wipeD, hl]) (by simp [dSeq, dRet, dNext, dIf, dAnd, dOr, dNot, dIfE, dApp, dCons, dNil, dVar, dC, dBin, dUn, dCall, dChain, dRaise, dDrop, dAsg, dgName, dPar, dTup, dLst, startD, c1D, c2D, iiD, ltD, ixG, ixD, sqD, atI_0, atI_1, dget_tup, dget_lst]; omega) ?_
      refine .inl ⟨(ts.map (·.1)).map fun e => e.getD k 0, rfl, by simp [dSeq, dRet, dNext, dIf, dAnd, dOr, dNot, dIfE, dApp, dCons, dNil, dVar, dC, dBin, dUn, dCall, dChain, dRaise, dDrop, dAsg, dgName, dPar, dTup, dLst, startD, c1D, c2D, iiD, ltD, ixG, ixD, sqD, atI_0, atI_1, dget_tup, dget_lst]; cases ts <;> simp_all [dSeq, dRet, dNext, dIf, dAnd, dOr, dNot, dIfE, dApp, dCons, dNil, dVar, dC, dBin, dUn, dCall, dChain, dRaise, dDrop, dAsg, dgName, dPar, dTup, dLst, startD, c1D, c2D, iiD, ltD, ixG, ixD, sqD, atI_0, atI_1, dget_tup, dget_lst], fun m hm hle => ?_⟩
      rw [minL_of hm hle]
      simpa [dSeq, dRet, dNext, dIf, dAnd, dOr, dNot, dIfE, dApp, dCons, dNil, dVar, dC, dBin, dUn, dCall, dChain, dRaise, dDrop, dAsg, dgName, dPar, dTup, dLst, startD, c1D, c2D, iiD, ltD, ixG, ixD, sqD, atI_0, atI_1, dget_tup, dget_lst, Function.comp_def] using hq
  · obtain ⟨t, ht, rfl⟩ := List.mem_map.mp hd
    refine ⟨[rowD t.1, .int t.2], rfl, rfl, ?_⟩
    refine ⟨_, _, rfl, ?_⟩
    refine ⟨_, _, rfl, ?_⟩
    exact ⟨rfl, rowD t.1, by simp [dSeq, dRet, dNext, dIf, dAnd, dOr, dNot, dIfE, dApp, dCons, dNil, dVar, dC, dBin, dUn, dCall, dChain, dRaise, dDrop, dAsg, dgName, dPar, dTup, dLst, startD, c1D, c2D, iiD, ltD, ixG, ixD, sqD, atI_0, atI_1, dget_tup, dget_lst, wipeD, hl], hq⟩
end
end Law
namespace Law
open PySem PySem.Spec PyProof.Rows L2 LamX TL
section
variable {c : Wc} {K : DEnds} {x : XD} {σ : Std} {M : Sto} {n : Nat}
/-! the great sum -/
def grt (m : Nat) : List (List Int × Int) := (List.range m).map fun (k : Nat) => ([(k : Int)], 1)
theorem grt_len (m : Nat) : (grt m).length = m := by simp [dSeq, dRet, dNext, dIf, dAnd, dOr, dNot, dIfE, dApp, dCons, dNil, dVar, dC, dBin, dUn, dCall, dChain, dRaise, dDrop, dAsg, dgName, dPar, dTup, dLst, startD, c1D, c2D, iiD, ltD, ixG, ixD, sqD, atI_0, atI_1, dget_tup, dget_lst, grt]
theorem grt_row {m : Nat} (hm : m ≤ 2001) {t : List Int × Int} (h : t ∈ grt m) : t.1.length = 1 ∧ t.1.all small = true ∧ t.2 = 1 := by
  simp only [grt, List.mem_map, List.mem_range] at h
  obtain ⟨k, hk, rfl⟩ := h
  refine ⟨rfl, ?_, rfl⟩
  simp only [List.all_cons, List.all_nil, Bool.and_true, small, Bool.and_eq_true, decide_eq_true_eq]
  omega
theorem grt_asc (m : Nat) : Asc ((grt m).map (·.1)) := by
  simp only [Asc, grt, List.map_map]
  rw [List.pairwise_map]
  refine List.Pairwise.imp (R := (· < ·)) (fun {a b} h => ?_) List.pairwise_lt_range
  simp only [Function.comp_apply, HT.lexLt_cons]
  rw [if_neg (by omega)]
  exact decide_eq_true (by omega)
theorem grt_sum (m : Nat) (hm : m = 2000 ∨ m = 2001) : isSum 1 (smD (grt m)) = decide (m = 2000) := by
  rcases hm with rfl | rfl
  · rw [isSum_of (by rw [grt_len]; omega) (grt_asc _) fun t ht => ?_]
    · rfl
    · obtain ⟨a, b, d⟩ := grt_row (by omega) ht
      exact ⟨by omega, b, by omega, not_long (by rw [d]; decide) _⟩
  · simp only [smD, isSum, List.length_map, grt_len]; rfl
theorem grt_T (m : Nat) (hm : m ≤ 2001) {us : List (List Int × Int)} (hu : ∀ t ∈ us, t ∈ grt m) : (isT (D.tup (us.map trm)) && (tpl (D.tup (us.map trm))).all (isTerm 1)) = true := by
  rw [isT, Bool.true_and, tpl, List.all_map, List.all_eq_true]
  intro t ht
  obtain ⟨a, b, d⟩ := grt_row hm (hu t ht)
  exact isTerm_trm (by omega) b (not_long (by rw [d]; decide) _)
theorem grt_ok (m : Nat) (hm : m ≤ 2001) {t : List Int × Int} (ht : t ∈ grt m) : okT t := by
  obtain ⟨a, b, d⟩ := grt_row hm ht
  exact ⟨by omega, b, by rw [d]; decide⟩
theorem grt_pln (m : Nat) (hm : m ≤ 2001) {us : List (List Int × Int)} (hl : us.length ≤ 2001) (hu : ∀ t ∈ us, t ∈ grt m) : pln (smD us) = true := pln_sm (small_sz (by omega)) fun t ht => small_sz (by have := (grt_row hm (hu t ht)).1; omega)
theorem grt_eq (m : Nat) (hm : m ≤ 2001) : eqOk (smD (grt m)) := eqOk_sm (small_sz (by rw [grt_len]; omega)) fun t ht => small_sz (by have := (grt_row hm ht).1; omega)
theorem L206 (hl : σ.length = 18) (h1 : σ[1]? = some (some (.obj 1))) (I : Iv n M) (hn : n < 2 ^ 60) (k : ∀ (m : Nat) M', m = 2000 ∨ m = 2001 → Iv (n + 1) M' → K.nx (σ.set 16 (some (smD (grt m)))) M') : st_law_206 c K x σ M := by
  rw [st_law_206]
  refine ⟨_, h1, by omega, by omega, 0, n, I.d, by omega, fun r M' r0 r1 s dd => ?_⟩
  refine ⟨2000 + r, rfl, by omega, ?_⟩
  obtain ⟨m, hm, hm2⟩ : ∃ m : Nat, (2000 + r).toNat = m ∧ (m = 2000 ∨ m = 2001) := ⟨_, rfl, by omega⟩
  rw [hm]
  refine wLc_pure (fun d => .tup [.tup [d], .int 1]) trivial (rgD 0 m) [] (by rw [rgD_len]; exact small_sz (by simp [dSeq, dRet, dNext, dIf, dAnd, dOr, dNot, dIfE, dApp, dCons, dNil, dVar, dC, dBin, dUn, dCall, dChain, dRaise, dDrop, dAsg, dgName, dPar, dTup, dLst, startD, c1D, c2D, iiD, ltD, ixG, ixD, sqD, atI_0, atI_1, dget_tup, dget_lst]; omega)) ?_ fun d hd q hq => ?_
  · refine ⟨_, rfl, ?_⟩
    have e : ([] : List D) ++ (rgD 0 m).map (fun d => D.tup [.tup [d], .int 1]) = (grt m).map trm := by
      simp only [rgD_map, grt, List.map_map, List.nil_append]
      refine List.map_congr_left fun i _ => ?_
      simp [dSeq, dRet, dNext, dIf, dAnd, dOr, dNot, dIfE, dApp, dCons, dNil, dVar, dC, dBin, dUn, dCall, dChain, dRaise, dDrop, dAsg, dgName, dPar, dTup, dLst, startD, c1D, c2D, iiD, ltD, ixG, ixD, sqD, atI_0, atI_1, dget_tup, dget_lst, trm, rowD]
    rw [e]
    exact k m M' hm2 (I.next s dd)
  · refine ⟨d, by simp [dSeq, dRet, dNext, dIf, dAnd, dOr, dNot, dIfE, dApp, dCons, dNil, dVar, dC, dBin, dUn, dCall, dChain, dRaise, dDrop, dAsg, dgName, dPar, dTup, dLst, startD, c1D, c2D, iiD, ltD, ixG, ixD, sqD, atI_0, atI_1, dget_tup, dget_lst, wipeD, hl], small_sz (by simp [dSeq, dRet, dNext, dIf, dAnd, dOr, dNot, dIfE, dApp, dCons, dNil, dVar, dC, dBin, dUn, dCall, dChain, dRaise, dDrop, dAsg, dgName, dPar, dTup, dLst, startD, c1D, c2D, iiD, ltD, ixG, ixD, sqD, atI_0, atI_1, dget_tup, dget_lst]), small_sz (by simp [dSeq, dRet, dNext, dIf, dAnd, dOr, dNot, dIfE, dApp, dCons, dNil, dVar, dC, dBin, dUn, dCall, dChain, dRaise, dDrop, dAsg, dgName, dPar, dTup, dLst, startD, c1D, c2D, iiD, ltD, ixG, ixD, sqD, atI_0, atI_1, dget_tup, dget_lst]), hq⟩
theorem L207 {m : Nat} (h16 : σ[16]? = some (some (smD (grt m)))) (hm : m = 2000 ∨ m = 2001) (k : K.nx σ M) : st_law_207 c K x σ M := by
  rw [st_law_207]
  have hl := grt_len m
  refine ⟨_, h16, rfl, grt_pln m (by omega) (by omega) (fun _ h => h), ?_⟩
  rw [if_pos (by decide)]
  refine ⟨_, h16, ?_⟩
  refine ⟨_, rfl, _, rfl, ?_⟩
  have e : (isSum (iOf (.int 1)) (smD (grt m)) == ((((grt m).map trm).length : Int) == (2000 : Int))) = true := by
    rw [show iOf (.int 1) = 1 from rfl, grt_sum m hm, List.length_map, hl]
    rcases hm with rfl | rfl <;> rfl
  rw [if_neg (by rw [e]; simp [dSeq, dRet, dNext, dIf, dAnd, dOr, dNot, dIfE, dApp, dCons, dNil, dVar, dC, dBin, dUn, dCall, dChain, dRaise, dDrop, dAsg, dgName, dPar, dTup, dLst, startD, c1D, c2D, iiD, ltD, ixG, ixD, sqD, atI_0, atI_1, dget_tup, dget_lst])]
  exact k
theorem L209 {m : Nat} (h16 : σ[16]? = some (some (smD (grt m)))) (hm : m = 2000 ∨ m = 2001) (b : D.bdL M.length M = true) (k : K.nx σ M) : st_law_209 c K x σ M := by
  have hl := grt_len m
  have hll : ((grt m).map trm).length = m := by rw [List.length_map, hl]
  have R : ReprOk (.int 2000) := reprOk_int (k := 20) (by decide) (by decide) (by decide)
  rw [st_law_209]
  refine ⟨_, h16, trivial, _, rfl, ?_⟩
  rw [hll]
  rcases hm with rfl | rfl
  · rw [if_neg (by decide)]
    refine ⟨_, rfl, ?_⟩
    rw [if_neg (by decide)]
    refine ⟨_, h16, _, rfl, ?_⟩
    rw [hll, if_pos (by decide)]
    have hr : ∀ t ∈ (grt 2000).reverse, t ∈ grt 2000 := fun t h => List.mem_reverse.mp h
    have s := sumP_of (ts := grt 2000) (us := (grt 2000).reverse) (grt_asc _) (List.reverse_perm _).symm fun t ht => by rw [(grt_row (by omega) ht).2.2]; decide
    have er : ((grt 2000).map trm).reverse = ((grt 2000).reverse).map trm := by rw [List.map_reverse]
    refine ⟨_, h16, .inl ⟨_, rfl, ?_⟩⟩
    rw [er]
    refine ⟨by omega, by omega, grt_pln 2000 (by omega) (by simp [dSeq, dRet, dNext, dIf, dAnd, dOr, dNot, dIfE, dApp, dCons, dNil, dVar, dC, dBin, dUn, dCall, dChain, dRaise, dDrop, dAsg, dgName, dPar, dTup, dLst, startD, c1D, c2D, iiD, ltD, ixG, ixD, sqD, atI_0, atI_1, dget_tup, dget_lst, grt_len]) hr, ?_⟩
    rw [if_pos (grt_T 2000 (by omega) hr)]
    refine ⟨_, rfl, by simp [dSeq, dRet, dNext, dIf, dAnd, dOr, dNot, dIfE, dApp, dCons, dNil, dVar, dC, dBin, dUn, dCall, dChain, dRaise, dDrop, dAsg, dgName, dPar, dTup, dLst, startD, c1D, c2D, iiD, ltD, ixG, ixD, sqD, atI_0, atI_1, dget_tup, dget_lst, grt_len], fun t ht => ?_, ?_⟩
    · rw [s] at ht; exact grt_ok 2000 (by omega) ht
    · rw [s, if_neg (by rw [grt_len]; omega)]
      refine ⟨_, h16, neD_self (grt_eq 2000 (by omega)) ⟨_, rfl, ?_⟩⟩
      rw [if_neg (by simp [dSeq, dRet, dNext, dIf, dAnd, dOr, dNot, dIfE, dApp, dCons, dNil, dVar, dC, dBin, dUn, dCall, dChain, dRaise, dDrop, dAsg, dgName, dPar, dTup, dLst, startD, c1D, c2D, iiD, ltD, ixG, ixD, sqD, atI_0, atI_1, dget_tup, dget_lst])]
      exact k
  · rw [if_pos (by decide)]
    have s := sumP_of (ts := grt 2001) (us := grt 2001) (grt_asc _) (.refl _) fun t ht => by rw [(grt_row (by omega) ht).2.2]; decide
    refine ⟨R, _, h16, by omega, by omega, grt_pln 2001 (by omega) (by simp [dSeq, dRet, dNext, dIf, dAnd, dOr, dNot, dIfE, dApp, dCons, dNil, dVar, dC, dBin, dUn, dCall, dChain, dRaise, dDrop, dAsg, dgName, dPar, dTup, dLst, startD, c1D, c2D, iiD, ltD, ixG, ixD, sqD, atI_0, atI_1, dget_tup, dget_lst, grt_len]) (fun _ h => h), ?_⟩
    rw [if_pos (show (isT (smD (grt 2001)) && (tpl (smD (grt 2001))).all (isTerm 1)) = true from grt_T 2001 (by omega) fun _ h => h)]
    refine ⟨grt 2001, rfl, by simp [dSeq, dRet, dNext, dIf, dAnd, dOr, dNot, dIfE, dApp, dCons, dNil, dVar, dC, dBin, dUn, dCall, dChain, dRaise, dDrop, dAsg, dgName, dPar, dTup, dLst, startD, c1D, c2D, iiD, ltD, ixG, ixD, sqD, atI_0, atI_1, dget_tup, dget_lst, grt_len], fun t ht => ?_, ?_⟩
    · rw [s] at ht; exact grt_ok 2001 (by omega) ht
    · rw [s, if_pos (by rw [grt_len]; omega)]
      refine ⟨rfl, rfl, Nat.le_refl _, b, _, rfl, _, rfl, ?_⟩
      rw [if_neg (by simp [dSeq, dRet, dNext, dIf, dAnd, dOr, dNot, dIfE, dApp, dCons, dNil, dVar, dC, dBin, dUn, dCall, dChain, dRaise, dDrop, dAsg, dgName, dPar, dTup, dLst, startD, c1D, c2D, iiD, ltD, ixG, ixD, sqD, atI_0, atI_1, dget_tup, dget_lst])]
      refine ⟨_, h16, _, rfl, ?_⟩
      rw [hll, if_neg (by decide)]
      refine ⟨_, rfl, ?_⟩
      rw [if_neg (by simp [dSeq, dRet, dNext, dIf, dAnd, dOr, dNot, dIfE, dApp, dCons, dNil, dVar, dC, dBin, dUn, dCall, dChain, dRaise, dDrop, dAsg, dgName, dPar, dTup, dLst, startD, c1D, c2D, iiD, ltD, ixG, ixD, sqD, atI_0, atI_1, dget_tup, dget_lst])]
      exact k
/-! the errors -/
theorem L211 (h1 : σ[1]? = some (some (.obj 1))) (I : Iv n M) (hn : n < 2 ^ 60) (k : ∀ d M', pln d = true → btw d 1 16 = false → Iv (n + 1) M' → K.nx (σ.set 17 (some d)) M') : st_law_211 c K x σ M := by
  rw [st_law_211]
  refine ⟨_, h1, small_sz (by simp [dSeq, dRet, dNext, dIf, dAnd, dOr, dNot, dIfE, dApp, dCons, dNil, dVar, dC, dBin, dUn, dCall, dChain, dRaise, dDrop, dAsg, dgName, dPar, dTup, dLst, startD, c1D, c2D, iiD, ltD, ixG, ixD, sqD, atI_0, atI_1, dget_tup, dget_lst]), by simp [dSeq, dRet, dNext, dIf, dAnd, dOr, dNot, dIfE, dApp, dCons, dNil, dVar, dC, dBin, dUn, dCall, dChain, dRaise, dDrop, dAsg, dgName, dPar, dTup, dLst, startD, c1D, c2D, iiD, ltD, ixG, ixD, sqD, atI_0, atI_1, dget_tup, dget_lst], by simp [dSeq, dRet, dNext, dIf, dAnd, dOr, dNot, dIfE, dApp, dCons, dNil, dVar, dC, dBin, dUn, dCall, dChain, dRaise, dDrop, dAsg, dgName, dPar, dTup, dLst, startD, c1D, c2D, iiD, ltD, ixG, ixD, sqD, atI_0, atI_1, dget_tup, dget_lst], 0, n, I.d, by omega, fun d M' hd s D => ?_⟩
  have I' := I.next s D
  simp only [List.mem_cons, List.not_mem_nil, or_false] at hd
  rcases hd with rfl | rfl | rfl | rfl | rfl <;> exact k _ _ rfl rfl I'
theorem rV (s : Str) (h : (s.cps.toList.all fun c => decide (c < 16 ^ 8)) = true := by decide +kernel) (h2 : s.cps.size ≤ 90 := by decide +kernel) : ReprOk (.str s) := reprOk_str s (by
  have := PyData.shown_le_bulk 8 (by omega) (.str s) (by simpa only [PyData.leavesShort] using h)
  simp only [PyData.bulk] at this
  omega)
theorem L212 {d : D} (h17 : σ[17]? = some (some d)) (hp : pln d = true) (hb : btw d 1 16 = false) (b : D.bdL M.length M = true) (k : K.nx σ M) : st_law_212 c K x σ M := by
  rw [st_law_212]
  refine ⟨rV "v", _, h17, hp, rfl, ?_⟩
  rw [if_neg (by rw [hb]; decide)]
  refine ⟨rfl, rfl, Nat.le_refl _, b, _, rfl, _, rfl, ?_⟩
  rw [if_neg (by simp [dSeq, dRet, dNext, dIf, dAnd, dOr, dNot, dIfE, dApp, dCons, dNil, dVar, dC, dBin, dUn, dCall, dChain, dRaise, dDrop, dAsg, dgName, dPar, dTup, dLst, startD, c1D, c2D, iiD, ltD, ixG, ixD, sqD, atI_0, atI_1, dget_tup, dget_lst])]
  exact k
theorem L214 (h1 : σ[1]? = some (some (.obj 1))) (I : Iv n M) (hn : n < 2 ^ 60) (k : ∀ M', Iv (n + 1) M' → K.nx σ M') : st_law_214 c K x σ M := by
  rw [st_law_214]
  refine ⟨rV "k", _, h1, small_sz (by simp [dSeq, dRet, dNext, dIf, dAnd, dOr, dNot, dIfE, dApp, dCons, dNil, dVar, dC, dBin, dUn, dCall, dChain, dRaise, dDrop, dAsg, dgName, dPar, dTup, dLst, startD, c1D, c2D, iiD, ltD, ixG, ixD, sqD, atI_0, atI_1, dget_tup, dget_lst]), by simp [dSeq, dRet, dNext, dIf, dAnd, dOr, dNot, dIfE, dApp, dCons, dNil, dVar, dC, dBin, dUn, dCall, dChain, dRaise, dDrop, dAsg, dgName, dPar, dTup, dLst, startD, c1D, c2D, iiD, ltD, ixG, ixD, sqD, atI_0, atI_1, dget_tup, dget_lst], by simp [dSeq, dRet, dNext, dIf, dAnd, dOr, dNot, dIfE, dApp, dCons, dNil, dVar, dC, dBin, dUn, dCall, dChain, dRaise, dDrop, dAsg, dgName, dPar, dTup, dLst, startD, c1D, c2D, iiD, ltD, ixG, ixD, sqD, atI_0, atI_1, dget_tup, dget_lst], 0, n, I.d, by omega, fun d M' hd s D => ?_⟩
  have I' := I.next s D
  have hd2 : pln d = true ∧ btw d 1 2 = false := by
    simp only [List.mem_cons, List.not_mem_nil, or_false] at hd
    rcases hd with rfl | rfl | rfl | rfl <;> exact ⟨rfl, rfl⟩
  refine ⟨by omega, by omega, hd2.1, ?_⟩
  rw [if_neg (by rw [hd2.2]; decide)]
  refine ⟨rfl, rfl, by have := s.1; omega, I'.b, _, rfl, _, rfl, ?_⟩
  rw [if_neg (by simp [dSeq, dRet, dNext, dIf, dAnd, dOr, dNot, dIfE, dApp, dCons, dNil, dVar, dC, dBin, dUn, dCall, dChain, dRaise, dDrop, dAsg, dgName, dPar, dTup, dLst, startD, c1D, c2D, iiD, ltD, ixG, ixD, sqD, atI_0, atI_1, dget_tup, dget_lst])]
  exact k _ I'
theorem L216 (h1 : σ[1]? = some (some (.obj 1))) (I : Iv n M) (hn : n < 2 ^ 60) (k : ∀ M', Iv (n + 1) M' → K.nx σ M') : st_law_216 c K x σ M := by
  rw [st_law_216]
  have z : ∀ {n : Nat}, n ≤ 5 → n ≤ sizeLine := fun h => small_sz (by omega)
  refine ⟨rV "pairs", _, h1, z (by simp [dSeq, dRet, dNext, dIf, dAnd, dOr, dNot, dIfE, dApp, dCons, dNil, dVar, dC, dBin, dUn, dCall, dChain, dRaise, dDrop, dAsg, dgName, dPar, dTup, dLst, startD, c1D, c2D, iiD, ltD, ixG, ixD, sqD, atI_0, atI_1, dget_tup, dget_lst]), z (by simp [dSeq, dRet, dNext, dIf, dAnd, dOr, dNot, dIfE, dApp, dCons, dNil, dVar, dC, dBin, dUn, dCall, dChain, dRaise, dDrop, dAsg, dgName, dPar, dTup, dLst, startD, c1D, c2D, iiD, ltD, ixG, ixD, sqD, atI_0, atI_1, dget_tup, dget_lst]), z (by simp [dSeq, dRet, dNext, dIf, dAnd, dOr, dNot, dIfE, dApp, dCons, dNil, dVar, dC, dBin, dUn, dCall, dChain, dRaise, dDrop, dAsg, dgName, dPar, dTup, dLst, startD, c1D, c2D, iiD, ltD, ixG, ixD, sqD, atI_0, atI_1, dget_tup, dget_lst]), z (by simp [dSeq, dRet, dNext, dIf, dAnd, dOr, dNot, dIfE, dApp, dCons, dNil, dVar, dC, dBin, dUn, dCall, dChain, dRaise, dDrop, dAsg, dgName, dPar, dTup, dLst, startD, c1D, c2D, iiD, ltD, ixG, ixD, sqD, atI_0, atI_1, dget_tup, dget_lst]), z (by simp [dSeq, dRet, dNext, dIf, dAnd, dOr, dNot, dIfE, dApp, dCons, dNil, dVar, dC, dBin, dUn, dCall, dChain, dRaise, dDrop, dAsg, dgName, dPar, dTup, dLst, startD, c1D, c2D, iiD, ltD, ixG, ixD, sqD, atI_0, atI_1, dget_tup, dget_lst]), z (by simp [dSeq, dRet, dNext, dIf, dAnd, dOr, dNot, dIfE, dApp, dCons, dNil, dVar, dC, dBin, dUn, dCall, dChain, dRaise, dDrop, dAsg, dgName, dPar, dTup, dLst, startD, c1D, c2D, iiD, ltD, ixG, ixD, sqD, atI_0, atI_1, dget_tup, dget_lst]), z (by simp [dSeq, dRet, dNext, dIf, dAnd, dOr, dNot, dIfE, dApp, dCons, dNil, dVar, dC, dBin, dUn, dCall, dChain, dRaise, dDrop, dAsg, dgName, dPar, dTup, dLst, startD, c1D, c2D, iiD, ltD, ixG, ixD, sqD, atI_0, atI_1, dget_tup, dget_lst]), z (by simp [dSeq, dRet, dNext, dIf, dAnd, dOr, dNot, dIfE, dApp, dCons, dNil, dVar, dC, dBin, dUn, dCall, dChain, dRaise, dDrop, dAsg, dgName, dPar, dTup, dLst, startD, c1D, c2D, iiD, ltD, ixG, ixD, sqD, atI_0, atI_1, dget_tup, dget_lst]), z (by simp [dSeq, dRet, dNext, dIf, dAnd, dOr, dNot, dIfE, dApp, dCons, dNil, dVar, dC, dBin, dUn, dCall, dChain, dRaise, dDrop, dAsg, dgName, dPar, dTup, dLst, startD, c1D, c2D, iiD, ltD, ixG, ixD, sqD, atI_0, atI_1, dget_tup, dget_lst]), z (by simp [dSeq, dRet, dNext, dIf, dAnd, dOr, dNot, dIfE, dApp, dCons, dNil, dVar, dC, dBin, dUn, dCall, dChain, dRaise, dDrop, dAsg, dgName, dPar, dTup, dLst, startD, c1D, c2D, iiD, ltD, ixG, ixD, sqD, atI_0, atI_1, dget_tup, dget_lst]), by simp [dSeq, dRet, dNext, dIf, dAnd, dOr, dNot, dIfE, dApp, dCons, dNil, dVar, dC, dBin, dUn, dCall, dChain, dRaise, dDrop, dAsg, dgName, dPar, dTup, dLst, startD, c1D, c2D, iiD, ltD, ixG, ixD, sqD, atI_0, atI_1, dget_tup, dget_lst], by simp [dSeq, dRet, dNext, dIf, dAnd, dOr, dNot, dIfE, dApp, dCons, dNil, dVar, dC, dBin, dUn, dCall, dChain, dRaise, dDrop, dAsg, dgName, dPar, dTup, dLst, startD, c1D, c2D, iiD, ltD, ixG, ixD, sqD, atI_0, atI_1, dget_tup, dget_lst], 0, n, I.d, by omega, fun d M' hd s D => ?_⟩
  have I' := I.next s D
  have hd2 : pln d = true ∧ (isT d && (tpl d).all (isTerm 2)) = false := by
    simp only [List.mem_cons, List.not_mem_nil, or_false] at hd
    rcases hd with rfl | rfl | rfl | rfl <;> exact ⟨by decide +kernel, by decide +kernel⟩
  refine ⟨by omega, by omega, hd2.1, ?_⟩
  rw [if_neg (by rw [hd2.2]; decide)]
  refine ⟨rfl, rfl, by have := s.1; omega, I'.b, _, rfl, _, rfl, ?_⟩
  rw [if_neg (by simp [dSeq, dRet, dNext, dIf, dAnd, dOr, dNot, dIfE, dApp, dCons, dNil, dVar, dC, dBin, dUn, dCall, dChain, dRaise, dDrop, dAsg, dgName, dPar, dTup, dLst, startD, c1D, c2D, iiD, ltD, ixG, ixD, sqD, atI_0, atI_1, dget_tup, dget_lst])]
  exact k _ I'
theorem L218 (h1 : σ[1]? = some (some (.obj 1))) (I : Iv n M) (hn : n < 2 ^ 60) (k : ∀ M', Iv (n + 1) M' → K.nx σ M') : st_law_218 c K x σ M := by
  rw [st_law_218]
  have z : ∀ {n : Nat}, n ≤ 5 → n ≤ sizeLine := fun h => small_sz (by omega)
  refine ⟨rV "one", _, h1, z (by simp [dSeq, dRet, dNext, dIf, dAnd, dOr, dNot, dIfE, dApp, dCons, dNil, dVar, dC, dBin, dUn, dCall, dChain, dRaise, dDrop, dAsg, dgName, dPar, dTup, dLst, startD, c1D, c2D, iiD, ltD, ixG, ixD, sqD, atI_0, atI_1, dget_tup, dget_lst]), z (by simp [dSeq, dRet, dNext, dIf, dAnd, dOr, dNot, dIfE, dApp, dCons, dNil, dVar, dC, dBin, dUn, dCall, dChain, dRaise, dDrop, dAsg, dgName, dPar, dTup, dLst, startD, c1D, c2D, iiD, ltD, ixG, ixD, sqD, atI_0, atI_1, dget_tup, dget_lst]), z (by simp [dSeq, dRet, dNext, dIf, dAnd, dOr, dNot, dIfE, dApp, dCons, dNil, dVar, dC, dBin, dUn, dCall, dChain, dRaise, dDrop, dAsg, dgName, dPar, dTup, dLst, startD, c1D, c2D, iiD, ltD, ixG, ixD, sqD, atI_0, atI_1, dget_tup, dget_lst]), z (by simp [dSeq, dRet, dNext, dIf, dAnd, dOr, dNot, dIfE, dApp, dCons, dNil, dVar, dC, dBin, dUn, dCall, dChain, dRaise, dDrop, dAsg, dgName, dPar, dTup, dLst, startD, c1D, c2D, iiD, ltD, ixG, ixD, sqD, atI_0, atI_1, dget_tup, dget_lst]), z (by simp [dSeq, dRet, dNext, dIf, dAnd, dOr, dNot, dIfE, dApp, dCons, dNil, dVar, dC, dBin, dUn, dCall, dChain, dRaise, dDrop, dAsg, dgName, dPar, dTup, dLst, startD, c1D, c2D, iiD, ltD, ixG, ixD, sqD, atI_0, atI_1, dget_tup, dget_lst]), by simp [dSeq, dRet, dNext, dIf, dAnd, dOr, dNot, dIfE, dApp, dCons, dNil, dVar, dC, dBin, dUn, dCall, dChain, dRaise, dDrop, dAsg, dgName, dPar, dTup, dLst, startD, c1D, c2D, iiD, ltD, ixG, ixD, sqD, atI_0, atI_1, dget_tup, dget_lst], by simp [dSeq, dRet, dNext, dIf, dAnd, dOr, dNot, dIfE, dApp, dCons, dNil, dVar, dC, dBin, dUn, dCall, dChain, dRaise, dDrop, dAsg, dgName, dPar, dTup, dLst, startD, c1D, c2D, iiD, ltD, ixG, ixD, sqD, atI_0, atI_1, dget_tup, dget_lst], 0, n, I.d, by omega, fun d M' hd s D => ?_⟩
  have I' := I.next s D
  have hd2 : pln d = true ∧ isSome' 2 d = false := by
    simp only [List.mem_cons, List.not_mem_nil, or_false] at hd
    rcases hd with rfl | rfl | rfl <;> exact ⟨by decide +kernel, by decide +kernel⟩
  refine ⟨by omega, by omega, hd2.1, ?_⟩
  rw [if_neg (by rw [hd2.2]; decide)]
  refine ⟨rfl, rfl, by have := s.1; omega, I'.b, _, rfl, _, rfl, ?_⟩
  rw [if_neg (by simp [dSeq, dRet, dNext, dIf, dAnd, dOr, dNot, dIfE, dApp, dCons, dNil, dVar, dC, dBin, dUn, dCall, dChain, dRaise, dDrop, dAsg, dgName, dPar, dTup, dLst, startD, c1D, c2D, iiD, ltD, ixG, ixD, sqD, atI_0, atI_1, dget_tup, dget_lst])]
  exact k _ I'
theorem L220 (h1 : σ[1]? = some (some (.obj 1))) (I : Iv n M) (hn : n < 2 ^ 60) (k : ∀ M', Iv (n + 1) M' → K.rt (.bl true) M') : st_law_220 c K x σ M := by
  rw [st_law_220]
  refine ⟨rV "number", _, h1, small_sz (by simp [dSeq, dRet, dNext, dIf, dAnd, dOr, dNot, dIfE, dApp, dCons, dNil, dVar, dC, dBin, dUn, dCall, dChain, dRaise, dDrop, dAsg, dgName, dPar, dTup, dLst, startD, c1D, c2D, iiD, ltD, ixG, ixD, sqD, atI_0, atI_1, dget_tup, dget_lst]), by simp [dSeq, dRet, dNext, dIf, dAnd, dOr, dNot, dIfE, dApp, dCons, dNil, dVar, dC, dBin, dUn, dCall, dChain, dRaise, dDrop, dAsg, dgName, dPar, dTup, dLst, startD, c1D, c2D, iiD, ltD, ixG, ixD, sqD, atI_0, atI_1, dget_tup, dget_lst], by simp [dSeq, dRet, dNext, dIf, dAnd, dOr, dNot, dIfE, dApp, dCons, dNil, dVar, dC, dBin, dUn, dCall, dChain, dRaise, dDrop, dAsg, dgName, dPar, dTup, dLst, startD, c1D, c2D, iiD, ltD, ixG, ixD, sqD, atI_0, atI_1, dget_tup, dget_lst], 0, n, I.d, by omega, fun d M' hd s D => ?_⟩
  have I' := I.next s D
  have hd2 : pln d = true ∧ isI d = false := by
    simp only [List.mem_cons, List.not_mem_nil, or_false] at hd
    rcases hd with rfl | rfl | rfl <;> exact ⟨rfl, rfl⟩
  refine ⟨by omega, by omega, hd2.1, ?_⟩
  rw [if_neg (by rw [hd2.2]; decide)]
  exact ⟨rfl, rfl, by have := s.1; omega, I'.b, k _ I'⟩
end
end Law
namespace Law
open PySem PySem.Spec PyProof.Rows L2 LamX TL
theorem seqI {t u : TSD} {K : DEnds} {x : XD} {σ : Std} {M : Sto} (h : t { K with nx := u K x } x σ M) : dSeq t u K x σ M := h
section
variable {c : Wc} {K : DEnds} {x : XD} {σ : Std} {M : Sto} {n : Nat}
def lapS (c : Wc) : TSD := (dSeq (st_law_184 c) (dSeq (st_law_185 c) (dSeq (st_law_186 c) (dSeq (st_law_188 c) (dSeq (st_law_189 c) (dSeq (st_law_190 c) (dSeq (st_law_191 c) (dSeq (st_law_193 c) (dSeq (st_law_194 c) (dSeq (dFor (dSeqI (dVar 8)) (dgTup 2 (dgCons (dgName 11) (dgCons (dgName 12) dgNil))) (dSeq (dPut (dVar 10) (dVar 11) (dBin (addD false) (dIfE (dBin inD (dVar 11) (dVar 10)) (dBin ixG (dVar 10) (dVar 11)) (dC (.int 0))) (dVar 12))) dNext)) (dSeq (st_law_197 c) (dSeq (st_law_199 c) (dSeq (st_law_200 c) (dSeq (st_law_202 c) dNext))))))))))))))
theorem lap (hl : σ.length = 18) (h1 : σ[1]? = some (some (.obj 1))) (I : Iv n M) (hn : n + 5000 < 2 ^ 60) (k : ∀ σ' M', σ'.length = 18 → σ'[0]? = σ[0]? → σ'[1]? = some (some (.obj 1)) → Iv (n + 4000) M' → K.nx σ' M') : lapS c K x σ M := by
  refine seqI (L184 (c := c) h1 I (by omega) fun v M1 v1 v2 I1 => ?_)
  refine seqI (L185 (c := c) (v := v) (by simp [dSeq, dRet, dNext, dIf, dAnd, dOr, dNot, dIfE, dApp, dCons, dNil, dVar, dC, dBin, dUn, dCall, dChain, dRaise, dDrop, dAsg, dgName, dPar, dTup, dLst, startD, c1D, c2D, iiD, ltD, ixG, ixD, sqD, atI_0, atI_1, dget_tup, dget_lst, h1]) (by simp [dSeq, dRet, dNext, dIf, dAnd, dOr, dNot, dIfE, dApp, dCons, dNil, dVar, dC, dBin, dUn, dCall, dChain, dRaise, dDrop, dAsg, dgName, dPar, dTup, dLst, startD, c1D, c2D, iiD, ltD, ixG, ixD, sqD, atI_0, atI_1, dget_tup, dget_lst, hl]) v1 v2 I1 (by omega) fun ts M2 O I2 => ?_)
  refine seqI (L186 (c := c) (v := v) (ts := ts) (by simp [dSeq, dRet, dNext, dIf, dAnd, dOr, dNot, dIfE, dApp, dCons, dNil, dVar, dC, dBin, dUn, dCall, dChain, dRaise, dDrop, dAsg, dgName, dPar, dTup, dLst, startD, c1D, c2D, iiD, ltD, ixG, ixD, sqD, atI_0, atI_1, dget_tup, dget_lst, hl]) (by simp [dSeq, dRet, dNext, dIf, dAnd, dOr, dNot, dIfE, dApp, dCons, dNil, dVar, dC, dBin, dUn, dCall, dChain, dRaise, dDrop, dAsg, dgName, dPar, dTup, dLst, startD, c1D, c2D, iiD, ltD, ixG, ixD, sqD, atI_0, atI_1, dget_tup, dget_lst, hl]) v1 v2 O ?_)
  refine seqI (L188 (c := c) (v := v) (by simp [dSeq, dRet, dNext, dIf, dAnd, dOr, dNot, dIfE, dApp, dCons, dNil, dVar, dC, dBin, dUn, dCall, dChain, dRaise, dDrop, dAsg, dgName, dPar, dTup, dLst, startD, c1D, c2D, iiD, ltD, ixG, ixD, sqD, atI_0, atI_1, dget_tup, dget_lst, hl]) v1 v2 ?_)
  refine seqI (L189 (c := c) (v := v) (ts := ts) (by simp [dSeq, dRet, dNext, dIf, dAnd, dOr, dNot, dIfE, dApp, dCons, dNil, dVar, dC, dBin, dUn, dCall, dChain, dRaise, dDrop, dAsg, dgName, dPar, dTup, dLst, startD, c1D, c2D, iiD, ltD, ixG, ixD, sqD, atI_0, atI_1, dget_tup, dget_lst, hl]) (by simp [dSeq, dRet, dNext, dIf, dAnd, dOr, dNot, dIfE, dApp, dCons, dNil, dVar, dC, dBin, dUn, dCall, dChain, dRaise, dDrop, dAsg, dgName, dPar, dTup, dLst, startD, c1D, c2D, iiD, ltD, ixG, ixD, sqD, atI_0, atI_1, dget_tup, dget_lst, hl]) (by simp [dSeq, dRet, dNext, dIf, dAnd, dOr, dNot, dIfE, dApp, dCons, dNil, dVar, dC, dBin, dUn, dCall, dChain, dRaise, dDrop, dAsg, dgName, dPar, dTup, dLst, startD, c1D, c2D, iiD, ltD, ixG, ixD, sqD, atI_0, atI_1, dget_tup, dget_lst, hl]) rfl v1 v2 O fun es hN l0 l1 => ?_)
  refine seqI (L190 (c := c) (es := es) (by simp [dSeq, dRet, dNext, dIf, dAnd, dOr, dNot, dIfE, dApp, dCons, dNil, dVar, dC, dBin, dUn, dCall, dChain, dRaise, dDrop, dAsg, dgName, dPar, dTup, dLst, startD, c1D, c2D, iiD, ltD, ixG, ixD, sqD, atI_0, atI_1, dget_tup, dget_lst, h1]) (by simp [dSeq, dRet, dNext, dIf, dAnd, dOr, dNot, dIfE, dApp, dCons, dNil, dVar, dC, dBin, dUn, dCall, dChain, dRaise, dDrop, dAsg, dgName, dPar, dTup, dLst, startD, c1D, c2D, iiD, ltD, ixG, ixD, sqD, atI_0, atI_1, dget_tup, dget_lst, hl]) l0 l1 I2 (by omega) fun d M3 hd I3 => ?_)
  refine seqI (L191 (c := c) (v := v) (d := d) (by simp [dSeq, dRet, dNext, dIf, dAnd, dOr, dNot, dIfE, dApp, dCons, dNil, dVar, dC, dBin, dUn, dCall, dChain, dRaise, dDrop, dAsg, dgName, dPar, dTup, dLst, startD, c1D, c2D, iiD, ltD, ixG, ixD, sqD, atI_0, atI_1, dget_tup, dget_lst, hl]) (by simp [dSeq, dRet, dNext, dIf, dAnd, dOr, dNot, dIfE, dApp, dCons, dNil, dVar, dC, dBin, dUn, dCall, dChain, dRaise, dDrop, dAsg, dgName, dPar, dTup, dLst, startD, c1D, c2D, iiD, ltD, ixG, ixD, sqD, atI_0, atI_1, dget_tup, dget_lst, hl]) v1 v2 (hN d hd) ?_)
  refine seqI (L193 (c := c) (ts := ts) (z := List.replicate v.toNat 0) (by simp [dSeq, dRet, dNext, dIf, dAnd, dOr, dNot, dIfE, dApp, dCons, dNil, dVar, dC, dBin, dUn, dCall, dChain, dRaise, dDrop, dAsg, dgName, dPar, dTup, dLst, startD, c1D, c2D, iiD, ltD, ixG, ixD, sqD, atI_0, atI_1, dget_tup, dget_lst, hl]) (by simp [dSeq, dRet, dNext, dIf, dAnd, dOr, dNot, dIfE, dApp, dCons, dNil, dVar, dC, dBin, dUn, dCall, dChain, dRaise, dDrop, dAsg, dgName, dPar, dTup, dLst, startD, c1D, c2D, iiD, ltD, ixG, ixD, sqD, atI_0, atI_1, dget_tup, dget_lst, h1]) (by simp [dSeq, dRet, dNext, dIf, dAnd, dOr, dNot, dIfE, dApp, dCons, dNil, dVar, dC, dBin, dUn, dCall, dChain, dRaise, dDrop, dAsg, dgName, dPar, dTup, dLst, startD, c1D, c2D, iiD, ltD, ixG, ixD, sqD, atI_0, atI_1, dget_tup, dget_lst, hl]) (by simp [dSeq, dRet, dNext, dIf, dAnd, dOr, dNot, dIfE, dApp, dCons, dNil, dVar, dC, dBin, dUn, dCall, dChain, dRaise, dDrop, dAsg, dgName, dPar, dTup, dLst, startD, c1D, c2D, iiD, ltD, ixG, ixD, sqD, atI_0, atI_1, dget_tup, dget_lst, hl]) O.len I3 (by omega) fun us M4 lu hu I4 => ?_)
  have l4 := I4.d.lt
  dsimp only
  refine seqI (L194 (c := c) I4 fun M5 I5 hM5 => ?_)
  refine seqI (L195 (us := us) (m := M4.length) (by simp [dSeq, dRet, dNext, dIf, dAnd, dOr, dNot, dIfE, dApp, dCons, dNil, dVar, dC, dBin, dUn, dCall, dChain, dRaise, dDrop, dAsg, dgName, dPar, dTup, dLst, startD, c1D, c2D, iiD, ltD, ixG, ixD, sqD, atI_0, atI_1, dget_tup, dget_lst, hl]) (by simp [dSeq, dRet, dNext, dIf, dAnd, dOr, dNot, dIfE, dApp, dCons, dNil, dVar, dC, dBin, dUn, dCall, dChain, dRaise, dDrop, dAsg, dgName, dPar, dTup, dLst, startD, c1D, c2D, iiD, ltD, ixG, ixD, sqD, atI_0, atI_1, dget_tup, dget_lst, hl]) (by simp [dSeq, dRet, dNext, dIf, dAnd, dOr, dNot, dIfE, dApp, dCons, dNil, dVar, dC, dBin, dUn, dCall, dChain, dRaise, dDrop, dAsg, dgName, dPar, dTup, dLst, startD, c1D, c2D, iiD, ltD, ixG, ixD, sqD, atI_0, atI_1, dget_tup, dget_lst, hl]) (by omega) (by omega) hM5 lu I5 fun σ6 M6 f6 hM6 I6 => ?_)
  have e6 : ∀ i, i ≠ 11 → i ≠ 12 → σ6[i]? = _ := fun i a b => f6.2 i (by simp [dSeq, dRet, dNext, dIf, dAnd, dOr, dNot, dIfE, dApp, dCons, dNil, dVar, dC, dBin, dUn, dCall, dChain, dRaise, dDrop, dAsg, dgName, dPar, dTup, dLst, startD, c1D, c2D, iiD, ltD, ixG, ixD, sqD, atI_0, atI_1, dget_tup, dget_lst, a, b])
  have hl6 : σ6.length = 18 := by rw [f6.1]; simp [dSeq, dRet, dNext, dIf, dAnd, dOr, dNot, dIfE, dApp, dCons, dNil, dVar, dC, dBin, dUn, dCall, dChain, dRaise, dDrop, dAsg, dgName, dPar, dTup, dLst, startD, c1D, c2D, iiD, ltD, ixG, ixD, sqD, atI_0, atI_1, dget_tup, dget_lst, hl]
  refine seqI (L197 (c := c) (v := v) (us := us) (ts := ts) (m := M4.length) (by rw [e6 3 (by decide) (by decide)]; simp [dSeq, dRet, dNext, dIf, dAnd, dOr, dNot, dIfE, dApp, dCons, dNil, dVar, dC, dBin, dUn, dCall, dChain, dRaise, dDrop, dAsg, dgName, dPar, dTup, dLst, startD, c1D, c2D, iiD, ltD, ixG, ixD, sqD, atI_0, atI_1, dget_tup, dget_lst, hl]) (by rw [e6 8 (by decide) (by decide)]; simp [dSeq, dRet, dNext, dIf, dAnd, dOr, dNot, dIfE, dApp, dCons, dNil, dVar, dC, dBin, dUn, dCall, dChain, dRaise, dDrop, dAsg, dgName, dPar, dTup, dLst, startD, c1D, c2D, iiD, ltD, ixG, ixD, sqD, atI_0, atI_1, dget_tup, dget_lst, hl]) (by rw [e6 10 (by decide) (by decide)]; simp [dSeq, dRet, dNext, dIf, dAnd, dOr, dNot, dIfE, dApp, dCons, dNil, dVar, dC, dBin, dUn, dCall, dChain, dRaise, dDrop, dAsg, dgName, dPar, dTup, dLst, startD, c1D, c2D, iiD, ltD, ixG, ixD, sqD, atI_0, atI_1, dget_tup, dget_lst, hl]) rfl v1 v2 O lu hu hM6 ?_)
  have h16 : σ6[1]? = some (some (.obj 1)) := by rw [e6 1 (by decide) (by decide)]; simp [dSeq, dRet, dNext, dIf, dAnd, dOr, dNot, dIfE, dApp, dCons, dNil, dVar, dC, dBin, dUn, dCall, dChain, dRaise, dDrop, dAsg, dgName, dPar, dTup, dLst, startD, c1D, c2D, iiD, ltD, ixG, ixD, sqD, atI_0, atI_1, dget_tup, dget_lst, h1]
  have h06 : σ6[0]? = σ[0]? := by rw [e6 0 (by decide) (by decide)]; simp [dSeq, dRet, dNext, dIf, dAnd, dOr, dNot, dIfE, dApp, dCons, dNil, dVar, dC, dBin, dUn, dCall, dChain, dRaise, dDrop, dAsg, dgName, dPar, dTup, dLst, startD, c1D, c2D, iiD, ltD, ixG, ixD, sqD, atI_0, atI_1, dget_tup, dget_lst]
  have h36 : σ6[3]? = some (some (.int v)) := by rw [e6 3 (by decide) (by decide)]; simp [dSeq, dRet, dNext, dIf, dAnd, dOr, dNot, dIfE, dApp, dCons, dNil, dVar, dC, dBin, dUn, dCall, dChain, dRaise, dDrop, dAsg, dgName, dPar, dTup, dLst, startD, c1D, c2D, iiD, ltD, ixG, ixD, sqD, atI_0, atI_1, dget_tup, dget_lst, hl]
  have h46 : σ6[4]? = some (some (smD ts)) := by rw [e6 4 (by decide) (by decide)]; simp [dSeq, dRet, dNext, dIf, dAnd, dOr, dNot, dIfE, dApp, dCons, dNil, dVar, dC, dBin, dUn, dCall, dChain, dRaise, dDrop, dAsg, dgName, dPar, dTup, dLst, startD, c1D, c2D, iiD, ltD, ixG, ixD, sqD, atI_0, atI_1, dget_tup, dget_lst, hl]
  refine seqI (L199 (c := c) h16 I6 (by omega) fun y M7 hy I7 => ?_)
  refine seqI (L200 (c := c) (v := v) (y := y) (by simp [dSeq, dRet, dNext, dIf, dAnd, dOr, dNot, dIfE, dApp, dCons, dNil, dVar, dC, dBin, dUn, dCall, dChain, dRaise, dDrop, dAsg, dgName, dPar, dTup, dLst, startD, c1D, c2D, iiD, ltD, ixG, ixD, sqD, atI_0, atI_1, dget_tup, dget_lst, h36]) (by simp [dSeq, dRet, dNext, dIf, dAnd, dOr, dNot, dIfE, dApp, dCons, dNil, dVar, dC, dBin, dUn, dCall, dChain, dRaise, dDrop, dAsg, dgName, dPar, dTup, dLst, startD, c1D, c2D, iiD, ltD, ixG, ixD, sqD, atI_0, atI_1, dget_tup, dget_lst, hl6]) v1 v2 (by rcases hy with rfl | rfl | rfl | rfl <;> decide) ?_)
  refine seqI (L202 (c := c) (v := v) (ts := ts) (by simp [dSeq, dRet, dNext, dIf, dAnd, dOr, dNot, dIfE, dApp, dCons, dNil, dVar, dC, dBin, dUn, dCall, dChain, dRaise, dDrop, dAsg, dgName, dPar, dTup, dLst, startD, c1D, c2D, iiD, ltD, ixG, ixD, sqD, atI_0, atI_1, dget_tup, dget_lst, hl6]) (by simp [dSeq, dRet, dNext, dIf, dAnd, dOr, dNot, dIfE, dApp, dCons, dNil, dVar, dC, dBin, dUn, dCall, dChain, dRaise, dDrop, dAsg, dgName, dPar, dTup, dLst, startD, c1D, c2D, iiD, ltD, ixG, ixD, sqD, atI_0, atI_1, dget_tup, dget_lst, h36]) (by simp [dSeq, dRet, dNext, dIf, dAnd, dOr, dNot, dIfE, dApp, dCons, dNil, dVar, dC, dBin, dUn, dCall, dChain, dRaise, dDrop, dAsg, dgName, dPar, dTup, dLst, startD, c1D, c2D, iiD, ltD, ixG, ixD, sqD, atI_0, atI_1, dget_tup, dget_lst, h46]) v1 v2 O fun σ8 f8 => ?_)
  refine k σ8 M7 (by rw [f8.1]; simp [dSeq, dRet, dNext, dIf, dAnd, dOr, dNot, dIfE, dApp, dCons, dNil, dVar, dC, dBin, dUn, dCall, dChain, dRaise, dDrop, dAsg, dgName, dPar, dTup, dLst, startD, c1D, c2D, iiD, ltD, ixG, ixD, sqD, atI_0, atI_1, dget_tup, dget_lst, hl6]) ?_ ?_ (I7.mono (by omega))
  · rw [f8.2 0 (by simp [dSeq, dRet, dNext, dIf, dAnd, dOr, dNot, dIfE, dApp, dCons, dNil, dVar, dC, dBin, dUn, dCall, dChain, dRaise, dDrop, dAsg, dgName, dPar, dTup, dLst, startD, c1D, c2D, iiD, ltD, ixG, ixD, sqD, atI_0, atI_1, dget_tup, dget_lst])]; simp [dSeq, dRet, dNext, dIf, dAnd, dOr, dNot, dIfE, dApp, dCons, dNil, dVar, dC, dBin, dUn, dCall, dChain, dRaise, dDrop, dAsg, dgName, dPar, dTup, dLst, startD, c1D, c2D, iiD, ltD, ixG, ixD, sqD, atI_0, atI_1, dget_tup, dget_lst, h06]
  · rw [f8.2 1 (by simp [dSeq, dRet, dNext, dIf, dAnd, dOr, dNot, dIfE, dApp, dCons, dNil, dVar, dC, dBin, dUn, dCall, dChain, dRaise, dDrop, dAsg, dgName, dPar, dTup, dLst, startD, c1D, c2D, iiD, ltD, ixG, ixD, sqD, atI_0, atI_1, dget_tup, dget_lst])]; simp [dSeq, dRet, dNext, dIf, dAnd, dOr, dNot, dIfE, dApp, dCons, dNil, dVar, dC, dBin, dUn, dCall, dChain, dRaise, dDrop, dAsg, dgName, dPar, dTup, dLst, startD, c1D, c2D, iiD, ltD, ixG, ixD, sqD, atI_0, atI_1, dget_tup, dget_lst, h16]
end
theorem pl_law (c : Wc) : PL sp_law 18 (rd_law c) := by
  intro ds M q x b1 b2 h; simp only [sp_law] at h; split at h; case h_2 => exact h.elim
  obtain ⟨rfl, hns, h⟩ := h
  rename_i ns
  rw [rd_law]
  refine seqI ?_
  rw [st_law_182]
  refine ⟨_, rfl, hns, fun M1 l1 _ bM1 D1 => ?_⟩
  have I1 : Iv 0 M1 := ⟨D1, bM1⟩
  simp only [dgName]
  refine seqI ?_
  refine ⟨_, rfl, .inr ?_⟩
  refine ⟨trivial, _, rfl, by split <;> omega, ?_⟩
  obtain ⟨N, hN, hN2⟩ : ∃ N : Nat, ((6 : Int) + (if (6 : Int) < (ns.length : Int) then 6 else (ns.length : Int))).toNat = N ∧ N ≤ 12 := ⟨_, rfl, by split <;> omega⟩
  rw [hN]
  refine wFor_inv (fun rest σ M' => ∃ dn, rest.length + dn = N ∧ σ.length = 18 ∧ σ[1]? = some (some (.obj 1)) ∧ Iv (dn * 4000) M') ?_ ?_ _ _ _ ⟨0, by rw [rgD_len]; rfl, rfl, rfl, I1⟩
  · rintro σ M2 ⟨dn, e, hl, h1, I2⟩
    refine ⟨trivial, ?_⟩
    simp only [List.length_nil, Nat.zero_add] at e
    subst e
    have I3 := I2.mono (m := 50000) (by omega)
    refine seqI (L206 (c := c) hl h1 I3 (by omega) fun m M4 hm I4 => ?_)
    have g1 : (σ.set 16 (some (smD (grt m))))[1]? = some (some (.obj 1)) := by simp [dSeq, dRet, dNext, dIf, dAnd, dOr, dNot, dIfE, dApp, dCons, dNil, dVar, dC, dBin, dUn, dCall, dChain, dRaise, dDrop, dAsg, dgName, dPar, dTup, dLst, startD, c1D, c2D, iiD, ltD, ixG, ixD, sqD, atI_0, atI_1, dget_tup, dget_lst, h1]
    have g16 : (σ.set 16 (some (smD (grt m))))[16]? = some (some (smD (grt m))) := by simp [dSeq, dRet, dNext, dIf, dAnd, dOr, dNot, dIfE, dApp, dCons, dNil, dVar, dC, dBin, dUn, dCall, dChain, dRaise, dDrop, dAsg, dgName, dPar, dTup, dLst, startD, c1D, c2D, iiD, ltD, ixG, ixD, sqD, atI_0, atI_1, dget_tup, dget_lst, hl]
    refine seqI (L207 (c := c) g16 hm ?_)
    refine seqI (L209 (c := c) g16 hm I4.b ?_)
    refine seqI (L211 (c := c) g1 I4 (by omega) fun d M5 hp hb I5 => ?_)
    have k1 : ((σ.set 16 (some (smD (grt m)))).set 17 (some d))[1]? = some (some (.obj 1)) := by simp [dSeq, dRet, dNext, dIf, dAnd, dOr, dNot, dIfE, dApp, dCons, dNil, dVar, dC, dBin, dUn, dCall, dChain, dRaise, dDrop, dAsg, dgName, dPar, dTup, dLst, startD, c1D, c2D, iiD, ltD, ixG, ixD, sqD, atI_0, atI_1, dget_tup, dget_lst, h1]
    have k17 : ((σ.set 16 (some (smD (grt m)))).set 17 (some d))[17]? = some (some d) := by simp [dSeq, dRet, dNext, dIf, dAnd, dOr, dNot, dIfE, dApp, dCons, dNil, dVar, dC, dBin, dUn, dCall, dChain, dRaise, dDrop, dAsg, dgName, dPar, dTup, dLst, startD, c1D, c2D, iiD, ltD, ixG, ixD, sqD, atI_0, atI_1, dget_tup, dget_lst, hl]
    refine seqI (L212 (c := c) k17 hp hb I5.b ?_)
    refine seqI (L214 (c := c) k1 I5 (by omega) fun M6 I6 => ?_)
    refine seqI (L216 (c := c) k1 I6 (by omega) fun M7 I7 => ?_)
    refine seqI (L218 (c := c) k1 I7 (by omega) fun M8 I8 => ?_)
    refine seqI (L220 (c := c) k1 I8 (by omega) fun M9 I9 => ?_)
    exact ⟨M9, [], by simp [dSeq, dRet, dNext, dIf, dAnd, dOr, dNot, dIfE, dApp, dCons, dNil, dVar, dC, dBin, dUn, dCall, dChain, dRaise, dDrop, dAsg, dgName, dPar, dTup, dLst, startD, c1D, c2D, iiD, ltD, ixG, ixD, sqD, atI_0, atI_1, dget_tup, dget_lst], by simp [dSeq, dRet, dNext, dIf, dAnd, dOr, dNot, dIfE, dApp, dCons, dNil, dVar, dC, dBin, dUn, dCall, dChain, dRaise, dDrop, dAsg, dgName, dPar, dTup, dLst, startD, c1D, c2D, iiD, ltD, ixG, ixD, sqD, atI_0, atI_1, dget_tup, dget_lst], rfl, I9.b, h _⟩
  · rintro d rest σ M2 K ⟨dn, e, hl, h1, I2⟩ hrt hbk hnx hct
    refine ⟨trivial, ?_⟩
    refine lap (σ := σ.set 2 (some d)) (by simp [dSeq, dRet, dNext, dIf, dAnd, dOr, dNot, dIfE, dApp, dCons, dNil, dVar, dC, dBin, dUn, dCall, dChain, dRaise, dDrop, dAsg, dgName, dPar, dTup, dLst, startD, c1D, c2D, iiD, ltD, ixG, ixD, sqD, atI_0, atI_1, dget_tup, dget_lst, hl]) (by simp [dSeq, dRet, dNext, dIf, dAnd, dOr, dNot, dIfE, dApp, dCons, dNil, dVar, dC, dBin, dUn, dCall, dChain, dRaise, dDrop, dAsg, dgName, dPar, dTup, dLst, startD, c1D, c2D, iiD, ltD, ixG, ixD, sqD, atI_0, atI_1, dget_tup, dget_lst, h1]) I2 (by simp [dSeq, dRet, dNext, dIf, dAnd, dOr, dNot, dIfE, dApp, dCons, dNil, dVar, dC, dBin, dUn, dCall, dChain, dRaise, dDrop, dAsg, dgName, dPar, dTup, dLst, startD, c1D, c2D, iiD, ltD, ixG, ixD, sqD, atI_0, atI_1, dget_tup, dget_lst] at e; omega) fun σ' M' g l0 l1 I' => ?_
    exact hnx _ _ ⟨dn + 1, by simp [dSeq, dRet, dNext, dIf, dAnd, dOr, dNot, dIfE, dApp, dCons, dNil, dVar, dC, dBin, dUn, dCall, dChain, dRaise, dDrop, dAsg, dgName, dPar, dTup, dLst, startD, c1D, c2D, iiD, ltD, ixG, ixD, sqD, atI_0, atI_1, dget_tup, dget_lst] at e; omega, g, l1, I'.mono (by omega)⟩
end Law
namespace Law
open PySem PySem.Spec PyProof.Rows L2 LamX TL
theorem w_is_number {P : Program} {W : World} {c : Wc} {fi : Nat → Addr} {mg : Str → Option Value} {base : Heap} (T : Tx P c fi mg)  (Dx : Def0 c mg "is_number" (topS 6)) : FnI P W c mg base 1 "is_number" ["thing"] sp_is_number :=
  fnI_of (N := ["thing"]) (rd_is_number c) Dx (C8.fnScope_by (by decide +kernel)) (fun _ _ _ _ _ _ us hl => match us, hl with | [_], _ => rfl) len_is_number (pl_is_number c) fun hd f cdv A outer s H E gs =>
    have g := gs.toGE
    (ds_cons (ds_ret (de_and (x_blt (T.isi g.K) T.n_isinstance (x_cons (x_var (i := 0)) (x_cons (x_gty "int" T.n_int) x_nil))) (de_one (de_not (x_blt (T.isi g.K) T.n_isinstance (x_cons (x_var (i := 0)) (x_cons (x_gty "bool" T.n_bool) x_nil)))))))
      ds_nil)
theorem w_is_between {P : Program} {W : World} {c : Wc} {fi : Nat → Addr} {mg : Str → Option Value} {base : Heap} (T : Tx P c fi mg) (f_is_number : FnI P W c mg base 1 "is_number" ["thing"] sp_is_number) (Dx : Def0 c mg "is_between" (topS 7)) : FnI P W c mg base 2 "is_between" ["thing", "low", "high"] sp_is_between :=
  fnI_of (N := ["thing", "low", "high"]) (rd_is_between c) Dx (C8.fnScope_by (by decide +kernel)) (fun _ _ _ _ _ _ us hl => match us, hl with | [_, _, _], _ => rfl) len_is_between (pl_is_between c) fun hd f cdv A outer s H E gs =>
    have g := gs.toGE
    (ds_cons (ds_ret (de_and (x_call g f_is_number (x_cons (x_var (i := 0)) x_nil)) (de_one (x_chain od_leI od_leI (x_var (i := 1)) (x_var (i := 0)) (x_var (i := 2))))))
      ds_nil)
theorem w_is_tuple {P : Program} {W : World} {c : Wc} {fi : Nat → Addr} {mg : Str → Option Value} {base : Heap} (T : Tx P c fi mg)  (Dx : Def0 c mg "is_tuple" (topS 8)) : FnI P W c mg base 1 "is_tuple" ["thing", "size"] sp_is_tuple :=
  fnI_of (N := ["thing", "size"]) (rd_is_tuple c) Dx (C8.fnScope_by (by decide +kernel)) (fun _ _ _ _ _ _ us hl => match us, hl with | [_, _], _ => rfl) len_is_tuple (pl_is_tuple c) fun hd f cdv A outer s H E gs =>
    have g := gs.toGE
    (ds_cons (ds_ret (de_and (x_blt (T.isi g.K) T.n_isinstance (x_cons (x_var (i := 0)) (x_cons (x_gty "tuple" T.n_tuple) x_nil))) (de_one (x_cmp (od_eq g.K g.u64) (x_blt (cd_len g.K) T.n_len (x_cons (x_var (i := 0)) x_nil)) (x_var (i := 1))))))
      ds_nil)
theorem w_need_between {P : Program} {W : World} {c : Wc} {fi : Nat → Addr} {mg : Str → Option Value} {base : Heap} (T : Tx P c fi mg) (f_is_between : FnI P W c mg base 2 "is_between" ["thing", "low", "high"] sp_is_between) (Dx : Def0 c mg "need_between" (topS 9)) : FnI P W c mg base 3 "need_between" ["number", "low", "high", "part"] sp_need_between :=
  fnI_of (N := ["number", "low", "high", "part"]) (rd_need_between c) Dx (C8.fnScope_by (by decide +kernel)) (fun _ _ _ _ _ _ us hl => match us, hl with | [_, _, _, _], _ => rfl) len_need_between (pl_need_between c) fun hd f cdv A outer s H E gs =>
    have g := gs.toGE
    (ds_cons (ds_if (dt_not (q_val (x_call g f_is_between (x_cons (x_var (i := 0)) (x_cons (x_var (i := 1)) (x_cons (x_var (i := 2)) x_nil)))))) (ds_cons (s_raise (c := 1) gs (T.e_BadNumber) rfl T.l_BadNumber T.g_BadNumber T.n_super (x_var (i := 3)))
      ds_nil) ds_nil)
      ds_nil)
theorem w_need_few {P : Program} {W : World} {c : Wc} {fi : Nat → Addr} {mg : Str → Option Value} {base : Heap} (T : Tx P c fi mg)  (Dx : Def0 c mg "need_few" (topS 10)) : FnI P W c mg base 1 "need_few" ["number", "most"] sp_need_few :=
  fnI_of (N := ["number", "most"]) (rd_need_few c) Dx (C8.fnScope_by (by decide +kernel)) (fun _ _ _ _ _ _ us hl => match us, hl with | [_, _], _ => rfl) len_need_few (pl_need_few c) fun hd f cdv A outer s H E gs =>
    have g := gs.toGE
    (ds_cons (ds_if (q_cmp od_gtI (x_var (i := 0)) (x_var (i := 1))) (ds_cons (s_raise (c := 2) gs (T.e_TooMany) rfl T.l_TooMany T.g_TooMany T.n_super (x_var (i := 1)))
      ds_nil) ds_nil)
      ds_nil)
theorem w_ten_up {P : Program} {W : World} {c : Wc} {fi : Nat → Addr} {mg : Str → Option Value} {base : Heap} (T : Tx P c fi mg)  (Dx : Def0 c mg "ten_up" (topS 13)) : FnI P W c mg base 1 "ten_up" ["many"] sp_ten_up :=
  fnI_of (N := ["many", "found", "number"]) (rd_ten_up c) Dx (C8.fnScope_by (by decide +kernel)) (fun _ _ _ _ _ _ us hl => match us, hl with | [_], _ => rfl) len_ten_up (pl_ten_up c) fun hd f cdv A outer s H E gs =>
    have g := gs.toGE
    (ds_cons (s_asg (do_tup (x_cons x_int (x_cons x_int x_nil))) (g_tup g (n := 2) (g_cons (g_name g (i := 1)) (g_cons (g_name g (i := 2)) g_nil))))
      (ds_cons (s_while gs (q_cmp od_gtI (x_var (i := 0)) x_int) (ds_cons (ds_if (q_cmp (od_eq g.K g.u64) (x_bin od_modI (x_var (i := 0)) x_int) x_int) (ds_cons (s_set g (i := 1) (x_bin (od_mul g.K) (x_var (i := 1)) (x_var (i := 2))))
      ds_nil) ds_nil)
      (ds_cons (s_par g (i := 2) (j := 0) (x_cons (x_bin (od_mul g.K) (x_var (i := 2)) (x_var (i := 2))) (x_cons (x_bin od_fdivI (x_var (i := 0)) x_int) x_nil)))
      ds_nil)))
      (ds_cons (ds_ret (x_var (i := 1)))
      ds_nil)))
theorem w_is_long {P : Program} {W : World} {c : Wc} {fi : Nat → Addr} {mg : Str → Option Value} {base : Heap} (T : Tx P c fi mg) (f_ten_up : FnI P W c mg base 1 "ten_up" ["many"] sp_ten_up) (Dx : Def0 c mg "is_long" (topS 14)) : FnI P W c mg base 2 "is_long" ["number", "most"] sp_is_long :=
  fnI_of (N := ["number", "most"]) (rd_is_long c) Dx (C8.fnScope_by (by decide +kernel)) (fun _ _ _ _ _ _ us hl => match us, hl with | [_, _], _ => rfl) len_is_long (pl_is_long c) fun hd f cdv A outer s H E gs =>
    have g := gs.toGE
    (ds_cons (ds_ret (de_and (x_cmp od_geI (x_blt (cd_abs) T.n_abs (x_cons (x_var (i := 0)) x_nil)) (x_gint T.k_SHORT)) (de_one (x_cmp od_geI (x_blt (cd_abs) T.n_abs (x_cons (x_var (i := 0)) x_nil)) (x_call g f_ten_up (x_cons (x_var (i := 1)) x_nil))))))
      ds_nil)
theorem w_need_digits {P : Program} {W : World} {c : Wc} {fi : Nat → Addr} {mg : Str → Option Value} {base : Heap} (T : Tx P c fi mg) (f_is_long : FnI P W c mg base 2 "is_long" ["number", "most"] sp_is_long) (Dx : Def0 c mg "need_digits" (topS 15)) : FnI P W c mg base 3 "need_digits" ["number", "most"] sp_need_digits :=
  fnI_of (N := ["number", "most"]) (rd_need_digits c) Dx (C8.fnScope_by (by decide +kernel)) (fun _ _ _ _ _ _ us hl => match us, hl with | [_, _], _ => rfl) len_need_digits (pl_need_digits c) fun hd f cdv A outer s H E gs =>
    have g := gs.toGE
    (ds_cons (ds_if (q_val (x_call g f_is_long (x_cons (x_var (i := 0)) (x_cons (x_var (i := 1)) x_nil)))) (ds_cons (s_raise (c := 2) gs (T.e_TooMany) rfl T.l_TooMany T.g_TooMany T.n_super (x_var (i := 1)))
      ds_nil) ds_nil)
      ds_nil)
theorem w_is_row {P : Program} {W : World} {c : Wc} {fi : Nat → Addr} {mg : Str → Option Value} {base : Heap} (T : Tx P c fi mg) (f_is_number : FnI P W c mg base 1 "is_number" ["thing"] sp_is_number) (f_is_tuple : FnI P W c mg base 1 "is_tuple" ["thing", "size"] sp_is_tuple) (Dx : Def0 c mg "is_row" (topS 21)) : FnI P W c mg base 2 "is_row" ["thing", "v"] sp_is_row :=
  fnI_of (N := ["thing", "v", "one"]) (rd_is_row c) Dx (C8.fnScope_by (by decide +kernel)) (fun _ _ _ _ _ _ us hl => match us, hl with | [_, _], _ => rfl) len_is_row (pl_is_row c) fun hd f cdv A outer s H E gs =>
    have g := gs.toGE
    (ds_cons (ds_ret (de_and (x_call g f_is_tuple (x_cons (x_var (i := 0)) (x_cons (x_var (i := 1)) x_nil))) (de_one (x_blt (cd_all g.calm) T.n_all (x_cons (x_lc false g (i_seq g (x_var (i := 0))) (blkOk_by (own := [("one", 2)]) (by kernel_rfl)) (fun hd s1 H C cl fp E g => ⟨(g_name g (i := 2)), dts_nil, (x_call g f_is_number (x_cons (x_var (i := 2)) x_nil))⟩)) x_nil)))))
      ds_nil)
theorem w_is_small_row {P : Program} {W : World} {c : Wc} {fi : Nat → Addr} {mg : Str → Option Value} {base : Heap} (T : Tx P c fi mg)  (Dx : Def0 c mg "is_small_row" (topS 22)) : FnI P W c mg base 1 "is_small_row" ["row"] sp_is_small_row :=
  fnI_of (N := ["row", "one"]) (rd_is_small_row c) Dx (C8.fnScope_by (by decide +kernel)) (fun _ _ _ _ _ _ us hl => match us, hl with | [_], _ => rfl) len_is_small_row (pl_is_small_row c) fun hd f cdv A outer s H E gs =>
    have g := gs.toGE
    (ds_cons (ds_ret (x_blt (cd_all g.calm) T.n_all (x_cons (x_lc false g (i_seq g (x_var (i := 0))) (blkOk_by (own := [("one", 1)]) (by kernel_rfl)) (fun hd s1 H C cl fp E g => ⟨(g_name g (i := 1)), dts_nil, (x_chain (od_lt g.K g.u0) (od_lt g.K g.u0) (do_neg (x_gint T.k_MOST_EXPONENT)) (x_var (i := 1)) (x_gint T.k_MOST_EXPONENT))⟩)) x_nil)))
      ds_nil)
theorem w_is_term {P : Program} {W : World} {c : Wc} {fi : Nat → Addr} {mg : Str → Option Value} {base : Heap} (T : Tx P c fi mg) (f_is_long : FnI P W c mg base 2 "is_long" ["number", "most"] sp_is_long) (f_is_number : FnI P W c mg base 1 "is_number" ["thing"] sp_is_number) (f_is_row : FnI P W c mg base 2 "is_row" ["thing", "v"] sp_is_row) (f_is_small_row : FnI P W c mg base 1 "is_small_row" ["row"] sp_is_small_row) (f_is_tuple : FnI P W c mg base 1 "is_tuple" ["thing", "size"] sp_is_tuple) (Dx : Def0 c mg "is_term" (topS 23)) : FnI P W c mg base 3 "is_term" ["thing", "v"] sp_is_term :=
  fnI_of (N := ["thing", "v"]) (rd_is_term c) Dx (C8.fnScope_by (by decide +kernel)) (fun _ _ _ _ _ _ us hl => match us, hl with | [_, _], _ => rfl) len_is_term (pl_is_term c) fun hd f cdv A outer s H E gs =>
    have g := gs.toGE
    (ds_cons (ds_if (DW.dt (dw_or (dt_not (q_val (x_call g f_is_tuple (x_cons (x_var (i := 0)) (x_cons x_int x_nil))))) (dw_or (dt_not (q_val (x_call g f_is_row (x_cons (x_ix g (x_var (i := 0)) x_int) (x_cons (x_var (i := 1)) x_nil))))) (dw_or1 (dt_not (q_val (x_call g f_is_number (x_cons (x_ix g (x_var (i := 0)) x_int) x_nil)))))))) (ds_cons (ds_ret x_bl)
      ds_nil) ds_nil)
      (ds_cons (ds_ret (de_and (x_call g f_is_small_row (x_cons (x_ix g (x_var (i := 0)) x_int) x_nil)) (de_one (de_not (x_call g f_is_long (x_cons (x_ix g (x_var (i := 0)) x_int) (x_cons (x_gint T.k_MOST_DIGITS) x_nil)))))))
      ds_nil))
theorem w_is_sum_told {P : Program} {W : World} {c : Wc} {fi : Nat → Addr} {mg : Str → Option Value} {base : Heap} (T : Tx P c fi mg) (f_is_term : FnI P W c mg base 3 "is_term" ["thing", "v"] sp_is_term) (Dx : Def0 c mg "is_sum_told" (topS 24)) : FnI P W c mg base 4 "is_sum_told" ["v", "thing"] sp_is_sum_told :=
  fnI_of (N := ["v", "thing", "term", "k"]) (rd_is_sum_told c) Dx (C8.fnScope_by (by decide +kernel)) (fun _ _ _ _ _ _ us hl => match us, hl with | [_, _], _ => rfl) len_is_sum_told (pl_is_sum_told c) fun hd f cdv A outer s H E gs =>
    have g := gs.toGE
    (ds_cons (ds_if (DW.dt (dw_or (dt_not (q_val (x_blt (T.isi g.K) T.n_isinstance (x_cons (x_var (i := 1)) (x_cons (x_gty "tuple" T.n_tuple) x_nil))))) (dw_or (q_cmp od_gtI (x_blt (cd_len g.K) T.n_len (x_cons (x_var (i := 1)) x_nil)) (x_gint T.k_MOST_TERMS)) (dw_or1 (dt_not (q_val (x_blt (cd_all g.calm) T.n_all (x_cons (x_lc false g (i_seq g (x_var (i := 1))) (blkOk_by (own := [("term", 2)]) (by kernel_rfl)) (fun hd s1 H C cl fp E g => ⟨(g_name g (i := 2)), dts_nil, (x_call g f_is_term (x_cons (x_var (i := 2)) (x_cons (x_var (i := 0)) x_nil)))⟩)) x_nil)))))))) (ds_cons (ds_ret x_bl)
      ds_nil) ds_nil)
      (ds_cons (ds_if (dt_not (q_val (x_blt (cd_all g.calm) T.n_all (x_cons (x_lc false g (i_seq g (x_var (i := 1))) (blkOk_by (own := [("term", 2)]) (by kernel_rfl)) (fun hd s1 H C cl fp E g => ⟨(g_name g (i := 2)), dts_nil, (x_cmp (od_ne g.K g.u64) (x_ix g (x_var (i := 2)) x_int) x_int)⟩)) x_nil)))) (ds_cons (ds_ret x_bl)
      ds_nil) ds_nil)
      (ds_cons (ds_ret (x_blt (cd_all g.calm) T.n_all (x_cons (x_lc false g (i_rg1 g T.n_range (x_bin od_subI (x_blt (cd_len g.K) T.n_len (x_cons (x_var (i := 1)) x_nil)) x_int)) (blkOk_by (own := [("k", 3)]) (by kernel_rfl)) (fun hd s1 H C cl fp E g => ⟨(g_name g (i := 3)), dts_nil, (x_cmp (od_lt g.K g.u0) (x_ix g (x_ix g (x_var (i := 1)) (x_var (i := 3))) x_int) (x_ix g (x_ix g (x_var (i := 1)) (x_bin (od_add false g.K) (x_var (i := 3)) x_int)) x_int))⟩)) x_nil)))
      ds_nil)))
theorem w_need_letters {P : Program} {W : World} {c : Wc} {fi : Nat → Addr} {mg : Str → Option Value} {base : Heap} (T : Tx P c fi mg) (f_need_between : FnI P W c mg base 3 "need_between" ["number", "low", "high", "part"] sp_need_between) (Dx : Def0 c mg "need_letters" (topS 25)) : FnI P W c mg base 4 "need_letters" ["v"] sp_need_letters :=
  fnI_of (N := ["v"]) (rd_need_letters c) Dx (C8.fnScope_by (by decide +kernel)) (fun _ _ _ _ _ _ us hl => match us, hl with | [_], _ => rfl) len_need_letters (pl_need_letters c) fun hd f cdv A outer s H E gs =>
    have g := gs.toGE
    (ds_cons (s_expr (x_call g f_need_between (x_cons (x_var (i := 0)) (x_cons x_int (x_cons (x_gint T.k_MOST_LETTERS) (x_cons x_str x_nil))))))
      ds_nil)
theorem w_need_sum {P : Program} {W : World} {c : Wc} {fi : Nat → Addr} {mg : Str → Option Value} {base : Heap} (T : Tx P c fi mg) (f_is_sum_told : FnI P W c mg base 4 "is_sum_told" ["v", "thing"] sp_is_sum_told) (Dx : Def0 c mg "need_sum" (topS 26)) : FnI P W c mg base 5 "need_sum" ["v", "thing", "part"] sp_need_sum :=
  fnI_of (N := ["v", "thing", "part"]) (rd_need_sum c) Dx (C8.fnScope_by (by decide +kernel)) (fun _ _ _ _ _ _ us hl => match us, hl with | [_, _, _], _ => rfl) len_need_sum (pl_need_sum c) fun hd f cdv A outer s H E gs =>
    have g := gs.toGE
    (ds_cons (ds_if (dt_not (q_val (x_call g f_is_sum_told (x_cons (x_var (i := 0)) (x_cons (x_var (i := 1)) x_nil))))) (ds_cons (s_raise (c := 3) gs (T.e_BadSum) rfl T.l_BadSum T.g_BadSum T.n_super (x_var (i := 2)))
      ds_nil) ds_nil)
      ds_nil)
theorem w_collected {P : Program} {W : World} {c : Wc} {fi : Nat → Addr} {mg : Str → Option Value} {base : Heap} (T : Tx P c fi mg)  (Dx : Def0 c mg "collected" (topS 27)) : FnI P W c mg base 1 "collected" ["pairs"] sp_collected :=
  fnI_of (N := ["pairs", "found", "exponents", "count"]) (rd_collected c) Dx (C8.fnScope_by (by decide +kernel)) (fun _ _ _ _ _ _ us hl => match us, hl with | [_], _ => rfl) len_collected (pl_collected c) fun hd f cdv A outer s H E gs =>
    have g := gs.toGE
    (ds_cons (s_set g (i := 1) (do_dict0 true true))
      (ds_cons (s_for gs (i_seq g (x_var (i := 0))) (g_tup g (n := 2) (g_cons (g_name g (i := 2)) (g_cons (g_name g (i := 3)) g_nil))) (ds_cons (s_put g (x_var (i := 1)) (x_var (i := 2)) (x_bin (od_add false g.K) (x_get g (x_var (i := 1)) (x_var (i := 2)) x_int) (x_var (i := 3))))
      ds_nil))
      (ds_cons (ds_ret (x_ty (cd_tup g.K) T.n_tuple (x_cons (x_lc false g (i_seq g (x_blt (cd_sorted false g.K g.u g.calm) T.n_sorted (x_cons (x_var (i := 1)) x_nil))) (blkOk_by (own := [("exponents", 2)]) (by kernel_rfl)) (fun hd s1 H C cl fp E g => ⟨(g_name g (i := 2)), (dts_one (q_cmp (od_ne g.K g.u64) (x_ix g (x_var (i := 1)) (x_var (i := 2))) x_int)), (do_tup (x_cons (x_var (i := 2)) (x_cons (x_ix g (x_var (i := 1)) (x_var (i := 2))) x_nil)))⟩)) x_nil)))
      ds_nil)))
theorem w_few_terms {P : Program} {W : World} {c : Wc} {fi : Nat → Addr} {mg : Str → Option Value} {base : Heap} (T : Tx P c fi mg) (f_is_small_row : FnI P W c mg base 1 "is_small_row" ["row"] sp_is_small_row) (f_need_digits : FnI P W c mg base 3 "need_digits" ["number", "most"] sp_need_digits) (f_need_few : FnI P W c mg base 1 "need_few" ["number", "most"] sp_need_few) (Dx : Def0 c mg "few_terms" (topS 28)) : FnI P W c mg base 4 "few_terms" ["one"] sp_few_terms :=
  fnI_of (N := ["one", "exponents", "count"]) (rd_few_terms c) Dx (C8.fnScope_by (by decide +kernel)) (fun _ _ _ _ _ _ us hl => match us, hl with | [_], _ => rfl) len_few_terms (pl_few_terms c) fun hd f cdv A outer s H E gs =>
    have g := gs.toGE
    (ds_cons (s_expr (x_call g f_need_few (x_cons (x_blt (cd_len g.K) T.n_len (x_cons (x_var (i := 0)) x_nil)) (x_cons (x_gint T.k_MOST_TERMS) x_nil))))
      (ds_cons (s_for gs (i_seq g (x_var (i := 0))) (g_tup g (n := 2) (g_cons (g_name g (i := 1)) (g_cons (g_name g (i := 2)) g_nil))) (ds_cons (s_expr (x_call g f_need_digits (x_cons (x_var (i := 2)) (x_cons (x_gint T.k_MOST_DIGITS) x_nil))))
      (ds_cons (ds_if (dt_not (q_val (x_call g f_is_small_row (x_cons (x_var (i := 1)) x_nil)))) (ds_cons (s_raise (c := 2) gs (T.e_TooMany) rfl T.l_TooMany T.g_TooMany T.n_super (x_gint T.k_MOST_EXPONENT))
      ds_nil) ds_nil)
      ds_nil)))
      (ds_cons (ds_ret (x_var (i := 0)))
      ds_nil)))
theorem w_letter_told {P : Program} {W : World} {c : Wc} {fi : Nat → Addr} {mg : Str → Option Value} {base : Heap} (T : Tx P c fi mg)  (Dx : Def0 c mg "letter_told" (topS 29)) : FnI P W c mg base 1 "letter_told" ["v", "k"] sp_letter_told :=
  fnI_of (N := ["v", "k", "j"]) (rd_letter_told c) Dx (C8.fnScope_by (by decide +kernel)) (fun _ _ _ _ _ _ us hl => match us, hl with | [_, _], _ => rfl) len_letter_told (pl_letter_told c) fun hd f cdv A outer s H E gs =>
    have g := gs.toGE
    (ds_cons (ds_ret (do_tup (x_cons (do_tup (x_cons (x_ty (cd_tup g.K) T.n_tuple (x_cons (x_lc false g (i_rg2 g T.n_range x_int (x_bin (od_add false g.K) (x_var (i := 0)) x_int)) (blkOk_by (own := [("j", 2)]) (by kernel_rfl)) (fun hd s1 H C cl fp E g => ⟨(g_name g (i := 2)), dts_nil, (x_ty (cd_int) T.n_int (x_cons (x_cmp (od_eq g.K g.u64) (x_var (i := 2)) (x_var (i := 1))) x_nil))⟩)) x_nil)) (x_cons x_int x_nil))) x_nil)))
      ds_nil)
theorem w_number_told {P : Program} {W : World} {c : Wc} {fi : Nat → Addr} {mg : Str → Option Value} {base : Heap} (T : Tx P c fi mg)  (Dx : Def0 c mg "number_told" (topS 30)) : FnI P W c mg base 1 "number_told" ["v", "number"] sp_number_told :=
  fnI_of (N := ["v", "number"]) (rd_number_told c) Dx (C8.fnScope_by (by decide +kernel)) (fun _ _ _ _ _ _ us hl => match us, hl with | [_, _], _ => rfl) len_number_told (pl_number_told c) fun hd f cdv A outer s H E gs =>
    have g := gs.toGE
    (ds_cons (ds_ret (de_ife (q_cmp (od_ne g.K g.u64) (x_var (i := 1)) x_int) (do_tup (x_cons (do_tup (x_cons (x_bin (od_mul g.K) (do_tup (x_cons x_int x_nil)) (x_var (i := 0))) (x_cons (x_var (i := 1)) x_nil))) x_nil)) (do_tup x_nil)))
      ds_nil)
theorem w_is_sum {P : Program} {W : World} {c : Wc} {fi : Nat → Addr} {mg : Str → Option Value} {base : Heap} (T : Tx P c fi mg) (f_is_sum_told : FnI P W c mg base 4 "is_sum_told" ["v", "thing"] sp_is_sum_told) (f_need_letters : FnI P W c mg base 4 "need_letters" ["v"] sp_need_letters) (Dx : Def0 c mg "is_sum" (topS 31)) : FnI P W c mg base 5 "is_sum" ["v", "thing"] sp_is_sum :=
  fnI_of (N := ["v", "thing"]) (rd_is_sum c) Dx (C8.fnScope_by (by decide +kernel)) (fun _ _ _ _ _ _ us hl => match us, hl with | [_, _], _ => rfl) len_is_sum (pl_is_sum c) fun hd f cdv A outer s H E gs =>
    have g := gs.toGE
    (ds_cons (s_expr (x_call g f_need_letters (x_cons (x_var (i := 0)) x_nil)))
      (ds_cons (ds_ret (x_call g f_is_sum_told (x_cons (x_var (i := 0)) (x_cons (x_var (i := 1)) x_nil))))
      ds_nil))
theorem w_letter_sum {P : Program} {W : World} {c : Wc} {fi : Nat → Addr} {mg : Str → Option Value} {base : Heap} (T : Tx P c fi mg) (f_letter_told : FnI P W c mg base 1 "letter_told" ["v", "k"] sp_letter_told) (f_need_between : FnI P W c mg base 3 "need_between" ["number", "low", "high", "part"] sp_need_between) (f_need_letters : FnI P W c mg base 4 "need_letters" ["v"] sp_need_letters) (Dx : Def0 c mg "letter_sum" (topS 32)) : FnI P W c mg base 5 "letter_sum" ["v", "k"] sp_letter_sum :=
  fnI_of (N := ["v", "k"]) (rd_letter_sum c) Dx (C8.fnScope_by (by decide +kernel)) (fun _ _ _ _ _ _ us hl => match us, hl with | [_, _], _ => rfl) len_letter_sum (pl_letter_sum c) fun hd f cdv A outer s H E gs =>
    have g := gs.toGE
    (ds_cons (s_expr (x_call g f_need_letters (x_cons (x_var (i := 0)) x_nil)))
      (ds_cons (s_expr (x_call g f_need_between (x_cons (x_var (i := 1)) (x_cons x_int (x_cons (x_var (i := 0)) (x_cons x_str x_nil))))))
      (ds_cons (ds_ret (x_call g f_letter_told (x_cons (x_var (i := 0)) (x_cons (x_var (i := 1)) x_nil))))
      ds_nil)))
theorem w_number_sum {P : Program} {W : World} {c : Wc} {fi : Nat → Addr} {mg : Str → Option Value} {base : Heap} (T : Tx P c fi mg) (f_few_terms : FnI P W c mg base 4 "few_terms" ["one"] sp_few_terms) (f_is_number : FnI P W c mg base 1 "is_number" ["thing"] sp_is_number) (f_need_letters : FnI P W c mg base 4 "need_letters" ["v"] sp_need_letters) (f_number_told : FnI P W c mg base 1 "number_told" ["v", "number"] sp_number_told) (Dx : Def0 c mg "number_sum" (topS 33)) : FnI P W c mg base 5 "number_sum" ["v", "number"] sp_number_sum :=
  fnI_of (N := ["v", "number"]) (rd_number_sum c) Dx (C8.fnScope_by (by decide +kernel)) (fun _ _ _ _ _ _ us hl => match us, hl with | [_, _], _ => rfl) len_number_sum (pl_number_sum c) fun hd f cdv A outer s H E gs =>
    have g := gs.toGE
    (ds_cons (s_expr (x_call g f_need_letters (x_cons (x_var (i := 0)) x_nil)))
      (ds_cons (ds_if (dt_not (q_val (x_call g f_is_number (x_cons (x_var (i := 1)) x_nil)))) (ds_cons (s_raise (c := 1) gs (T.e_BadNumber) rfl T.l_BadNumber T.g_BadNumber T.n_super x_str)
      ds_nil) ds_nil)
      (ds_cons (ds_ret (x_call g f_few_terms (x_cons (x_call g f_number_told (x_cons (x_var (i := 0)) (x_cons (x_var (i := 1)) x_nil))) x_nil)))
      ds_nil)))
theorem w_sum_of {P : Program} {W : World} {c : Wc} {fi : Nat → Addr} {mg : Str → Option Value} {base : Heap} (T : Tx P c fi mg) (f_collected : FnI P W c mg base 1 "collected" ["pairs"] sp_collected) (f_few_terms : FnI P W c mg base 4 "few_terms" ["one"] sp_few_terms) (f_is_term : FnI P W c mg base 3 "is_term" ["thing", "v"] sp_is_term) (f_need_letters : FnI P W c mg base 4 "need_letters" ["v"] sp_need_letters) (Dx : Def0 c mg "sum_of" (topS 34)) : FnI P W c mg base 5 "sum_of" ["v", "pairs"] sp_sum_of :=
  fnI_of (N := ["v", "pairs", "pair"]) (rd_sum_of c) Dx (C8.fnScope_by (by decide +kernel)) (fun _ _ _ _ _ _ us hl => match us, hl with | [_, _], _ => rfl) len_sum_of (pl_sum_of c) fun hd f cdv A outer s H E gs =>
    have g := gs.toGE
    (ds_cons (s_expr (x_call g f_need_letters (x_cons (x_var (i := 0)) x_nil)))
      (ds_cons (ds_if (DW.dt (dw_or (dt_not (q_val (x_blt (T.isi g.K) T.n_isinstance (x_cons (x_var (i := 1)) (x_cons (x_gty "tuple" T.n_tuple) x_nil))))) (dw_or1 (dt_not (q_val (x_blt (cd_all g.calm) T.n_all (x_cons (x_lc false g (i_seq g (x_var (i := 1))) (blkOk_by (own := [("pair", 2)]) (by kernel_rfl)) (fun hd s1 H C cl fp E g => ⟨(g_name g (i := 2)), dts_nil, (x_call g f_is_term (x_cons (x_var (i := 2)) (x_cons (x_var (i := 0)) x_nil)))⟩)) x_nil))))))) (ds_cons (s_raise (c := 3) gs (T.e_BadSum) rfl T.l_BadSum T.g_BadSum T.n_super x_str)
      ds_nil) ds_nil)
      (ds_cons (ds_ret (x_call g f_few_terms (x_cons (x_call g f_collected (x_cons (x_var (i := 1)) x_nil)) x_nil)))
      ds_nil)))
theorem w_least_told {P : Program} {W : World} {c : Wc} {fi : Nat → Addr} {mg : Str → Option Value} {base : Heap} (T : Tx P c fi mg)  (Dx : Def0 c mg "least_told" (topS 35)) : FnI P W c mg base 1 "least_told" ["one"] sp_least_told :=
  fnI_of (N := ["one", "term", "k"]) (rd_least_told c) Dx (C8.fnScope_by (by decide +kernel)) (fun _ _ _ _ _ _ us hl => match us, hl with | [_], _ => rfl) len_least_told (pl_least_told c) fun hd f cdv A outer s H E gs =>
    have g := gs.toGE
    (ds_cons (ds_ret (x_ty (cd_tup g.K) T.n_tuple (x_cons (x_lc false g (i_rg1 g T.n_range (x_blt (cd_len g.K) T.n_len (x_cons (x_ix g (x_ix g (x_var (i := 0)) x_int) x_int) x_nil))) (blkOk_by (own := [("k", 2)]) (by kernel_rfl)) (fun hd s1 H C cl fp E g => ⟨(g_name g (i := 2)), dts_nil, (x_blt (cd_min g.calm) T.n_min (x_cons (x_lc false g (i_seq g (x_var (i := 0))) (blkOk_by (own := [("term", 1)]) (by kernel_rfl)) (fun hd s1 H C cl fp E g => ⟨(g_name g (i := 1)), dts_nil, (x_ix g (x_ix g (x_var (i := 1)) x_int) (x_var (i := 2)))⟩)) x_nil))⟩)) x_nil)))
      ds_nil)
theorem w_greatest_told {P : Program} {W : World} {c : Wc} {fi : Nat → Addr} {mg : Str → Option Value} {base : Heap} (T : Tx P c fi mg)  (Dx : Def0 c mg "greatest_told" (topS 36)) : FnI P W c mg base 1 "greatest_told" ["one"] sp_greatest_told :=
  fnI_of (N := ["one", "term", "k"]) (rd_greatest_told c) Dx (C8.fnScope_by (by decide +kernel)) (fun _ _ _ _ _ _ us hl => match us, hl with | [_], _ => rfl) len_greatest_told (pl_greatest_told c) fun hd f cdv A outer s H E gs =>
    have g := gs.toGE
    (ds_cons (ds_ret (x_ty (cd_tup g.K) T.n_tuple (x_cons (x_lc false g (i_rg1 g T.n_range (x_blt (cd_len g.K) T.n_len (x_cons (x_ix g (x_ix g (x_var (i := 0)) x_int) x_int) x_nil))) (blkOk_by (own := [("k", 2)]) (by kernel_rfl)) (fun hd s1 H C cl fp E g => ⟨(g_name g (i := 2)), dts_nil, (x_blt (cd_max g.calm) T.n_max (x_cons (x_lc false g (i_seq g (x_var (i := 0))) (blkOk_by (own := [("term", 1)]) (by kernel_rfl)) (fun hd s1 H C cl fp E g => ⟨(g_name g (i := 1)), dts_nil, (x_ix g (x_ix g (x_var (i := 1)) x_int) (x_var (i := 2)))⟩)) x_nil))⟩)) x_nil)))
      ds_nil)
theorem w_need_some_sum {P : Program} {W : World} {c : Wc} {fi : Nat → Addr} {mg : Str → Option Value} {base : Heap} (T : Tx P c fi mg) (f_need_sum : FnI P W c mg base 5 "need_sum" ["v", "thing", "part"] sp_need_sum) (Dx : Def0 c mg "need_some_sum" (topS 37)) : FnI P W c mg base 6 "need_some_sum" ["v", "one", "part"] sp_need_some_sum :=
  fnI_of (N := ["v", "one", "part"]) (rd_need_some_sum c) Dx (C8.fnScope_by (by decide +kernel)) (fun _ _ _ _ _ _ us hl => match us, hl with | [_, _, _], _ => rfl) len_need_some_sum (pl_need_some_sum c) fun hd f cdv A outer s H E gs =>
    have g := gs.toGE
    (ds_cons (s_expr (x_call g f_need_sum (x_cons (x_var (i := 0)) (x_cons (x_var (i := 1)) (x_cons (x_var (i := 2)) x_nil)))))
      (ds_cons (ds_if (q_cmp (od_eq g.K g.u64) (x_var (i := 1)) (do_tup x_nil)) (ds_cons (s_raise (c := 3) gs (T.e_BadSum) rfl T.l_BadSum T.g_BadSum T.n_super (x_var (i := 2)))
      ds_nil) ds_nil)
      ds_nil))
theorem w_least_exponents {P : Program} {W : World} {c : Wc} {fi : Nat → Addr} {mg : Str → Option Value} {base : Heap} (T : Tx P c fi mg) (f_least_told : FnI P W c mg base 1 "least_told" ["one"] sp_least_told) (f_need_letters : FnI P W c mg base 4 "need_letters" ["v"] sp_need_letters) (f_need_some_sum : FnI P W c mg base 6 "need_some_sum" ["v", "one", "part"] sp_need_some_sum) (Dx : Def0 c mg "least_exponents" (topS 38)) : FnI P W c mg base 7 "least_exponents" ["v", "one"] sp_least_exponents :=
  fnI_of (N := ["v", "one"]) (rd_least_exponents c) Dx (C8.fnScope_by (by decide +kernel)) (fun _ _ _ _ _ _ us hl => match us, hl with | [_, _], _ => rfl) len_least_exponents (pl_least_exponents c) fun hd f cdv A outer s H E gs =>
    have g := gs.toGE
    (ds_cons (s_expr (x_call g f_need_letters (x_cons (x_var (i := 0)) x_nil)))
      (ds_cons (s_expr (x_call g f_need_some_sum (x_cons (x_var (i := 0)) (x_cons (x_var (i := 1)) (x_cons x_str x_nil)))))
      (ds_cons (ds_ret (x_call g f_least_told (x_cons (x_var (i := 1)) x_nil)))
      ds_nil)))
theorem w_greatest_exponents {P : Program} {W : World} {c : Wc} {fi : Nat → Addr} {mg : Str → Option Value} {base : Heap} (T : Tx P c fi mg) (f_greatest_told : FnI P W c mg base 1 "greatest_told" ["one"] sp_greatest_told) (f_need_letters : FnI P W c mg base 4 "need_letters" ["v"] sp_need_letters) (f_need_some_sum : FnI P W c mg base 6 "need_some_sum" ["v", "one", "part"] sp_need_some_sum) (Dx : Def0 c mg "greatest_exponents" (topS 39)) : FnI P W c mg base 7 "greatest_exponents" ["v", "one"] sp_greatest_exponents :=
  fnI_of (N := ["v", "one"]) (rd_greatest_exponents c) Dx (C8.fnScope_by (by decide +kernel)) (fun _ _ _ _ _ _ us hl => match us, hl with | [_, _], _ => rfl) len_greatest_exponents (pl_greatest_exponents c) fun hd f cdv A outer s H E gs =>
    have g := gs.toGE
    (ds_cons (s_expr (x_call g f_need_letters (x_cons (x_var (i := 0)) x_nil)))
      (ds_cons (s_expr (x_call g f_need_some_sum (x_cons (x_var (i := 0)) (x_cons (x_var (i := 1)) (x_cons x_str x_nil)))))
      (ds_cons (ds_ret (x_call g f_greatest_told (x_cons (x_var (i := 1)) x_nil)))
      ds_nil)))
theorem w__law_begun {P : Program} {W : World} {c : Wc} {fi : Nat → Addr} {mg : Str → Option Value} {base : Heap} (T : Tx P c fi mg)  (Dx : Def0 c mg "_law_begun" (topS 41)) : FnI P W c mg base 1 "_law_begun" ["script"] sp__law_begun :=
  fnI_of (N := ["script", "large", "cell"]) (rd__law_begun c) Dx (C8.fnScope_by (by decide +kernel)) (fun _ _ _ _ _ _ us hl => match us, hl with | [_], _ => rfl) len__law_begun (pl__law_begun c) fun hd f cdv A outer s H E gs =>
    have g := gs.toGE
    (ds_cons (s_setLc true g (i := 1) (i_seq g (x_var (i := 0))) (blkOk_by (own := [("cell", 2)]) (by kernel_rfl)) (fun hd s1 H C cl fp E g => ⟨(g_name g (i := 2)), (dts_one (q_cmp od_geI (x_blt (cd_abs) T.n_abs (x_cons (x_var (i := 2)) x_nil)) (x_bin od_powI x_int x_int))), (x_bin od_subI (x_blt (cd_abs) T.n_abs (x_cons (x_var (i := 2)) x_nil)) (x_bin od_powI x_int x_int))⟩))
      (ds_cons (ds_ret (x_dsp true (x_dps (fun hd => let g := g.whd hd; x_str) (fun hd => let g := g.whd hd; (x_var (i := 1))) (x_dps (fun hd => let g := g.whd hd; x_str) (fun hd => let g := g.whd hd; (x_lc false g (i_seq g (x_var (i := 0))) (blkOk_by (own := [("cell", 2)]) (by kernel_rfl)) (fun hd s1 H C cl fp E g => ⟨(g_name g (i := 2)), dts_nil, (x_blt (cd_abs) T.n_abs (x_cons (x_var (i := 2)) x_nil))⟩))) (x_dps (fun hd => let g := g.whd hd; x_str) (fun hd => let g := g.whd hd; x_int) (x_dps (fun hd => let g := g.whd hd; x_str) (fun hd => let g := g.whd hd; x_int) dps_nil))))))
      ds_nil))
theorem w__law_blend {P : Program} {W : World} {c : Wc} {fi : Nat → Addr} {mg : Str → Option Value} {base : Heap} (T : Tx P c fi mg)  (Dx : Def0 c mg "_law_blend" (topS 42)) : FnI P W c mg base 1 "_law_blend" ["draw"] sp__law_blend :=
  fnI_of (N := ["draw", "laps", "found", "prime", "stirred", "cell"]) (rd__law_blend c) Dx (C8.fnScope_by (by decide +kernel)) (fun _ _ _ _ _ _ us hl => match us, hl with | [_], _ => rfl) len__law_blend (pl__law_blend c) fun hd f cdv A outer s H E gs =>
    have g := gs.toGE
    (ds_cons (s_par g (i := 1) (j := 2) (x_cons (x_bin (od_add false g.K) (x_ix g (x_var (i := 0)) x_str) x_int) (x_cons x_int x_nil)))
      (ds_cons (s_put g (x_var (i := 0)) x_str (x_var (i := 1)))
      (ds_cons (s_for gs (i_seq g (do_lst false (x_cons x_int (x_cons x_int (x_cons x_int x_nil))))) (g_name g (i := 3)) (ds_cons (s_set g (i := 4) (x_bin od_modI (x_ty (cd_int) T.n_int (x_cons (x_bin (od_add false g.K) (x_bin (od_mul g.K) (x_var (i := 1)) x_int) (x_bin od_fdivI (x_var (i := 3)) x_int)) x_nil)) (x_var (i := 3))))
      (ds_cons (s_for gs (i_seq g (x_ix g (x_var (i := 0)) x_str)) (g_name g (i := 5)) (ds_cons (s_set g (i := 4) (x_bin od_modI (x_ty (cd_int) T.n_int (x_cons (x_bin (od_add false g.K) (x_bin (od_add false g.K) (x_bin (od_mul g.K) (x_var (i := 4)) x_int) (x_ty (cd_int) T.n_int (x_cons (x_var (i := 5)) x_nil))) x_int) x_nil)) (x_var (i := 3))))
      ds_nil))
      (ds_cons (s_set g (i := 2) (x_bin (od_add false g.K) (x_bin (od_mul g.K) (x_var (i := 2)) x_int) (x_bin od_modI (x_ty (cd_int) T.n_int (x_cons (x_bin od_powI (x_var (i := 4)) x_int) x_nil)) (x_var (i := 3)))))
      ds_nil))))
      (ds_cons (ds_ret (x_var (i := 2)))
      ds_nil))))
theorem w__law_take {P : Program} {W : World} {c : Wc} {fi : Nat → Addr} {mg : Str → Option Value} {base : Heap} (T : Tx P c fi mg) (f__law_blend : FnI P W c mg base 1 "_law_blend" ["draw"] sp__law_blend) (Dx : Def0 c mg "_law_take" (topS 43)) : FnI P W c mg base 2 "_law_take" ["draw", "size"] sp__law_take :=
  fnI_of (N := ["draw", "size", "found"]) (rd__law_take c) Dx (C8.fnScope_by (by decide +kernel)) (fun _ _ _ _ _ _ us hl => match us, hl with | [_, _], _ => rfl) len__law_take (pl__law_take c) fun hd f cdv A outer s H E gs =>
    have g := gs.toGE
    (ds_cons (s_while gs (DW.dt (dw_and (q_cmp (od_eq g.K g.u64) (x_ix g (x_var (i := 0)) x_str) x_int) (dw_and1 (q_cmp (od_ne g.K g.u64) (x_ix g (x_var (i := 0)) x_str) (do_lst false x_nil))))) (ds_cons (s_put g (x_var (i := 0)) x_str (x_pop g (x_ix g (x_var (i := 0)) x_str) x_int))
      ds_nil))
      (ds_cons (ds_if (q_cmp (od_eq g.K g.u64) (x_ix g (x_var (i := 0)) x_str) x_int) (ds_cons (s_put g (x_var (i := 0)) x_str (x_call g f__law_blend (x_cons (x_var (i := 0)) x_nil)))
      ds_nil) ds_nil)
      (ds_cons (s_set g (i := 2) (x_bin od_modI (x_ty (cd_int) T.n_int (x_cons (x_ix g (x_var (i := 0)) x_str) x_nil)) (x_var (i := 1))))
      (ds_cons (s_put g (x_var (i := 0)) x_str (x_bin od_fdivI (x_ty (cd_int) T.n_int (x_cons (x_ix g (x_var (i := 0)) x_str) x_nil)) (x_var (i := 1))))
      (ds_cons (ds_ret (x_var (i := 2)))
      ds_nil)))))
theorem w__law_pick {P : Program} {W : World} {c : Wc} {fi : Nat → Addr} {mg : Str → Option Value} {base : Heap} (T : Tx P c fi mg) (f__law_take : FnI P W c mg base 2 "_law_take" ["draw", "size"] sp__law_take) (Dx : Def0 c mg "_law_pick" (topS 44)) : FnI P W c mg base 3 "_law_pick" ["draw", "some"] sp__law_pick :=
  fnI_of (N := ["draw", "some"]) (rd__law_pick c) Dx (C8.fnScope_by (by decide +kernel)) (fun _ _ _ _ _ _ us hl => match us, hl with | [_, _], _ => rfl) len__law_pick (pl__law_pick c) fun hd f cdv A outer s H E gs =>
    have g := gs.toGE
    (ds_cons (ds_ret (x_ix g (x_var (i := 1)) (x_call g f__law_take (x_cons (x_var (i := 0)) (x_cons (x_blt (cd_len g.K) T.n_len (x_cons (x_var (i := 1)) x_nil)) x_nil)))))
      ds_nil)
theorem w__law_same {P : Program} {W : World} {c : Wc} {fi : Nat → Addr} {mg : Str → Option Value} {base : Heap} (T : Tx P c fi mg)  (Dx : Def0 c mg "_law_same" (topS 46)) : FnI P W c mg base 1 "_law_same" ["told", "due"] sp__law_same :=
  fnI_of (N := ["told", "due"]) (rd__law_same c) Dx (C8.fnScope_by (by decide +kernel)) (fun _ _ _ _ _ _ us hl => match us, hl with | [_, _], _ => rfl) len__law_same (pl__law_same c) fun hd f cdv A outer s H E gs =>
    have g := gs.toGE
    (ds_cons (ds_ret (x_cmp (od_eq g.K g.u64) (x_blt (cd_repr g.K g.gd g.u) T.n_repr (x_cons (x_var (i := 0)) x_nil)) (x_blt (cd_repr g.K g.gd g.u) T.n_repr (x_cons (x_var (i := 1)) x_nil))))
      ds_nil)
theorem w__law_sum {P : Program} {W : World} {c : Wc} {fi : Nat → Addr} {mg : Str → Option Value} {base : Heap} (T : Tx P c fi mg)  (Dx : Def0 c mg "_law_sum" (topS 50)) : FnI P W c mg base 1 "_law_sum" ["found"] sp__law_sum :=
  fnI_of (N := ["found", "exponents"]) (rd__law_sum c) Dx (C8.fnScope_by (by decide +kernel)) (fun _ _ _ _ _ _ us hl => match us, hl with | [_], _ => rfl) len__law_sum (pl__law_sum c) fun hd f cdv A outer s H E gs =>
    have g := gs.toGE
    (ds_cons (ds_ret (x_ty (cd_tup g.K) T.n_tuple (x_cons (x_lc false g (i_seq g (x_blt (cd_sorted false g.K g.u g.calm) T.n_sorted (x_cons (x_var (i := 0)) x_nil))) (blkOk_by (own := [("exponents", 1)]) (by kernel_rfl)) (fun hd s1 H C cl fp E g => ⟨(g_name g (i := 1)), (dts_one (q_cmp (od_ne g.K g.u64) (x_ix g (x_var (i := 0)) (x_var (i := 1))) x_int)), (do_tup (x_cons (x_var (i := 1)) (x_cons (x_ix g (x_var (i := 0)) (x_var (i := 1))) x_nil)))⟩)) x_nil)))
      ds_nil)
theorem w__law_number {P : Program} {W : World} {c : Wc} {fi : Nat → Addr} {mg : Str → Option Value} {base : Heap} (T : Tx P c fi mg)  (Dx : Def0 c mg "_law_number" (topS 51)) : FnI P W c mg base 1 "_law_number" ["v", "number"] sp__law_number :=
  fnI_of (N := ["v", "number"]) (rd__law_number c) Dx (C8.fnScope_by (by decide +kernel)) (fun _ _ _ _ _ _ us hl => match us, hl with | [_, _], _ => rfl) len__law_number (pl__law_number c) fun hd f cdv A outer s H E gs =>
    have g := gs.toGE
    (ds_cons (ds_ret (de_ife (q_cmp (od_ne g.K g.u64) (x_var (i := 1)) x_int) (do_dispT false g.u1 (fun hd => let g := g.whd hd; (x_bin (od_mul g.K) (do_tup (x_cons x_int x_nil)) (x_var (i := 0)))) (fun hd => let g := g.whd hd; (x_var (i := 1)))) (do_dict0 false true)))
      ds_nil)
theorem w__law_letter {P : Program} {W : World} {c : Wc} {fi : Nat → Addr} {mg : Str → Option Value} {base : Heap} (T : Tx P c fi mg)  (Dx : Def0 c mg "_law_letter" (topS 52)) : FnI P W c mg base 1 "_law_letter" ["v", "k"] sp__law_letter :=
  fnI_of (N := ["v", "k", "j"]) (rd__law_letter c) Dx (C8.fnScope_by (by decide +kernel)) (fun _ _ _ _ _ _ us hl => match us, hl with | [_, _], _ => rfl) len__law_letter (pl__law_letter c) fun hd f cdv A outer s H E gs =>
    have g := gs.toGE
    (ds_cons (ds_ret (do_dispT false g.u1 (fun hd => let g := g.whd hd; (x_ty (cd_tup g.K) T.n_tuple (x_cons (x_lc false g (i_rg1 g T.n_range (x_var (i := 0))) (blkOk_by (own := [("j", 2)]) (by kernel_rfl)) (fun hd s1 H C cl fp E g => ⟨(g_name g (i := 2)), dts_nil, (de_ife (q_cmp (od_eq g.K g.u64) (x_var (i := 2)) (x_var (i := 1))) x_int x_int)⟩)) x_nil))) (fun hd => let g := g.whd hd; x_int)))
      ds_nil)
theorem w__law_drawn {P : Program} {W : World} {c : Wc} {fi : Nat → Addr} {mg : Str → Option Value} {base : Heap} (T : Tx P c fi mg) (f__law_pick : FnI P W c mg base 3 "_law_pick" ["draw", "some"] sp__law_pick) (f__law_take : FnI P W c mg base 2 "_law_take" ["draw", "size"] sp__law_take) (Dx : Def0 c mg "_law_drawn" (topS 53)) : FnI P W c mg base 4 "_law_drawn" ["draw", "v", "many", "low", "high"] sp__law_drawn :=
  fnI_of (N := ["draw", "v", "many", "low", "high", "found", "k", "row", "j"]) (rd__law_drawn c) Dx (C8.fnScope_by (by decide +kernel)) (fun _ _ _ _ _ _ us hl => match us, hl with | [_, _, _, _, _], _ => rfl) len__law_drawn (pl__law_drawn c) fun hd f cdv A outer s H E gs =>
    have g := gs.toGE
    (ds_cons (s_set g (i := 5) (do_dict0 true true))
      (ds_cons (s_for gs (i_rg1 g T.n_range (x_call g f__law_take (x_cons (x_var (i := 0)) (x_cons (x_bin (od_add false g.K) (x_var (i := 2)) x_int) x_nil)))) (g_name g (i := 6)) (ds_cons (s_set g (i := 7) (x_ty (cd_tup g.K) T.n_tuple (x_cons (x_lc false g (i_rg1 g T.n_range (x_var (i := 1))) (blkOk_by (own := [("j", 8)]) (by kernel_rfl)) (fun hd s1 H C cl fp E g => ⟨(g_name g (i := 8)), dts_nil, (x_bin (od_add false g.K) (x_var (i := 3)) (x_call g f__law_take (x_cons (x_var (i := 0)) (x_cons (x_bin (od_add false g.K) (x_bin od_subI (x_var (i := 4)) (x_var (i := 3))) x_int) x_nil))))⟩)) x_nil)))
      (ds_cons (s_put g (x_var (i := 5)) (x_var (i := 7)) (x_call g f__law_pick (x_cons (x_var (i := 0)) (x_cons (do_lst false (x_cons x_int (x_cons x_int (x_cons x_int (x_cons (do_neg x_int) (x_cons x_int (x_cons (do_neg x_int) (x_cons x_int (x_cons (x_bin od_powI x_int x_int) x_nil))))))))) x_nil))))
      ds_nil)))
      (ds_cons (ds_ret (x_var (i := 5)))
      ds_nil)))
theorem w__law_is_sum_here {P : Program} {W : World} {c : Wc} {fi : Nat → Addr} {mg : Str → Option Value} {base : Heap} (T : Tx P c fi mg)  (Dx : Def0 c mg "_law_is_sum_here" (topS 54)) : FnI P W c mg base 1 "_law_is_sum_here" ["v", "thing"] sp__law_is_sum_here :=
  fnI_of (N := ["v", "thing", "one", "number", "k"]) (rd__law_is_sum_here c) Dx (C8.fnScope_by (by decide +kernel)) (fun _ _ _ _ _ _ us hl => match us, hl with | [_, _], _ => rfl) len__law_is_sum_here (pl__law_is_sum_here c) fun hd f cdv A outer s H E gs =>
    have g := gs.toGE
    (ds_cons (ds_if (DW.dt (dw_or (dt_not (q_val (x_blt (T.isi g.K) T.n_isinstance (x_cons (x_var (i := 1)) (x_cons (x_gty "tuple" T.n_tuple) x_nil))))) (dw_or1 (q_cmp od_gtI (x_blt (cd_len g.K) T.n_len (x_cons (x_var (i := 1)) x_nil)) x_int)))) (ds_cons (ds_ret x_bl)
      ds_nil) ds_nil)
      (ds_cons (s_for gs (i_seq g (x_var (i := 1))) (g_name g (i := 2)) (ds_cons (ds_if (DW.dt (dw_or (dt_not (q_val (x_blt (T.isi g.K) T.n_isinstance (x_cons (x_var (i := 2)) (x_cons (x_gty "tuple" T.n_tuple) x_nil))))) (dw_or (q_cmp (od_ne g.K g.u64) (x_blt (cd_len g.K) T.n_len (x_cons (x_var (i := 2)) x_nil)) x_int) (dw_or (dt_not (q_val (x_blt (T.isi g.K) T.n_isinstance (x_cons (x_ix g (x_var (i := 2)) x_int) (x_cons (x_gty "tuple" T.n_tuple) x_nil))))) (dw_or1 (q_cmp (od_ne g.K g.u64) (x_blt (cd_len g.K) T.n_len (x_cons (x_ix g (x_var (i := 2)) x_int) x_nil)) (x_var (i := 0)))))))) (ds_cons (ds_ret x_bl)
      ds_nil) ds_nil)
      (ds_cons (ds_if (DW.dt (dw_or (q_cmp (od_ne g.K g.u64) (x_lc false g (i_seq g (x_bin (od_add false g.K) (x_ix g (x_var (i := 2)) x_int) (do_tup (x_cons (x_ix g (x_var (i := 2)) x_int) x_nil)))) (blkOk_by (own := [("number", 3)]) (by kernel_rfl)) (fun hd s1 H C cl fp E g => ⟨(g_name g (i := 3)), (dts_one (DW.dt (dw_or (dt_not (q_val (x_blt (T.isi g.K) T.n_isinstance (x_cons (x_var (i := 3)) (x_cons (x_gty "int" T.n_int) x_nil))))) (dw_or1 (q_val (x_blt (T.isi g.K) T.n_isinstance (x_cons (x_var (i := 3)) (x_cons (x_gty "bool" T.n_bool) x_nil)))))))), x_int⟩)) (do_lst false x_nil)) (dw_or1 (q_cmp (od_eq g.K g.u64) (x_ix g (x_var (i := 2)) x_int) x_int)))) (ds_cons (ds_ret x_bl)
      ds_nil) ds_nil)
      ds_nil)))
      (ds_cons (ds_ret (x_cmp (od_eq g.K g.u64) (x_lc false g (i_rg1 g T.n_range (x_bin od_subI (x_blt (cd_len g.K) T.n_len (x_cons (x_var (i := 1)) x_nil)) x_int)) (blkOk_by (own := [("k", 4)]) (by kernel_rfl)) (fun hd s1 H C cl fp E g => ⟨(g_name g (i := 4)), (dts_one (dt_not (q_cmp (od_lt g.K g.u0) (x_ix g (x_ix g (x_var (i := 1)) (x_var (i := 4))) x_int) (x_ix g (x_ix g (x_var (i := 1)) (x_bin (od_add false g.K) (x_var (i := 4)) x_int)) x_int)))), x_int⟩)) (do_lst false x_nil)))
      ds_nil)))
theorem w__law_caught {P : Program} {W : World} {c : Wc} {fi : Nat → Addr} {mg : Str → Option Value} {base : Heap} (T : Tx P c fi mg) (Dx : Def0 c mg "_law_caught" (topS 45)) : FnCI P W c mg base 8 9 "_law_caught" ["work"] (spCaught cokK) :=
  fnCI_caught Dx (C8.fnScope_by (by decide +kernel)) T.g_caught T.own T.exm (fun _ _ _ _ _ _ us hl => match us, hl with | [_], _ => rfl) rfl rfl rfl rfl rfl (fun _ => rfl) (fun _ => rfl) (fun _ => rfl)
theorem w__law_is_bad_number {P : Program} {W : World} {c : Wc} {fi : Nat → Addr} {mg : Str → Option Value} {base : Heap} (T : Tx P c fi mg) (f__law_same : FnI P W c mg base 1 "_law_same" ["told", "due"] sp__law_same) (G : FnCI P W c mg base 8 9 "_law_caught" ["work"] (spCaught cokK)) (Dx : Def0 c mg "_law_is_bad_number" (topS 47)) : FnCI P W c mg base 8 10 "_law_is_bad_number" ["work", "part"] sp__law_is_bad_number :=
  fnCI_first (N := ["work", "part", "error"]) (y := "error") (j := 2) (k := 9) (rd__law_is_bad_number c) Dx (C8.fnScope_by (by decide +kernel)) (fun _ _ _ _ _ _ us hl => match us, hl with | [_, _], _ => rfl) len__law_is_bad_number G (pl__law_is_bad_number T) rfl rfl rfl (.inl rfl) rfl rfl (fun _ => rfl) fun hd f cdv A outer s H E gs =>
    have g := gs.toGE
    (ds_cons (ds_ret (de_and (x_blt (T.isi g.K) T.n_isinstance (x_cons (x_var (i := 2)) (x_cons (x_gcls (i := 1) T.g_BadNumber) x_nil))) (de_one (x_call g f__law_same (x_cons (do_fld g.K T.errs T.no_part (x_var (i := 2)) (by rfl)) (x_cons (x_var (i := 1)) x_nil))))))
      ds_nil)
theorem w__law_is_bad_sum {P : Program} {W : World} {c : Wc} {fi : Nat → Addr} {mg : Str → Option Value} {base : Heap} (T : Tx P c fi mg) (f__law_same : FnI P W c mg base 1 "_law_same" ["told", "due"] sp__law_same) (G : FnCI P W c mg base 8 9 "_law_caught" ["work"] (spCaught cokK)) (Dx : Def0 c mg "_law_is_bad_sum" (topS 48)) : FnCI P W c mg base 8 10 "_law_is_bad_sum" ["work", "part"] sp__law_is_bad_sum :=
  fnCI_first (N := ["work", "part", "error"]) (y := "error") (j := 2) (k := 9) (rd__law_is_bad_sum c) Dx (C8.fnScope_by (by decide +kernel)) (fun _ _ _ _ _ _ us hl => match us, hl with | [_, _], _ => rfl) len__law_is_bad_sum G (pl__law_is_bad_sum T) rfl rfl rfl (.inl rfl) rfl rfl (fun _ => rfl) fun hd f cdv A outer s H E gs =>
    have g := gs.toGE
    (ds_cons (ds_ret (de_and (x_blt (T.isi g.K) T.n_isinstance (x_cons (x_var (i := 2)) (x_cons (x_gcls (i := 3) T.g_BadSum) x_nil))) (de_one (x_call g f__law_same (x_cons (do_fld g.K T.errs T.no_part (x_var (i := 2)) (by rfl)) (x_cons (x_var (i := 1)) x_nil))))))
      ds_nil)
theorem w__law_is_too_many {P : Program} {W : World} {c : Wc} {fi : Nat → Addr} {mg : Str → Option Value} {base : Heap} (T : Tx P c fi mg) (f__law_same : FnI P W c mg base 1 "_law_same" ["told", "due"] sp__law_same) (G : FnCI P W c mg base 8 9 "_law_caught" ["work"] (spCaught cokK)) (Dx : Def0 c mg "_law_is_too_many" (topS 49)) : FnCI P W c mg base 8 10 "_law_is_too_many" ["work", "most"] sp__law_is_too_many :=
  fnCI_first (N := ["work", "most", "error"]) (y := "error") (j := 2) (k := 9) (rd__law_is_too_many c) Dx (C8.fnScope_by (by decide +kernel)) (fun _ _ _ _ _ _ us hl => match us, hl with | [_, _], _ => rfl) len__law_is_too_many G (pl__law_is_too_many T) rfl rfl rfl (.inl rfl) rfl rfl (fun _ => rfl) fun hd f cdv A outer s H E gs =>
    have g := gs.toGE
    (ds_cons (ds_ret (de_and (x_blt (T.isi g.K) T.n_isinstance (x_cons (x_var (i := 2)) (x_cons (x_gcls (i := 2) T.g_TooMany) x_nil))) (de_one (x_call g f__law_same (x_cons (do_fld g.K T.errs T.no_most (x_var (i := 2)) (by rfl)) (x_cons (x_var (i := 1)) x_nil))))))
      ds_nil)
theorem w_law {P : Program} {W : World} {c : Wc} {fi : Nat → Addr} {mg : Str → Option Value} {base : Heap} (T : Tx P c fi mg) (f__law_begun : FnI P W c mg base 1 "_law_begun" ["script"] sp__law_begun) (f__law_drawn : FnI P W c mg base 4 "_law_drawn" ["draw", "v", "many", "low", "high"] sp__law_drawn) (f__law_is_bad_number : FnCI P W c mg base 8 10 "_law_is_bad_number" ["work", "part"] sp__law_is_bad_number) (f__law_is_bad_sum : FnCI P W c mg base 8 10 "_law_is_bad_sum" ["work", "part"] sp__law_is_bad_sum) (f__law_is_sum_here : FnI P W c mg base 1 "_law_is_sum_here" ["v", "thing"] sp__law_is_sum_here) (f__law_is_too_many : FnCI P W c mg base 8 10 "_law_is_too_many" ["work", "most"] sp__law_is_too_many) (f__law_letter : FnI P W c mg base 1 "_law_letter" ["v", "k"] sp__law_letter) (f__law_number : FnI P W c mg base 1 "_law_number" ["v", "number"] sp__law_number) (f__law_pick : FnI P W c mg base 3 "_law_pick" ["draw", "some"] sp__law_pick) (f__law_same : FnI P W c mg base 1 "_law_same" ["told", "due"] sp__law_same) (f__law_sum : FnI P W c mg base 1 "_law_sum" ["found"] sp__law_sum) (f__law_take : FnI P W c mg base 2 "_law_take" ["draw", "size"] sp__law_take) (f_greatest_exponents : FnI P W c mg base 7 "greatest_exponents" ["v", "one"] sp_greatest_exponents) (f_is_sum : FnI P W c mg base 5 "is_sum" ["v", "thing"] sp_is_sum) (f_least_exponents : FnI P W c mg base 7 "least_exponents" ["v", "one"] sp_least_exponents) (f_letter_sum : FnI P W c mg base 5 "letter_sum" ["v", "k"] sp_letter_sum) (f_number_sum : FnI P W c mg base 5 "number_sum" ["v", "number"] sp_number_sum) (f_sum_of : FnI P W c mg base 5 "sum_of" ["v", "pairs"] sp_sum_of) {f : Addr} {fd : FuncData} {cd Pt : Addr} (F : FunC c.K "law" "law" (topS 55) f fd cd) (TB : TabB base mg cd Pt) (hmT : (Pt, lamQ) ∈ c.T) (huT : ∀ p ∈ c.T, p.1 = Pt → p.2 = lamQ) : FnG P W c mg base 11 f fd ["script"] sp_law :=
  fnG_ofC (N := ["script", "draw", "lap", "v", "one", "row", "near", "thing", "pairs", "k", "found", "exponents", "count", "number", "rows", "j", "great", "bad"]) (rd_law c) F (C8.fnScope_by (by decide +kernel)) len_law (pl_law c) fun hd A outer s H E gs =>
    have g := gs.toGE
    (ds_cons (s_set g (i := 1) (x_call g f__law_begun (x_cons (x_var (i := 0)) x_nil)))
      (ds_cons (s_for gs (i_rg1 g T.n_range (x_bin (od_add false g.K) x_int (x_blt (cd_min g.calm) T.n_min (x_cons (x_blt (cd_len g.K) T.n_len (x_cons (x_var (i := 0)) x_nil)) (x_cons x_int x_nil))))) (g_name g (i := 2)) (ds_cons (s_set g (i := 3) (x_bin (od_add false g.K) x_int (x_call g f__law_take (x_cons (x_var (i := 1)) (x_cons x_int x_nil)))))
      (ds_cons (s_set g (i := 4) (x_call g f__law_sum (x_cons (x_call g f__law_drawn (x_cons (x_var (i := 1)) (x_cons (x_var (i := 3)) (x_cons x_int (x_cons (do_neg x_int) (x_cons x_int x_nil)))))) x_nil)))
      (ds_cons (ds_if (q_cmp od_isNot (x_call g f_is_sum (x_cons (x_var (i := 3)) (x_cons (x_var (i := 4)) x_nil))) x_bl) (ds_cons (ds_ret x_bl)
      ds_nil) ds_nil)
      (ds_cons (s_set g (i := 5) (x_bin (od_mul g.K) (do_tup (x_cons x_int x_nil)) (x_var (i := 3))))
      (ds_cons (s_set g (i := 6) (do_lst false (x_cons (x_ty (cd_lst false g.K) T.n_list (x_cons (x_var (i := 4)) x_nil)) (x_cons (x_bin (od_add false g.K) (x_var (i := 4)) (do_tup (x_cons (do_tup (x_cons (x_var (i := 5)) (x_cons x_int x_nil))) x_nil))) (x_cons (x_bin (od_add false g.K) (x_var (i := 4)) (x_var (i := 4))) (x_cons (do_rev false g.K (x_var (i := 4))) (x_cons (x_bin (od_add false g.K) (x_var (i := 4)) (do_tup (x_cons (do_tup (x_cons (x_bin (od_add false g.K) (x_var (i := 5)) (do_tup (x_cons x_int x_nil))) (x_cons x_int x_nil))) x_nil))) (x_cons (x_bin (od_add false g.K) (x_var (i := 4)) (do_tup (x_cons (do_tup (x_cons (x_ty (cd_lst false g.K) T.n_list (x_cons (x_var (i := 5)) x_nil)) (x_cons x_int x_nil))) x_nil))) (x_cons (x_bin (od_add false g.K) (x_var (i := 4)) (do_tup (x_cons (do_tup (x_cons (x_var (i := 5)) (x_cons x_bl x_nil))) x_nil))) (x_cons (x_bin (od_add false g.K) (x_var (i := 4)) (do_tup (x_cons (do_tup (x_cons (x_var (i := 5)) x_nil)) x_nil))) (x_cons x_non (x_cons x_int (x_cons (do_tup (x_cons (do_tup (x_cons (x_var (i := 5)) (x_cons x_int x_nil))) (x_cons (do_tup (x_cons (x_var (i := 5)) (x_cons x_int x_nil))) x_nil))) (x_cons (do_tup (x_cons (do_tup (x_cons (x_bin (od_mul g.K) (do_tup (x_cons x_bl x_nil)) (x_var (i := 3))) (x_cons x_int x_nil))) x_nil)) x_nil))))))))))))))
      (ds_cons (s_set g (i := 7) (x_call g f__law_pick (x_cons (x_var (i := 1)) (x_cons (x_var (i := 6)) x_nil))))
      (ds_cons (ds_if (q_cmp (od_ne g.K g.u64) (x_call g f_is_sum (x_cons (x_var (i := 3)) (x_cons (x_var (i := 7)) x_nil))) (x_call g f__law_is_sum_here (x_cons (x_var (i := 3)) (x_cons (x_var (i := 7)) x_nil)))) (ds_cons (ds_ret x_bl)
      ds_nil) ds_nil)
      (ds_cons (s_setLc false g (i := 8) (i_rg1 g T.n_range (x_call g f__law_take (x_cons (x_var (i := 1)) (x_cons x_int x_nil)))) (blkOk_by (own := [("k", 9)]) (by kernel_rfl)) (fun hd s1 H C cl fp E g => ⟨(g_name g (i := 9)), dts_nil, (x_call g f__law_pick (x_cons (x_var (i := 1)) (x_cons (x_bin (od_add false g.K) (x_ty (cd_lst false g.K) T.n_list (x_cons (x_var (i := 4)) x_nil)) (do_lst false (x_cons (do_tup (x_cons (x_var (i := 5)) (x_cons x_int x_nil))) (x_cons (do_tup (x_cons (x_var (i := 5)) (x_cons (do_neg x_int) x_nil))) x_nil)))) x_nil)))⟩))
      (ds_cons (s_set g (i := 10) (do_dict0 true true))
      (ds_cons (s_for gs (i_seq g (x_var (i := 8))) (g_tup g (n := 2) (g_cons (g_name g (i := 11)) (g_cons (g_name g (i := 12)) g_nil))) (ds_cons (s_put g (x_var (i := 10)) (x_var (i := 11)) (x_bin (od_add false g.K) (de_ife (q_cmp (od_in g.K g.u65) (x_var (i := 11)) (x_var (i := 10))) (x_ix g (x_var (i := 10)) (x_var (i := 11))) x_int) (x_var (i := 12))))
      ds_nil))
      (ds_cons (ds_if (DW.dt (dw_or (dt_not (q_val (x_call g f__law_same (x_cons (x_call g f_sum_of (x_cons (x_var (i := 3)) (x_cons (x_ty (cd_tup g.K) T.n_tuple (x_cons (x_var (i := 8)) x_nil)) x_nil))) (x_cons (x_call g f__law_sum (x_cons (x_var (i := 10)) x_nil)) x_nil))))) (dw_or1 (dt_not (q_val (x_call g f__law_same (x_cons (x_call g f_letter_sum (x_cons (x_var (i := 3)) (x_cons (x_var (i := 3)) x_nil))) (x_cons (x_call g f__law_sum (x_cons (x_call g f__law_letter (x_cons (x_var (i := 3)) (x_cons (x_bin od_subI (x_var (i := 3)) x_int) x_nil))) x_nil)) x_nil)))))))) (ds_cons (ds_ret x_bl)
      ds_nil) ds_nil)
      (ds_cons (s_set g (i := 13) (x_call g f__law_pick (x_cons (x_var (i := 1)) (x_cons (do_lst false (x_cons x_int (x_cons x_int (x_cons (do_neg x_int) (x_cons (x_bin od_powI x_int x_int) x_nil))))) x_nil))))
      (ds_cons (ds_if (dt_not (q_val (x_call g f__law_same (x_cons (x_call g f_number_sum (x_cons (x_var (i := 3)) (x_cons (x_var (i := 13)) x_nil))) (x_cons (x_call g f__law_sum (x_cons (x_call g f__law_number (x_cons (x_var (i := 3)) (x_cons (x_var (i := 13)) x_nil))) x_nil)) x_nil))))) (ds_cons (ds_ret x_bl)
      ds_nil) ds_nil)
      (ds_cons (ds_if (q_cmp (od_ne g.K g.u64) (x_var (i := 4)) (do_tup x_nil)) (ds_cons (s_set g (i := 14) (x_lc false g (i_seq g (x_var (i := 4))) (blkOk_by (own := [("exponents", 11), ("count", 12)]) (by kernel_rfl)) (fun hd s1 H C cl fp E g => ⟨(g_tup g (n := 2) (g_cons (g_name g (i := 11)) (g_cons (g_name g (i := 12)) g_nil))), dts_nil, (x_var (i := 11))⟩)))
      (ds_cons (ds_if (DW.dt (dw_or (q_cmp (od_ne g.K g.u64) (x_call g f_least_exponents (x_cons (x_var (i := 3)) (x_cons (x_var (i := 4)) x_nil))) (x_ty (cd_tup g.K) T.n_tuple (x_cons (x_lc false g (i_rg1 g T.n_range (x_var (i := 3))) (blkOk_by (own := [("j", 15)]) (by kernel_rfl)) (fun hd s1 H C cl fp E g => ⟨(g_name g (i := 15)), dts_nil, (x_blt (cd_min g.calm) T.n_min (x_cons (x_lc false g (i_seq g (x_var (i := 14))) (blkOk_by (own := [("row", 5)]) (by kernel_rfl)) (fun hd s1 H C cl fp E g => ⟨(g_name g (i := 5)), dts_nil, (x_ix g (x_var (i := 5)) (x_var (i := 15)))⟩)) x_nil))⟩)) x_nil))) (dw_or1 (q_cmp (od_ne g.K g.u64) (x_call g f_greatest_exponents (x_cons (x_var (i := 3)) (x_cons (x_var (i := 4)) x_nil))) (x_ty (cd_tup g.K) T.n_tuple (x_cons (x_lc false g (i_rg1 g T.n_range (x_var (i := 3))) (blkOk_by (own := [("j", 15)]) (by kernel_rfl)) (fun hd s1 H C cl fp E g => ⟨(g_name g (i := 15)), dts_nil, (x_blt (cd_max g.calm) T.n_max (x_cons (x_lc false g (i_seq g (x_var (i := 14))) (blkOk_by (own := [("row", 5)]) (by kernel_rfl)) (fun hd s1 H C cl fp E g => ⟨(g_name g (i := 5)), dts_nil, (x_ix g (x_var (i := 5)) (x_var (i := 15)))⟩)) x_nil))⟩)) x_nil)))))) (ds_cons (ds_ret x_bl)
      ds_nil) ds_nil)
      ds_nil)) ds_nil)
      ds_nil)))))))))))))))
      (ds_cons (s_set g (i := 16) (x_ty (cd_tup g.K) T.n_tuple (x_cons (x_lc false g (i_rg1 g T.n_range (x_bin (od_add false g.K) x_int (x_call g f__law_take (x_cons (x_var (i := 1)) (x_cons x_int x_nil))))) (blkOk_by (own := [("k", 9)]) (by kernel_rfl)) (fun hd s1 H C cl fp E g => ⟨(g_name g (i := 9)), dts_nil, (do_tup (x_cons (do_tup (x_cons (x_var (i := 9)) x_nil)) (x_cons x_int x_nil)))⟩)) x_nil)))
      (ds_cons (ds_if (q_cmp (od_ne g.K g.u64) (x_call g f_is_sum (x_cons x_int (x_cons (x_var (i := 16)) x_nil))) (x_cmp (od_eq g.K g.u64) (x_blt (cd_len g.K) T.n_len (x_cons (x_var (i := 16)) x_nil)) x_int)) (ds_cons (ds_ret x_bl)
      ds_nil) ds_nil)
      (ds_cons (ds_if (DW.dt (dw_or (DW.dt (dw_and (q_cmp od_gtI (x_blt (cd_len g.K) T.n_len (x_cons (x_var (i := 16)) x_nil)) x_int) (dw_and1 (dt_not (q_val (x_clo (kc := 7) g f__law_is_too_many TB rfl hmT huT (lamS_by (by kernel_rfl)) (fun f c1 A o s1 H E g => (x_call g f_sum_of (x_cons x_int (x_cons (x_var (i := 16)) x_nil)))) (x_cons x_int x_nil))))))) (dw_or1 (DW.dt (dw_and (q_cmp (od_eq g.K g.u64) (x_blt (cd_len g.K) T.n_len (x_cons (x_var (i := 16)) x_nil)) x_int) (dw_and1 (q_cmp (od_ne g.K g.u64) (x_call g f_sum_of (x_cons x_int (x_cons (do_rev false g.K (x_var (i := 16))) x_nil))) (x_var (i := 16))))))))) (ds_cons (ds_ret x_bl)
      ds_nil) ds_nil)
      (ds_cons (s_set g (i := 17) (x_call g f__law_pick (x_cons (x_var (i := 1)) (x_cons (do_lst false (x_cons x_non (x_cons x_int (x_cons x_int (x_cons x_bl (x_cons x_str x_nil)))))) x_nil))))
      (ds_cons (ds_if (dt_not (q_val (x_clo (kc := 7) g f__law_is_bad_number TB rfl hmT huT (lamS_by (by kernel_rfl)) (fun f c1 A o s1 H E g => (x_call g f_is_sum (x_cons (x_var (i := 17)) (x_cons x_non x_nil)))) (x_cons x_str x_nil)))) (ds_cons (ds_ret x_bl)
      ds_nil) ds_nil)
      (ds_cons (ds_if (dt_not (q_val (x_clo (kc := 7) g f__law_is_bad_number TB rfl hmT huT (lamS_by (by kernel_rfl)) (fun f c1 A o s1 H E g => (x_call g f_letter_sum (x_cons x_int (x_cons (x_call g f__law_pick (x_cons (x_var (i := 1)) (x_cons (do_lst false (x_cons x_int (x_cons x_int (x_cons x_non (x_cons x_bl x_nil))))) x_nil))) x_nil)))) (x_cons x_str x_nil)))) (ds_cons (ds_ret x_bl)
      ds_nil) ds_nil)
      (ds_cons (ds_if (dt_not (q_val (x_clo (kc := 7) g f__law_is_bad_sum TB rfl hmT huT (lamS_by (by kernel_rfl)) (fun f c1 A o s1 H E g => (x_call g f_sum_of (x_cons x_int (x_cons (x_call g f__law_pick (x_cons (x_var (i := 1)) (x_cons (do_lst false (x_cons x_non (x_cons (do_lst false (x_cons (do_tup (x_cons (do_tup (x_cons x_int (x_cons x_int x_nil))) (x_cons x_int x_nil))) x_nil)) (x_cons (do_tup (x_cons (do_tup (x_cons (do_tup (x_cons x_int x_nil)) (x_cons x_int x_nil))) x_nil)) (x_cons (do_tup (x_cons (do_tup (x_cons (do_tup (x_cons x_int (x_cons x_int x_nil))) (x_cons x_bl x_nil))) x_nil)) x_nil))))) x_nil))) x_nil)))) (x_cons x_str x_nil)))) (ds_cons (ds_ret x_bl)
      ds_nil) ds_nil)
      (ds_cons (ds_if (dt_not (q_val (x_clo (kc := 7) g f__law_is_bad_sum TB rfl hmT huT (lamS_by (by kernel_rfl)) (fun f c1 A o s1 H E g => (x_call g f_least_exponents (x_cons x_int (x_cons (x_call g f__law_pick (x_cons (x_var (i := 1)) (x_cons (do_lst false (x_cons (do_tup x_nil) (x_cons x_non (x_cons (do_tup (x_cons (do_tup (x_cons (do_tup (x_cons x_int (x_cons x_int x_nil))) (x_cons x_int x_nil))) x_nil)) x_nil)))) x_nil))) x_nil)))) (x_cons x_str x_nil)))) (ds_cons (ds_ret x_bl)
      ds_nil) ds_nil)
      (ds_cons (ds_ret (x_clo (kc := 7) g f__law_is_bad_number TB rfl hmT huT (lamS_by (by kernel_rfl)) (fun f c1 A o s1 H E g => (x_call g f_number_sum (x_cons x_int (x_cons (x_call g f__law_pick (x_cons (x_var (i := 1)) (x_cons (do_lst false (x_cons x_non (x_cons x_bl (x_cons x_str x_nil)))) x_nil))) x_nil)))) (x_cons x_str x_nil)))
      ds_nil)))))))))))
theorem sp_start (ns : List Int) (h : ns.length ≤ 63) : sp_law [.scr ns] [] (fun d _ => d = .bl true) fun _ _ _ => False := ⟨rfl, h, fun _ => rfl⟩
def cnL : List Str := [("TurnError" : Str), ("BadNumber" : Str), ("TooMany" : Str), ("BadSum" : Str)]
def cfL : List (List Str) := [[], ["part"], ["most"], ["part"]]
def dsL : List (Str × Nat) := [(("is_number" : Str), (6 : Nat)), (("is_between" : Str), (7 : Nat)), (("is_tuple" : Str), (8 : Nat)), (("need_between" : Str), (9 : Nat)), (("need_few" : Str), (10 : Nat)), (("ten_up" : Str), (13 : Nat)), (("is_long" : Str), (14 : Nat)), (("need_digits" : Str), (15 : Nat)), (("is_row" : Str), (21 : Nat)), (("is_small_row" : Str), (22 : Nat)), (("is_term" : Str), (23 : Nat)), (("is_sum_told" : Str), (24 : Nat)), (("need_letters" : Str), (25 : Nat)), (("need_sum" : Str), (26 : Nat)), (("collected" : Str), (27 : Nat)), (("few_terms" : Str), (28 : Nat)), (("letter_told" : Str), (29 : Nat)), (("number_told" : Str), (30 : Nat)), (("is_sum" : Str), (31 : Nat)), (("letter_sum" : Str), (32 : Nat)), (("number_sum" : Str), (33 : Nat)), (("sum_of" : Str), (34 : Nat)), (("least_told" : Str), (35 : Nat)), (("greatest_told" : Str), (36 : Nat)), (("need_some_sum" : Str), (37 : Nat)), (("least_exponents" : Str), (38 : Nat)), (("greatest_exponents" : Str), (39 : Nat)), (("_law_begun" : Str), (41 : Nat)), (("_law_blend" : Str), (42 : Nat)), (("_law_take" : Str), (43 : Nat)), (("_law_pick" : Str), (44 : Nat)), (("_law_caught" : Str), (45 : Nat)), (("_law_same" : Str), (46 : Nat)), (("_law_is_bad_number" : Str), (47 : Nat)), (("_law_is_bad_sum" : Str), (48 : Nat)), (("_law_is_too_many" : Str), (49 : Nat)), (("_law_sum" : Str), (50 : Nat)), (("_law_number" : Str), (51 : Nat)), (("_law_letter" : Str), (52 : Nat)), (("_law_drawn" : Str), (53 : Nat)), (("_law_is_sum_here" : Str), (54 : Nat))]
def frL : List Str := [("int" : Str), ("isinstance" : Str), ("bool" : Str), ("tuple" : Str), ("len" : Str), ("super" : Str), ("abs" : Str), ("all" : Str), ("range" : Str), ("sorted" : Str), ("min" : Str), ("max" : Str), ("repr" : Str), ("list" : Str)]
def itL : List (Str × Int) := [(("SHORT" : Str), (10000000000000000000000000000000000000000000000000000000000000000 : Int)), (("MOST_EXPONENT" : Str), (1000000000000 : Int)), (("MOST_DIGITS" : Str), (4000 : Int)), (("MOST_TERMS" : Str), (2000 : Int)), (("MOST_LETTERS" : Str), (16 : Int))]
def ztL : List (Str × Str) := []
def lwA (K : PySem.W.Frag) : Addr := He.ga K "law"
def lwT (K : PySem.W.Frag) : Addr := tabOf K (cdOf K (lwA K))
def cW (K : PySem.W.Frag) : Wc := ⟨K, [(lwT K, lamQ)], gaL K cnL, fun i => cfL.getD i []⟩
def fiW (K : PySem.W.Frag) (i : Nat) : Addr := He.ma K (gaL K cnL i) "__init__"
abbrev PW : Program := PySem.Challenge.pw_turnedletters_k02_whole_forms_of_sums
def endB (K : PySem.W.Frag) (ts : List Addr) : Bool := clsesB K cnL cfL subK cokK 0 && (errB PW K (gaL K cnL 1) "part" && cdB K (fiW K 1) "BadNumber.__init__" && (errB PW K (gaL K cnL 2) "most" && cdB K (fiW K 2) "TooMany.__init__" && (errB PW K (gaL K cnL 3) "part" && cdB K (fiW K 3) "BadSum.__init__" && (lawB K "law" && decide (lwT K ∈ ts)))))
theorem law_end {w : World} {K : PySem.W.Frag} {h : Heap} {mg : Str → Option Value} {fa : Addr} {ts : List Addr} (X : K.In h) (G : h.Ns mainGlobals mg) (hfa : mg "law" = some (.ref fa)) (T8 : ∀ P ∈ ts, h.get? P = some (PySem.W.tabObj #[])) (b : endB K ts = true) (S : He.SaysE (faL dsL frL itL ztL) (fnL topS dsL) (cW K).K)
    (o_BadNumber : eObs K (fiW K 1) = (some ("__init__", "BadNumber.__init__", eA "part" ⟨6, 17, 6, 21⟩ ⟨6, 23, 6, 27⟩, .stmts (eB "part" "a number is wrong" ⟨7, 8, 7, 13⟩ ⟨7, 8, 7, 15⟩ ⟨7, 8, 7, 24⟩ ⟨7, 25, 7, 44⟩ ⟨7, 8, 7, 45⟩ ⟨7, 8, 7, 45⟩ ⟨8, 8, 8, 12⟩ ⟨8, 8, 8, 17⟩ ⟨8, 20, 8, 24⟩ ⟨8, 8, 8, 24⟩), eS "part", mainGlobals, [("__class__", ccOf K (fiW K 1))], .none, .none, builtinsNs) : EV))
    (o_TooMany : eObs K (fiW K 2) = (some ("__init__", "TooMany.__init__", eA "most" ⟨11, 17, 11, 21⟩ ⟨11, 23, 11, 27⟩, .stmts (eB "most" "more than can be worked out" ⟨12, 8, 12, 13⟩ ⟨12, 8, 12, 15⟩ ⟨12, 8, 12, 24⟩ ⟨12, 25, 12, 54⟩ ⟨12, 8, 12, 55⟩ ⟨12, 8, 12, 55⟩ ⟨13, 8, 13, 12⟩ ⟨13, 8, 13, 17⟩ ⟨13, 20, 13, 24⟩ ⟨13, 8, 13, 24⟩), eS "most", mainGlobals, [("__class__", ccOf K (fiW K 2))], .none, .none, builtinsNs) : EV))
    (o_BadSum : eObs K (fiW K 3) = (some ("__init__", "BadSum.__init__", eA "part" ⟨16, 17, 16, 21⟩ ⟨16, 23, 16, 27⟩, .stmts (eB "part" "no sum" ⟨17, 8, 17, 13⟩ ⟨17, 8, 17, 15⟩ ⟨17, 8, 17, 24⟩ ⟨17, 25, 17, 33⟩ ⟨17, 8, 17, 34⟩ ⟨17, 8, 17, 34⟩ ⟨18, 8, 18, 12⟩ ⟨18, 8, 18, 17⟩ ⟨18, 20, 18, 24⟩ ⟨18, 8, 18, 24⟩), eS "part", mainGlobals, [("__class__", ccOf K (fiW K 3))], .none, .none, builtinsNs) : EV))
    (o_law : eObs K (lwA K) = (some ("law", "law", defArgs (topS 55), .stmts (defBody (topS 55)), defScope (topS 55), mainGlobals, [], .none, .none, builtinsNs) : EV)) : LawG PySem.Challenge.rw_turnedletters_k02_whole_forms_of_sums w K 11 "script" mg fa h sp_law := by
  simp only [endB, Bool.and_eq_true, decide_eq_true_eq] at b
  obtain ⟨bc, ⟨b_BadNumber, c_BadNumber⟩, ⟨b_TooMany, c_TooMany⟩, ⟨b_BadSum, c_BadSum⟩, bl, bm⟩ := b
  have C : Clses K cnL cfL subK cokK 0 := clses_of (by decide) rfl (fun i j => by simp only [subK, fx, cnL, List.length_cons, List.length_nil]; repeat (split <;> try omega) <;> simp_all) (fun i => by simp only [cokK, subK, fx, cnL, List.length_cons, List.length_nil]; repeat (split <;> try omega) <;> simp_all) bc
  have T : Tx PW (cW K) (fiW K) mg := { errs := C.errs, kit := C.kit, kty := C.kty, l_BadNumber := rfl, e_BadNumber := errTxt_of b_BadNumber (by decide +kernel) o_BadNumber c_BadNumber (fun _ _ _ _ _ _ _ _ => by first | rfl | with_unfolding_all rfl) ⟨_, fun _ _ _ _ => rfl⟩, l_TooMany := rfl, e_TooMany := errTxt_of b_TooMany (by decide +kernel) o_TooMany c_TooMany (fun _ _ _ _ _ _ _ _ => by first | rfl | with_unfolding_all rfl) ⟨_, fun _ _ _ _ => rfl⟩, l_BadSum := rfl, e_BadSum := errTxt_of b_BadSum (by decide +kernel) o_BadSum c_BadSum (fun _ _ _ _ _ _ _ _ => by first | rfl | with_unfolding_all rfl) ⟨_, fun _ _ _ _ => rfl⟩, no_most := fun i e => C.no i _ e, no_part := fun i e => C.no i _ e, n_int := fre_of S X G 0, n_isinstance := fre_of S X G 1, n_bool := fre_of S X G 2, n_tuple := fre_of S X G 3, n_len := fre_of S X G 4, n_super := fre_of S X G 5, g_BadNumber := C.glo h mg X G 1 _ rfl, g_TooMany := C.glo h mg X G 2 _ rfl, n_abs := fre_of S X G 6, k_SHORT := int_of S X G 0, n_all := fre_of S X G 7, k_MOST_EXPONENT := int_of S X G 1, k_MOST_DIGITS := int_of S X G 2, n_range := fre_of S X G 8, k_MOST_TERMS := int_of S X G 3, k_MOST_LETTERS := int_of S X G 4, g_BadSum := C.glo h mg X G 3 _ rfl, n_sorted := fre_of S X G 9, n_min := fre_of S X G 10, n_max := fre_of S X G 11, n_repr := fre_of S X G 12, n_list := fre_of S X G 13, g_caught := C.glo h mg X G 0 _ rfl, own := C.own, exm := C.exm }
  refine lawG_of (st := topS 55) (lq := lamQ) (c := cW K) X G hfa T8 bl o_law bm rfl rfl (fun _ _ _ _ _ _ _ => by first | rfl | with_unfolding_all rfl) fun fd base FC TB => ?_
  have f_is_number := w_is_number (P := PW) (W := w) (base := base) T  (def_of S X G 0)
  have f_is_between := w_is_between (P := PW) (W := w) (base := base) T f_is_number (def_of S X G 1)
  have f_is_tuple := w_is_tuple (P := PW) (W := w) (base := base) T  (def_of S X G 2)
  have f_need_between := w_need_between (P := PW) (W := w) (base := base) T f_is_between (def_of S X G 3)
  have f_need_few := w_need_few (P := PW) (W := w) (base := base) T  (def_of S X G 4)
  have f_ten_up := w_ten_up (P := PW) (W := w) (base := base) T  (def_of S X G 5)
  have f_is_long := w_is_long (P := PW) (W := w) (base := base) T f_ten_up (def_of S X G 6)
  have f_need_digits := w_need_digits (P := PW) (W := w) (base := base) T f_is_long (def_of S X G 7)
  have f_is_row := w_is_row (P := PW) (W := w) (base := base) T f_is_number f_is_tuple (def_of S X G 8)
  have f_is_small_row := w_is_small_row (P := PW) (W := w) (base := base) T  (def_of S X G 9)
  have f_is_term := w_is_term (P := PW) (W := w) (base := base) T f_is_long f_is_number f_is_row f_is_small_row f_is_tuple (def_of S X G 10)
  have f_is_sum_told := w_is_sum_told (P := PW) (W := w) (base := base) T f_is_term (def_of S X G 11)
  have f_need_letters := w_need_letters (P := PW) (W := w) (base := base) T f_need_between (def_of S X G 12)
  have f_need_sum := w_need_sum (P := PW) (W := w) (base := base) T f_is_sum_told (def_of S X G 13)
  have f_collected := w_collected (P := PW) (W := w) (base := base) T  (def_of S X G 14)
  have f_few_terms := w_few_terms (P := PW) (W := w) (base := base) T f_is_small_row f_need_digits f_need_few (def_of S X G 15)
  have f_letter_told := w_letter_told (P := PW) (W := w) (base := base) T  (def_of S X G 16)
  have f_number_told := w_number_told (P := PW) (W := w) (base := base) T  (def_of S X G 17)
  have f_is_sum := w_is_sum (P := PW) (W := w) (base := base) T f_is_sum_told f_need_letters (def_of S X G 18)
  have f_letter_sum := w_letter_sum (P := PW) (W := w) (base := base) T f_letter_told f_need_between f_need_letters (def_of S X G 19)
  have f_number_sum := w_number_sum (P := PW) (W := w) (base := base) T f_few_terms f_is_number f_need_letters f_number_told (def_of S X G 20)
  have f_sum_of := w_sum_of (P := PW) (W := w) (base := base) T f_collected f_few_terms f_is_term f_need_letters (def_of S X G 21)
  have f_least_told := w_least_told (P := PW) (W := w) (base := base) T  (def_of S X G 22)
  have f_greatest_told := w_greatest_told (P := PW) (W := w) (base := base) T  (def_of S X G 23)
  have f_need_some_sum := w_need_some_sum (P := PW) (W := w) (base := base) T f_need_sum (def_of S X G 24)
  have f_least_exponents := w_least_exponents (P := PW) (W := w) (base := base) T f_least_told f_need_letters f_need_some_sum (def_of S X G 25)
  have f_greatest_exponents := w_greatest_exponents (P := PW) (W := w) (base := base) T f_greatest_told f_need_letters f_need_some_sum (def_of S X G 26)
  have f__law_begun := w__law_begun (P := PW) (W := w) (base := base) T  (def_of S X G 27)
  have f__law_blend := w__law_blend (P := PW) (W := w) (base := base) T  (def_of S X G 28)
  have f__law_take := w__law_take (P := PW) (W := w) (base := base) T f__law_blend (def_of S X G 29)
  have f__law_pick := w__law_pick (P := PW) (W := w) (base := base) T f__law_take (def_of S X G 30)
  have f__law_caught := w__law_caught (P := PW) (W := w) (base := base) T (def_of S X G 31)
  have f__law_same := w__law_same (P := PW) (W := w) (base := base) T  (def_of S X G 32)
  have f__law_is_bad_number := w__law_is_bad_number (P := PW) (W := w) (base := base) T f__law_same f__law_caught (def_of S X G 33)
  have f__law_is_bad_sum := w__law_is_bad_sum (P := PW) (W := w) (base := base) T f__law_same f__law_caught (def_of S X G 34)
  have f__law_is_too_many := w__law_is_too_many (P := PW) (W := w) (base := base) T f__law_same f__law_caught (def_of S X G 35)
  have f__law_sum := w__law_sum (P := PW) (W := w) (base := base) T  (def_of S X G 36)
  have f__law_number := w__law_number (P := PW) (W := w) (base := base) T  (def_of S X G 37)
  have f__law_letter := w__law_letter (P := PW) (W := w) (base := base) T  (def_of S X G 38)
  have f__law_drawn := w__law_drawn (P := PW) (W := w) (base := base) T f__law_pick f__law_take (def_of S X G 39)
  have f__law_is_sum_here := w__law_is_sum_here (P := PW) (W := w) (base := base) T  (def_of S X G 40)
  exact w_law (P := PW) (W := w) (base := base) T f__law_begun f__law_drawn f__law_is_bad_number f__law_is_bad_sum f__law_is_sum_here f__law_is_too_many f__law_letter f__law_number f__law_pick f__law_same f__law_sum f__law_take f_greatest_exponents f_is_sum f_least_exponents f_letter_sum f_number_sum f_sum_of FC TB (List.mem_singleton.mpr rfl) (fun p hp _ => by rw [List.mem_singleton.mp hp])
end Law
open PySem PySem.W PyProof.Rows
set_option maxRecDepth 100000 in
set_option maxHeartbeats 0 in
theorem PySem.Challenge.cw_turnedletters_k02_whole_forms_of_sums_holds : PySem.Challenge.rw_turnedletters_k02_whole_forms_of_sums.Holds := by
  w_on; o_law; k_head; (case hw => w_witness2)
  k_fill
  refine TL.walk_ofG (n := 63) (k := 11) (x := "script") Law.sp_law rfl (by decide) rfl ⟨rfl, by decide, by decide⟩ (fun w h Y => PySem.W.km_in_of Y) (fun ns hns => Law.sp_start ns hns) fun w mg fa h Y KX G hmg => ?_
  exact Law.law_end KX G hmg (PySem.W.km_tabs_of Y) (by kernel_rfl) (by unfold He.SaysE; kernel_rfl) (by kernel_rfl) (by kernel_rfl) (by kernel_rfl) (by kernel_rfl)
#print axioms PySem.Challenge.cw_turnedletters_k02_whole_forms_of_sums_holds
