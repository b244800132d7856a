import PyProof.Rows.All
import Wide.All
import OpenK.AllK
import Wide.FinOn
import HandS.ForMost
import HandS.Wide
import HandS.Flow
import HandS.IsInst
import HandS.TupAny
import HandS.Zip
import HandS.Style
import HandS.Conv
import HandS.Defaults
import HandS.Property
import HandS.Rev
import HandS.Deep
import HandS.DeepEq
import HandS.TupLe
import HandS.SortInts
import KE.SortData
import HandS.SetFor
import PySem.Challenge.RW_toldpushes_k42_any_value_as_barred_lot
set_option Elab.async false
set_option linter.all false
set_option maxRecDepth 100000
set_option maxHeartbeats 4000000
/-! DL: data, slots, meanings. -/
namespace DL
open PySem PySem.Spec PyProof.Rows L2

inductive D where
  | non | bl (b : Bool) | int (i : Int) | str (x : Str)
  | lst (xs : List D) | tup (xs : List D) | dic (kvs : List (Key × D)) | ins (c : Str) (fs : List (Str × D))
  | scr (ns : List Int)

section
variable (K : PySem.W.Frag) (mg : Str → Option Value)
mutual
inductive Rep (F : Hp) : V → D → Prop
  | non : Rep F .non .non
  | bl (b) : Rep F (.bl b) (.bl b)
  | int (i) : Rep F (.int i) (.int i)
  | str (x) : Rep F (.str x) (.str x)
  | lst {a vs xs} : F a = some (.lst vs) → RepL F vs xs → Rep F (.ref a) (.lst xs)
  | tup {a vs xs} : F a = some (.tup vs) → RepL F vs xs → Rep F (.ref a) (.tup xs)
  | dic {a kvs ds} : F a = some (.dK kvs) → RepK F kvs ds → Rep F (.ref a) (.dic ds)
  | ins {a C dx fs ds c} : mg c = some (.ref C) → F a = some (.ins C dx fs) → RepF F fs ds → Rep F (.ref a) (.ins c ds)
  | scr {a ns} : SqL K F a (ns.map V.int) → Rep F (.ref a) (.scr ns)
inductive RepL (F : Hp) : List V → List D → Prop
  | nil : RepL F [] []
  | cons {v vs d ds} : Rep F v d → RepL F vs ds → RepL F (v :: vs) (d :: ds)
inductive RepK (F : Hp) : List (Key × V) → List (Key × D) → Prop
  | nil : RepK F [] []
  | cons {k v vs d ds} : Rep F v d → RepK F vs ds → RepK F ((k, v) :: vs) ((k, d) :: ds)
inductive RepF (F : Hp) : List (Str × V) → List (Str × D) → Prop
  | nil : RepF F [] []
  | cons {k v vs d ds} : Rep F v d → RepF F vs ds → RepF F ((k, v) :: vs) ((k, d) :: ds)
end
end

/-- F lies in H -/
def Sub (F H : Hp) : Prop := ∀ a o, F a = some o → H a = some o
theorem Sub.refl {F : Hp} : Sub F F := fun _ _ h => h
theorem Sub.trans {A B C : Hp} (h : Sub A B) (g : Sub B C) : Sub A C := fun a o e => g a o (h a o e)
theorem Sub.rd {F H : Hp} (h : Sub F H) {a : Addr} {u : HO} (r : Rd F a u) : Rd H a u := r.elim (fun e => .inl (h _ _ e)) fun ⟨o, e⟩ => .inr ⟨o, h _ _ e⟩

theorem Sub.sqL {K : PySem.W.Frag} {F H : Hp} (h : Sub F H) {a : Addr} {xs : List V} (q : SqL K F a xs) : SqL K H a xs := q.elim (fun r => .inl (h.rd r)) .inr
section
variable {K : PySem.W.Frag} {mg : Str → Option Value} {F F' : Hp}
mutual
theorem Rep.mono (h : Sub F F') : ∀ {v d}, Rep K mg F v d → Rep K mg F' v d
  | _, _, .non => .non
  | _, _, .bl b => .bl b
  | _, _, .int b => .int b
  | _, _, .str b => .str b
  | _, _, .lst e r => .lst (h _ _ e) (RepL.mono h r)
  | _, _, .tup e r => .tup (h _ _ e) (RepL.mono h r)
  | _, _, .dic e r => .dic (h _ _ e) (RepK.mono h r)
  | _, _, .ins c e r => .ins c (h _ _ e) (RepF.mono h r)
  | _, _, .scr q => .scr (h.sqL q)
theorem RepL.mono (h : Sub F F') : ∀ {v d}, RepL K mg F v d → RepL K mg F' v d
  | _, _, .nil => .nil
  | _, _, .cons a r => .cons (Rep.mono h a) (RepL.mono h r)
theorem RepK.mono (h : Sub F F') : ∀ {v d}, RepK K mg F v d → RepK K mg F' v d
  | _, _, .nil => .nil
  | _, _, .cons a r => .cons (Rep.mono h a) (RepK.mono h r)
theorem RepF.mono (h : Sub F F') : ∀ {v d}, RepF K mg F v d → RepF K mg F' v d
  | _, _, .nil => .nil
  | _, _, .cons a r => .cons (Rep.mono h a) (RepF.mono h r)
end
theorem RepL.length : ∀ {vs : List V} {ds : List D}, RepL K mg F vs ds → vs.length = ds.length
  | _, _, .nil => rfl
  | _, _, .cons _ r => by rw [List.length_cons, List.length_cons, RepL.length r]
theorem RepL.app : ∀ {vs ws : List V} {ds es : List D}, RepL K mg F vs ds → RepL K mg F ws es → RepL K mg F (vs ++ ws) (ds ++ es)
  | _, _, _, _, .nil, r => r
  | _, _, _, _, .cons a r, q => .cons a (RepL.app r q)
theorem RepL.get : ∀ {vs : List V} {ds : List D} {i : Nat} {v : V}, RepL K mg F vs ds → vs[i]? = some v → ∃ d, ds[i]? = some d ∧ Rep K mg F v d
  | _, _, _, _, .nil, e => by simp at e
  | _, _, 0, _, .cons a r, e => by simp at e; subst e; exact ⟨_, rfl, a⟩
  | _, _, i + 1, _, .cons a r, e => by
    obtain ⟨d, h1, h2⟩ := RepL.get (i := i) r (by simpa using e)
    exact ⟨d, by simpa using h1, h2⟩
theorem RepL.getD : ∀ {vs : List V} {ds : List D} {i : Nat} {d : D}, RepL K mg F vs ds → ds[i]? = some d → ∃ v, vs[i]? = some v ∧ Rep K mg F v d
  | _, _, _, _, .nil, e => by simp at e
  | _, _, 0, _, .cons a r, e => by simp at e; subst e; exact ⟨_, rfl, a⟩
  | _, _, i + 1, _, .cons a r, e => by
    obtain ⟨d, h1, h2⟩ := RepL.getD (i := i) r (by simpa using e)
    exact ⟨d, by simpa using h1, h2⟩
theorem RepL.take : ∀ {vs : List V} {ds : List D} (n : Nat), RepL K mg F vs ds → RepL K mg F (vs.take n) (ds.take n)
  | _, _, 0, _ => .nil
  | _, _, _ + 1, .nil => .nil
  | _, _, n + 1, .cons a r => .cons a (RepL.take n r)
theorem RepL.drop : ∀ {vs : List V} {ds : List D} (n : Nat), RepL K mg F vs ds → RepL K mg F (vs.drop n) (ds.drop n)
  | _, _, 0, r => r
  | _, _, _ + 1, .nil => .nil
  | _, _, n + 1, .cons _ r => RepL.drop n r
theorem RepL.set {v : V} {d : D} (q : Rep K mg F v d) : ∀ {vs : List V} {ds : List D} (n : Nat), RepL K mg F vs ds → RepL K mg F (vs.set n v) (ds.set n d)
  | _, _, _, .nil => .nil
  | _, _, 0, .cons a r => .cons q r
  | _, _, n + 1, .cons a r => .cons a (RepL.set q n r)
theorem RepL.erase : ∀ {vs : List V} {ds : List D} (n : Nat), RepL K mg F vs ds → RepL K mg F (vs.eraseIdx n) (ds.eraseIdx n)
  | _, _, _, .nil => .nil
  | _, _, 0, .cons a r => r
  | _, _, n + 1, .cons a r => .cons a (RepL.erase n r)
theorem RepL.rev {vs : List V} {ds : List D} (r : RepL K mg F vs ds) : RepL K mg F vs.reverse ds.reverse := by
  induction r using RepL.rec (motive_1 := fun _ _ _ => True) (motive_3 := fun _ _ _ => True) (motive_4 := fun _ _ _ => True) with
  | nil => exact .nil
  | cons a r _ ih => rw [List.reverse_cons, List.reverse_cons]; exact ih.app (.cons a .nil)
  | _ => trivial
theorem RepL.ints : ∀ (ns : List Int), RepL K mg F (ns.map V.int) (ns.map D.int)
  | [] => .nil
  | n :: r => .cons (.int n) (RepL.ints r)
theorem RepL.ints_inv : ∀ {vs : List V} {ns : List Int}, RepL K mg F vs (ns.map D.int) → vs = ns.map V.int
  | _, [], h => by cases h; rfl
  | _, n :: r, h => by
    cases h with
    | cons a b =>
      cases a
      rw [RepL.ints_inv b]
      rfl
theorem RepF.look {x : Str} : ∀ {fs : List (Str × V)} {ds : List (Str × D)}, RepF K mg F fs ds → ∀ {d}, ds.lookup x = some d → ∃ v, fs.lookup x = some v ∧ Rep K mg F v d
  | _, _, .nil, _, e => by simp at e
  | _, _, .cons (k := k) a r, d, e => by
    rw [List.lookup_cons] at e ⊢
    cases h : x == k with
    | true => rw [h] at e; cases e; exact ⟨_, rfl, a⟩
    | false => rw [h] at e; exact RepF.look r e
end
/-! ### slots, operands, outcomes -/
/-- a name's slot: not known; a value that is shared; a list of this frame's own; a caller's list handed in by reference -/
inductive Slot where
  | un | fz (d : D) | own (xs : List D) | ref (xs : List D) | obj (c : Str) (fs : List (Str × D))
/-- held by this frame alone -/
def Slot.mine : Slot → Bool
  | .own _ => true
  | .ref _ => true
  | .obj _ _ => true
  | _ => false
abbrev Rho := List Slot
/-- what an expression hands on: a value that is shared; a new list; what a name's slot holds -/
inductive Opd where
  | val (d : D) | tmp (xs : List D) | nm (i : Nat)
def Opd.isTmp : Opd → Bool
  | .tmp _ => true
  | _ => false
inductive R (α : Type) where
  | ok (a : α) (ρ : Rho) | ex (c : Str) (ds : List D) (ρ : Rho) | no
abbrev M (α : Type) := Rho → R α
def R.bind {α β : Type} (r : R α) (f : α → M β) : R β := match r with
  | .ok a ρ => f a ρ
  | .ex c d ρ => .ex c d ρ
  | .no => .no
@[simp] theorem R.bind_ok {α β : Type} (a : α) (ρ : Rho) (f : α → M β) : (R.ok a ρ).bind f = f a ρ := rfl
@[simp] theorem R.bind_ex {α β : Type} (c : Str) (d : List D) (ρ : Rho) (f : α → M β) : (R.ex c d ρ : R α).bind f = .ex c d ρ := rfl
@[simp] theorem R.bind_no {α β : Type} (f : α → M β) : (R.no : R α).bind f = .no := rfl
/-- of something that may not be there -/
def R.of {α : Type} (o : Option α) (ρ : Rho) : R α := match o with
  | some a => .ok a ρ
  | none => .no
@[simp] theorem R.of_some {α : Type} (a : α) (ρ : Rho) : R.of (some a) ρ = .ok a ρ := rfl
@[simp] theorem R.of_none {α : Type} (ρ : Rho) : R.of (none : Option α) ρ = .no := rfl

def Opd.get (ρ : Rho) : Opd → Option D
  | .val d => some d
  | .tmp xs => some (.lst xs)
  | .nm i => match ρ[i]? with
    | some (.fz d) => some d
    | some (.own xs) => some (.lst xs)
    | some (.ref xs) => some (.lst xs)
    | _ => none
/-- as a value that is shared from now on -/
def Opd.toV : Opd → M D
  | .val d, ρ => .ok d ρ
  | .tmp xs, ρ => .ok (.lst xs) ρ
  | .nm i, ρ => match ρ[i]? with
    | some (.fz d) => .ok d ρ
    | some (.own xs) => .ok (.lst xs) (ρ.set i (.fz (.lst xs)))
    | _ => .no

/-! ### the state -/
/-- what stays through a frame: the written part, the module's names, the heap at the entry -/
structure Fm where
  K : PySem.W.Frag
  mg : Str → Option Value
  H0 : Hp
abbrev Om := Addr → Option Nat
def SlotOk (fm : Fm) (F H : Hp) (ω : Om) (σ : L2.St) (i : Nat) : Slot → Prop
  | .un => True
  | .fz d => ∃ v, σ[i]? = some (some v) ∧ Rep fm.K fm.mg F v d
  | .own xs => ∃ a vs, σ[i]? = some (some (.ref a)) ∧ ω a = some i ∧ fm.H0 a = none ∧ H a = some (.lst vs) ∧ RepL fm.K fm.mg F vs xs
  | .ref xs => ∃ a vs, σ[i]? = some (some (.ref a)) ∧ ω a = some i ∧ H a = some (.lst vs) ∧ RepL fm.K fm.mg F vs xs
  | .obj c fs => ∃ a C dx vs, σ[i]? = some (some (.ref a)) ∧ ω a = some i ∧ fm.mg c = some (.ref C) ∧ H a = some (.ins C dx vs) ∧ H dx = some (.own a) ∧ ω dx = none ∧ RepF fm.K fm.mg F vs fs
structure Sta (fm : Fm) (F H : Hp) (ω : Om) (σ : L2.St) (ρ : Rho) : Prop where
  sub : Sub F H
  sep : ∀ a i, ω a = some i → F a = none
  dom : ∀ a, H a = none → fm.H0 a = none
  len : ρ.length = σ.length
  own : ∀ a i, ω a = some i → σ[i]? = some (some (.ref a)) ∧ ∃ s, ρ[i]? = some s ∧ s.mine = true
  slot : ∀ i s, ρ[i]? = some s → SlotOk fm F H ω σ i s
structure Ext (fm : Fm) (F H : Hp) (ω : Om) (F' H' : Hp) (ω' : Om) : Prop where
  inc : Sub F F'
  pres : ∀ a o, H a = some o → ω a = none → H' a = some o
  fr : ∀ a o, F' a = some o → F a = some o ∨ H a = none ∨ ω a ≠ none
  om : ∀ a, ω' a ≠ none → ω a ≠ none ∨ H a = none
  lk : ∀ a i, ω a = some i → fm.H0 a ≠ none → ω' a = some i
  there : ∀ a, H' a = none → H a = none
/-- Hs: the heap ahead of the expression -/
def OpdOk (fm : Fm) (Hs F H : Hp) (ω : Om) (σ : L2.St) (v : V) : Opd → Prop
  | .val d => Rep fm.K fm.mg F v d
  | .tmp xs => ∃ a vs, v = .ref a ∧ F a = none ∧ ω a = none ∧ Hs a = none ∧ H a = some (.lst vs) ∧ RepL fm.K fm.mg F vs xs
  | .nm i => σ[i]? = some (some v)
/-- what may be read -/
def RepT (fm : Fm) (F H : Hp) (v : V) (d : D) : Prop := Rep fm.K fm.mg F v d ∨ ∃ a vs xs, v = .ref a ∧ d = .lst xs ∧ H a = some (.lst vs) ∧ RepL fm.K fm.mg F vs xs

section
variable {fm : Fm} {F H F1 H1 F2 H2 : Hp} {ω ω1 ω2 : Om} {σ : L2.St} {ρ ρ' : Rho} {v : V} {o : Opd} {d : D}
theorem Ext.refl : Ext fm F H ω F H ω := ⟨Sub.refl, fun _ _ h _ => h, fun _ _ h => .inl h, fun _ h => .inl h, fun _ _ h _ => h, fun _ h => h⟩
theorem Ext.trans (a : Ext fm F H ω F1 H1 ω1) (b : Ext fm F1 H1 ω1 F2 H2 ω2) : Ext fm F H ω F2 H2 ω2 where
  inc := a.inc.trans b.inc
  pres := fun c o h w => by
    have h1 := a.pres c o h w
    refine b.pres c o h1 ?_
    cases e : ω1 c with
    | none => rfl
    | some i =>
      rcases a.om c (by rw [e]; simp) with z | z
      · exact absurd w z
      · rw [h] at z; cases z
  fr := fun c o h => by
    rcases b.fr c o h with h | h | h
    · exact a.fr c o h
    · exact .inr (.inl (a.there c h))
    · rcases a.om c h with z | z
      · exact .inr (.inr z)
      · exact .inr (.inl z)
  om := fun c h => by
    rcases b.om c h with h | h
    · exact a.om c h
    · exact .inr (a.there c h)
  lk := fun c i h l => b.lk c i (a.lk c i h l) l
  there := fun c h => a.there c (b.there c h)
/-- a new object, not owned, shared or not -/
theorem Ext.new {p : Addr} {o : HO} (hp : H p = none) : Ext fm F H ω F (upd H p o) ω :=
  ⟨Sub.refl, fun a u h _ => by rw [upd_ne (ne_of_none h hp)]; exact h, fun _ _ h => .inl h, fun _ h => .inl h, fun _ _ h _ => h, fun a h => by
    by_cases e : a = p
    · subst e; exact hp
    · rw [upd_ne e] at h; exact h⟩
theorem Sta.fnone (S : Sta fm F H ω σ ρ) {p : Addr} (hp : H p = none) : F p = none := by
  cases e : F p with
  | none => rfl
  | some o => rw [S.sub p o e] at hp; cases hp
theorem Sta.hsome (S : Sta fm F H ω σ ρ) {a : Addr} {i : Nat} (h : ω a = some i) : ∃ o, H a = some o := by
  obtain ⟨h1, s, h2, h3⟩ := S.own a i h
  cases s with
  | un => cases h3
  | fz d => cases h3
  | own xs =>
    obtain ⟨b, vs, e, _, _, e2, _⟩ := S.slot i _ h2
    rw [h1] at e; cases e; exact ⟨_, e2⟩
  | ref xs =>
    obtain ⟨b, vs, e, _, e2, _⟩ := S.slot i _ h2
    rw [h1] at e; cases e; exact ⟨_, e2⟩
  | obj c fs =>
    obtain ⟨b, C, dx, vs, e, _, _, e2, _⟩ := S.slot i _ h2
    rw [h1] at e; cases e; exact ⟨_, e2⟩
theorem Sta.onone (S : Sta fm F H ω σ ρ) {p : Addr} (hp : H p = none) : ω p = none := by
  cases e : ω p with
  | none => rfl
  | some i => obtain ⟨vs, h⟩ := S.hsome e; rw [h] at hp; cases hp
theorem SlotOk.mono {i : Nat} {s : Slot} (h : SlotOk fm F H ω σ i s) (hF : Sub F F1) (hH : ∀ a, ω a = some i → H1 a = H a) (hD : ∀ a o, H a = some o → ω a = none → H1 a = some o) : SlotOk fm F1 H1 ω σ i s := by
  cases s with
  | un => trivial
  | fz d => obtain ⟨v, h1, h2⟩ := h; exact ⟨v, h1, h2.mono hF⟩
  | own xs => obtain ⟨a, vs, h1, h2, h3, h4, h5⟩ := h; exact ⟨a, vs, h1, h2, h3, by rw [hH a h2]; exact h4, h5.mono hF⟩
  | ref xs => obtain ⟨a, vs, h1, h2, h4, h5⟩ := h; exact ⟨a, vs, h1, h2, by rw [hH a h2]; exact h4, h5.mono hF⟩
  | obj c fs => obtain ⟨a, C, dx, vs, h1, h2, h3, h4, h5, h6, h7⟩ := h; exact ⟨a, C, dx, vs, h1, h2, h3, by rw [hH a h2]; exact h4, hD _ _ h5 h6, h6, h7.mono hF⟩
/-- the heap and the shared part grow, what is owned stays -/
theorem Sta.grow (S : Sta fm F H ω σ ρ) (hF : Sub F F1) (hs : Sub F1 H1) (hH : ∀ a o, H a = some o → H1 a = some o) (hn : ∀ a i, ω a = some i → F1 a = none) : Sta fm F1 H1 ω σ ρ where
  sub := hs
  sep := hn
  dom := fun a h => S.dom a (by
    cases e : H a with
    | none => rfl
    | some o => rw [hH a o e] at h; cases h)
  len := S.len
  own := S.own
  slot := fun i s h => (S.slot i s h).mono hF (fun a w => by
    obtain ⟨vs, e⟩ := S.hsome w
    rw [e]; exact hH a _ e) fun a o e _ => hH a o e
theorem Sta.new {p : Addr} {u : HO} (S : Sta fm F H ω σ ρ) (hp : H p = none) : Sta fm F (upd H p u) ω σ ρ :=
  S.grow Sub.refl (fun a o h => by rw [upd_ne (ne_of_none (S.sub a o h) hp)]; exact S.sub a o h) (fun a o h => by rw [upd_ne (ne_of_none h hp)]; exact h) S.sep
/-- an object that is not owned is shared from now on -/
theorem Sta.share {p : Addr} {u : HO} (S : Sta fm F H ω σ ρ) (hp : H p = some u) (hf : F p = none) (hw : ω p = none) : Sta fm (upd F p u) H ω σ ρ :=
  S.grow (fun a o h => by rw [upd_ne (ne_of_none h hf)]; exact h) (fun a o h => by
    by_cases e : a = p
    · subst e; rw [upd_same] at h; cases h; exact hp
    · rw [upd_ne e] at h; exact S.sub a o h) (fun _ _ h => h) fun a i w => by
    rw [upd_ne (fun e => by subst e; rw [hw] at w; cases w)]
    exact S.sep a i w
theorem Ext.share {p : Addr} {u : HO} (hf : F p = none) (hw : ω p = none) (h0 : H p = none) : Ext fm F H ω (upd F p u) (upd H p u) ω :=
  ⟨fun a o h => by rw [upd_ne (ne_of_none h hf)]; exact h, fun a o h _ => by rw [upd_ne (ne_of_none h h0)]; exact h, fun a o h => by
    by_cases e : a = p
    · subst e; exact .inr (.inl h0)
    · rw [upd_ne e] at h; exact .inl h, fun _ h => .inl h, fun _ _ h _ => h, fun a h => by
    by_cases e : a = p
    · subst e; exact h0
    · rw [upd_ne e] at h; exact h⟩
theorem RepT.mono (h : RepT fm F H v d) (hF : Sub F F1) (hH : ∀ a o, H a = some o → H1 a = some o) : RepT fm F1 H1 v d := by
  rcases h with h | ⟨a, vs, xs, h1, h2, h3, h4⟩
  · exact .inl (h.mono hF)
  · exact .inr ⟨a, vs, xs, h1, h2, hH _ _ h3, h4.mono hF⟩
theorem OpdOk.back {Hs Ht : Hp} (h : OpdOk fm Hs F H ω σ v o) (e : ∀ a, Hs a = none → Ht a = none) : OpdOk fm Ht F H ω σ v o := by
  cases o with
  | val d => exact h
  | nm i => exact h
  | tmp xs => obtain ⟨a, vs, rfl, h1, h2, h3, h4, h5⟩ := h; exact ⟨a, vs, rfl, h1, h2, e a h3, h4, h5⟩
theorem OpdOk.ext {Hs : Hp} (h : OpdOk fm Hs F H ω σ v o) (e : Ext fm F H ω F1 H1 ω1) : OpdOk fm Hs F1 H1 ω1 σ v o := by
  cases o with
  | val d => exact Rep.mono e.inc h
  | nm i => exact h
  | tmp xs =>
    obtain ⟨a, vs, rfl, h1, h2, h3, h4, h5⟩ := h
    refine ⟨a, vs, rfl, ?_, ?_, h3, e.pres a _ h4 h2, h5.mono e.inc⟩
    · cases q : F1 a with
      | none => rfl
      | some u =>
        rcases e.fr a u q with z | z | z
        · rw [h1] at z; cases z
        · rw [h4] at z; cases z
        · exact absurd h2 z
    · cases q : ω1 a with
      | none => rfl
      | some u =>
        rcases e.om a (by rw [q]; simp) with z | z
        · exact absurd h2 z
        · rw [h4] at z; cases z
theorem OpdOk.get {Hs : Hp} (S : Sta fm F H ω σ ρ) (h : OpdOk fm Hs F H ω σ v o) (e : o.get ρ = some d) : RepT fm F H v d := by
  cases o with
  | val d' => cases e; exact .inl h
  | tmp xs => cases e; obtain ⟨a, vs, rfl, _, _, _, h4, h5⟩ := h; exact .inr ⟨a, vs, xs, rfl, rfl, h4, h5⟩
  | nm i =>
    have h : σ[i]? = some (some v) := h
    unfold Opd.get at e
    simp only at e
    split at e
    · rename_i q; cases e
      obtain ⟨v', e1, r⟩ := S.slot i _ q
      rw [h] at e1; cases e1; exact .inl r
    · rename_i q; cases e
      obtain ⟨a, vs, e1, _, _, e2, r⟩ := S.slot i _ q
      rw [h] at e1; cases e1; exact .inr ⟨a, vs, _, rfl, rfl, e2, r⟩
    · rename_i q; cases e
      obtain ⟨a, vs, e1, _, e2, r⟩ := S.slot i _ q
      rw [h] at e1; cases e1; exact .inr ⟨a, vs, _, rfl, rfl, e2, r⟩
    · cases e
theorem get_set {α : Type} {l : List α} {i j : Nat} {x y : α} (h : (l.set i x)[j]? = some y) : (j = i ∧ y = x) ∨ (j ≠ i ∧ l[j]? = some y) := by
  by_cases e : i = j
  · subst e
    by_cases q : i < l.length
    · rw [List.getElem?_set_self q] at h; cases h; exact .inl ⟨rfl, rfl⟩
    · rw [List.getElem?_eq_none (by simpa using q)] at h; cases h
  · rw [List.getElem?_set_ne e] at h; exact .inr ⟨fun z => e z.symm, h⟩
theorem toV_ok (E : Ext fm F H ω F1 H1 ω1) (S : Sta fm F1 H1 ω1 σ ρ) (h : OpdOk fm H F1 H1 ω1 σ v o) (e : o.toV ρ = .ok d ρ') : ∃ F' ω', Ext fm F H ω F' H1 ω' ∧ Sta fm F' H1 ω' σ ρ' ∧ Rep fm.K fm.mg F' v d ∧
    Sub F1 F' ∧ (∀ b u, F' b = some u → F1 b = some u ∨ (v = .ref b ∧ (o.isTmp = true ∨ ω1 b ≠ none))) ∧ ∀ b, ω1 b = none → ω' b = none := by
  cases o with
  | val d' => cases e; exact ⟨F1, ω1, E, S, h, Sub.refl, fun _ _ q => .inl q, fun _ q => q⟩
  | tmp xs =>
    cases e
    obtain ⟨a, vs, rfl, h1, h2, h3, h4, h5⟩ := h
    have hi : Sub F1 (upd F1 a (.lst vs)) := fun b u q => by rw [upd_ne (ne_of_none q h1)]; exact q
    refine ⟨upd F1 a (.lst vs), ω1, ⟨E.inc.trans hi, E.pres, fun b u q => ?_, E.om, E.lk, E.there⟩, S.share h4 h1 h2, .lst upd_same (h5.mono hi), hi, fun b u q => ?_, fun _ q => q⟩
    · by_cases z : b = a
      · subst z; exact .inr (.inl h3)
      · rw [upd_ne z] at q; exact E.fr b u q
    · by_cases z : b = a
      · subst z; exact .inr ⟨rfl, .inl rfl⟩
      · rw [upd_ne z] at q; exact .inl q
  | nm i =>
    have h : σ[i]? = some (some v) := h
    unfold Opd.toV at e
    simp only at e
    split at e
    · rename_i q; cases e
      obtain ⟨v', e1, r⟩ := S.slot i _ q
      rw [h] at e1; cases e1; exact ⟨F1, ω1, E, S, r, Sub.refl, fun _ _ q => .inl q, fun _ q => q⟩
    · rename_i xs q; cases e
      obtain ⟨a, vs, e1, w, z0, e2, r⟩ := S.slot i _ q
      rw [h] at e1; cases e1
      have fn : F1 a = none := S.sep a i w
      have hi : Sub F1 (upd F1 a (.lst vs)) := fun b u q => by rw [upd_ne (ne_of_none q fn)]; exact q
      have only : ∀ b j, ω1 b = some j → b ≠ a → j ≠ i := fun b j wb hb z => by
        subst z
        have q1 := (S.own b j wb).1
        rw [h] at q1; cases q1; exact hb rfl
      refine ⟨upd F1 a (.lst vs), fun b => if b = a then none else ω1 b, ⟨E.inc.trans hi, E.pres, fun b u q => ?_, fun b hb => ?_, fun b j hb hl => ?_, E.there⟩, ⟨fun b u q => ?_, fun b j wb => ?_, S.dom, by rw [List.length_set]; exact S.len, fun b j wb => ?_, fun j s hj => ?_⟩, .lst upd_same (r.mono hi), hi, fun b u q => ?_, fun b hb => ?_⟩
      · by_cases z : b = a
        · subst z
          rcases E.om b (by rw [w]; simp) with z | z
          · exact .inr (.inr z)
          · exact .inr (.inl z)
        · rw [upd_ne z] at q; exact E.fr b u q
      · try dsimp only at hb
        split at hb
        · exact absurd rfl hb
        · exact E.om b hb
      · have wb := E.lk b j hb hl
        have z : b ≠ a := fun z => by
          subst z; exact hl z0
        try dsimp only
        rw [if_neg z]; exact wb
      · by_cases z : b = a
        · subst z; rw [upd_same] at q; cases q; exact e2
        · rw [upd_ne z] at q; exact S.sub b u q
      · try dsimp only at wb
        split at wb
        · cases wb
        · rename_i z; rw [upd_ne z]; exact S.sep b j wb
      · try dsimp only at wb
        split at wb
        · cases wb
        · rename_i z
          obtain ⟨q1, ys, q2⟩ := S.own b j wb
          have ne := only b j wb z
          exact ⟨q1, ys, by rw [List.getElem?_set_ne (Ne.symm ne)]; exact q2⟩
      · rcases get_set hj with ⟨rfl, rfl⟩ | ⟨ne, hj⟩
        · exact ⟨.ref a, h, .lst upd_same (r.mono hi)⟩
        · have q1 := S.slot j s hj
          cases s with
          | un => trivial
          | fz d => obtain ⟨v, h1, h2⟩ := q1; exact ⟨v, h1, h2.mono hi⟩
          | own xs =>
            obtain ⟨b, vs, h1, h2, h3, h4, h5⟩ := q1
            refine ⟨b, vs, h1, ?_, h3, h4, h5.mono hi⟩
            try dsimp only
            rw [if_neg fun z => by subst z; rw [w] at h2; cases h2; exact ne rfl]; exact h2
          | ref xs =>
            obtain ⟨b, vs, h1, h2, h4, h5⟩ := q1
            refine ⟨b, vs, h1, ?_, h4, h5.mono hi⟩
            try dsimp only
            rw [if_neg fun z => by subst z; rw [w] at h2; cases h2; exact ne rfl]; exact h2
          | obj c fs =>
            obtain ⟨b, C, dx, vs, h1, h2, h3, h4, h5, h6, h7⟩ := q1
            refine ⟨b, C, dx, vs, h1, ?_, h3, h4, h5, ?_, h7.mono hi⟩
            · try dsimp only
              rw [if_neg fun z => by subst z; rw [w] at h2; cases h2; exact ne rfl]; exact h2
            · try dsimp only
              rw [if_neg fun z => by subst z; rw [w] at h6; cases h6]; exact h6
      · by_cases z : b = a
        · subst z; exact .inr ⟨rfl, .inr (by rw [w]; simp)⟩
        · rw [upd_ne z] at q; exact .inl q
      · try dsimp only
        split
        · rfl
        · exact hb
    · cases e
end

/-! ### readings by meanings -/
/-- what is wanted of an exception: its class, its dict, the slots, the heap (as in HandS.Exc) -/
abbrev WX := Value → Option Addr → L2.St → Hp → Prop
/-- an exception of the class named c with the parts ds is on its way -/
def Exc (fm : Fm) (W : WX) (σ : L2.St) (F H : Hp) (c : Str) (ds : List D) : Prop :=
  (ds = [] ∧ ∀ C dx, fm.mg c = some (.ref C) → W (.ref C) dx σ H) ∨
  (∃ d, ds = [d] ∧ ∀ C dx v, fm.mg c = some (.ref C) → H dx = some (.xd [("value", v)]) → Rep fm.K fm.mg F v d → W (.ref C) (some dx) σ H)
def Fin {α : Type} (fm : Fm) (W : WX) (σ : L2.St) (F H : Hp) (ω : Om) (r : R α) (k : Hp → Hp → Om → Rho → α → Prop) : Prop :=
  match r with
  | .ok a ρ => ∀ F' H' ω', Ext fm F H ω F' H' ω' → Sta fm F' H' ω' σ ρ → k F' H' ω' ρ a
  | .ex c ds ρ => ∀ F' H' ω', Ext fm F H ω F' H' ω' → Sta fm F' H' ω' σ ρ → Exc fm W σ F' H' c ds
  | .no => False
section
variable {α β : Type} {fm : Fm} {W : WX} {σ : L2.St} {F H : Hp} {ω : Om} {ρ : Rho}
theorem Fin.bind {r : R α} {f : α → M β} {k : Hp → Hp → Om → Rho → β → Prop} (h : Fin fm W σ F H ω (r.bind f) k) :
    Fin fm W σ F H ω r fun F1 H1 ω1 ρ1 a => Sta fm F1 H1 ω1 σ ρ1 ∧ Fin fm W σ F1 H1 ω1 (f a ρ1) k ∧ Ext fm F H ω F1 H1 ω1 := by
  cases r with
  | ok a ρ =>
    intro F1 H1 ω1 E1 S1
    refine ⟨S1, ?_, E1⟩
    have h : Fin fm W σ F H ω (f a ρ) k := h
    revert h
    cases f a ρ with
    | ok b ρ2 => exact fun h F2 H2 ω2 E2 S2 => h F2 H2 ω2 (E1.trans E2) S2
    | ex c d ρ2 => exact fun h F2 H2 ω2 E2 S2 => h F2 H2 ω2 (E1.trans E2) S2
    | no => exact fun h => h
  | ex c d ρ => exact h
  | no => exact h
theorem Fin.imp {r : R α} {k k' : Hp → Hp → Om → Rho → α → Prop} (h : Fin fm W σ F H ω r k) (g : ∀ F' H' ω' ρ' a, Ext fm F H ω F' H' ω' → Sta fm F' H' ω' σ ρ' → k F' H' ω' ρ' a → k' F' H' ω' ρ' a) : Fin fm W σ F H ω r k' := by
  cases r with
  | ok a ρ => exact fun F1 H1 ω1 E1 S1 => g _ _ _ _ _ E1 S1 (h F1 H1 ω1 E1 S1)
  | ex c d ρ => exact h
  | no => exact h
end
/-- an expression's reading by its meaning: as an operand; as a value that is shared; a test; operands in a row; values in a row -/
def tO (fm : Fm) (W : WX) (f : M Opd) : TE := fun σ H Q => ∃ F ω ρ, Sta fm F H ω σ ρ ∧ Fin fm W σ F H ω (f ρ) fun F' H' ω' _ o => ∀ v, OpdOk fm H F' H' ω' σ v o → Q v H'
def tV (fm : Fm) (W : WX) (f : M D) : TE := fun σ H Q => ∃ F ω ρ, Sta fm F H ω σ ρ ∧ Fin fm W σ F H ω (f ρ) fun F' H' _ _ d => ∀ v, Rep fm.K fm.mg F' v d → Q v H'
def tT (fm : Fm) (W : WX) (f : M Bool) : TT := fun σ H Q => ∃ F ω ρ, Sta fm F H ω σ ρ ∧ Fin fm W σ F H ω (f ρ) fun _ H' _ _ b => Q b H'
def tmpVs : List V → List Opd → List V
  | v :: vs, .tmp _ :: os => v :: tmpVs vs os
  | _ :: vs, _ :: os => tmpVs vs os
  | _, _ => []
def OpdsOk (fm : Fm) (Hs F H : Hp) (ω : Om) (σ : L2.St) : List V → List Opd → Prop
  | [], [] => True
  | v :: vs, o :: os => OpdOk fm Hs F H ω σ v o ∧ OpdsOk fm Hs F H ω σ vs os ∧ (o.isTmp = true → ∀ w ∈ tmpVs vs os, w ≠ v)
  | _, _ => False
theorem OpdsOk.ext {fm : Fm} {Hs F H F1 H1 : Hp} {ω ω1 : Om} {σ : L2.St} (e : Ext fm F H ω F1 H1 ω1) : ∀ {vs : List V} {os : List Opd}, OpdsOk fm Hs F H ω σ vs os → OpdsOk fm Hs F1 H1 ω1 σ vs os
  | [], [], _ => trivial
  | _ :: _, _ :: _, ⟨a, b, c⟩ => ⟨a.ext e, OpdsOk.ext e b, c⟩
  | [], _ :: _, h => h.elim
  | _ :: _, [], h => h.elim
theorem OpdsOk.back {fm : Fm} {Hs Ht F H : Hp} {ω : Om} {σ : L2.St} (e : ∀ a, Hs a = none → Ht a = none) : ∀ {vs : List V} {os : List Opd}, OpdsOk fm Hs F H ω σ vs os → OpdsOk fm Ht F H ω σ vs os
  | [], [], _ => trivial
  | _ :: _, _ :: _, ⟨a, b, c⟩ => ⟨a.back e, OpdsOk.back e b, c⟩
  | [], _ :: _, h => h.elim
  | _ :: _, [], h => h.elim
theorem OpdsOk.fresh {fm : Fm} {Hs F H : Hp} {ω : Om} {σ : L2.St} : ∀ {vs : List V} {os : List Opd}, OpdsOk fm Hs F H ω σ vs os → ∀ w ∈ tmpVs vs os, ∃ p, w = .ref p ∧ Hs p = none
  | [], [], _, w, h => by simp [tmpVs] at h
  | _ :: _, .tmp xs :: _, ⟨a, b, _⟩, w, h => by
    simp only [tmpVs, List.mem_cons] at h
    rcases h with rfl | h
    · obtain ⟨p, _, e, _, _, e2, _⟩ := a; exact ⟨p, e, e2⟩
    · exact OpdsOk.fresh b w h
  | _ :: _, .val _ :: _, ⟨_, b, _⟩, w, h => OpdsOk.fresh b w (by simpa only [tmpVs] using h)
  | _ :: _, .nm _ :: _, ⟨_, b, _⟩, w, h => OpdsOk.fresh b w (by simpa only [tmpVs] using h)
  | [], _ :: _, h, _, _ => h.elim
  | _ :: _, [], h, _, _ => h.elim
def tOs (fm : Fm) (W : WX) (f : M (List Opd)) : TA := fun σ H Q => ∃ F ω ρ, Sta fm F H ω σ ρ ∧ Fin fm W σ F H ω (f ρ) fun F' H' ω' _ os => ∀ vs, OpdsOk fm H F' H' ω' σ vs os → Q vs H'
def tVs (fm : Fm) (W : WX) (f : M (List D)) : TA := fun σ H Q => ∃ F ω ρ, Sta fm F H ω σ ρ ∧ Fin fm W σ F H ω (f ρ) fun F' H' _ _ ds => ∀ vs, RepL fm.K fm.mg F' vs ds → Q vs H'

/-! ### the meanings' words -/
def mNm (i : Nat) : M Opd := fun ρ => match ρ[i]? with
  | some (.fz _) => .ok (.nm i) ρ
  | some (.own _) => .ok (.nm i) ρ
  | some (.ref _) => .ok (.nm i) ρ
  | _ => .no
def mC (d : D) : M Opd := fun ρ => .ok (.val d) ρ
def mV (f : M Opd) : M D := fun ρ => (f ρ).bind Opd.toV
def mO (f : M D) : M Opd := fun ρ => (f ρ).bind fun d ρ => .ok (.val d) ρ
/-- a new list as it is -/
def mNil {α : Type} : M (List α) := fun ρ => .ok [] ρ
def mCons {α : Type} (f : M α) (g : M (List α)) : M (List α) := fun ρ => (f ρ).bind fun a ρ => (g ρ).bind fun l ρ => .ok (a :: l) ρ
/-- an operation on two values that are read -/
def mBin (op : D → D → Option Opd) (f g : M Opd) : M Opd := fun ρ => (f ρ).bind fun a ρ => (g ρ).bind fun b ρ => R.of ((a.get ρ).bind fun x => (b.get ρ).bind fun y => op x y) ρ
def mUn (op : D → Option Opd) (f : M Opd) : M Opd := fun ρ => (f ρ).bind fun a ρ => R.of ((a.get ρ).bind op) ρ
def gets (ρ : Rho) : List Opd → Option (List D)
  | [] => some []
  | o :: r => (o.get ρ).bind fun d => (gets ρ r).bind fun ds => some (d :: ds)
/-- a built-in's call -/
def mB (op : List D → Option Opd) (f : M (List Opd)) : M Opd := fun ρ => (f ρ).bind fun os ρ => R.of ((gets ρ os).bind op) ρ
def mTup (f : M (List D)) : M Opd := fun ρ => (f ρ).bind fun ds ρ => .ok (.val (.tup ds)) ρ
def mLst (f : M (List D)) : M Opd := fun ρ => (f ρ).bind fun ds ρ => .ok (.tmp ds) ρ
end DL
namespace DL
open PySem PySem.Spec PyProof.Rows L2

theorem PE.imp {X : Cx} {e : Expr} {t t' : TE} (h : PE X e t) (w : ∀ σ H Q, t' σ H Q → t σ H Q) : PE X e t' := ⟨fun pins s σ H Q I q => h.run pins s σ H Q I (w σ H Q q)⟩
theorem PT.imp {X : Cx} {e : Expr} {t t' : TT} (h : PT X e t) (w : ∀ σ H Q, t' σ H Q → t σ H Q) : PT X e t' := ⟨fun pins s σ H Q I q => h.run pins s σ H Q I (w σ H Q q)⟩
theorem PA.imp {X : Cx} {e : List Expr} {t t' : TA} (h : PA X e t) (w : ∀ σ H Q, t' σ H Q → t σ H Q) : PA X e t' := ⟨fun pos pins s σ H Q I q => h.run pos pins s σ H Q I (w σ H Q q)⟩
/-- what the rules ask of the context -/
structure On (X : Cx) (fm : Fm) : Prop where
  K : fm.K = X.K
  mg : fm.mg = X.mg
  calm : X.calm = true
  nd : X.N.Nodup
  un : X.A.units + 100 < cLine

/-! ### as the library's data -/
mutual
def toPy : D → Option PyData
  | .non => some .none
  | .bl b => some (.bool b)
  | .int i => some (.int i)
  | .str x => some (.str x)
  | .lst xs => (toPys xs).map .list
  | .tup xs => (toPys xs).map .tuple
  | .dic _ => none
  | .ins _ _ => none
  | .scr _ => none
def toPys : List D → Option (List PyData)
  | [] => some []
  | d :: r => (toPy d).bind fun a => (toPys r).bind fun b => some (a :: b)
end
section
variable {K : PySem.W.Frag} {mg : Str → Option Value} {F H : Hp}
mutual
theorem rep_dp (hs : Sub F H) : ∀ {v d p}, Rep K mg F v d → toPy d = some p → Dp K H v p
  | _, _, _, .non, e => by simp only [toPy] at e; cases e; exact .non
  | _, _, _, .bl b, e => by simp only [toPy] at e; cases e; exact .bl b
  | _, _, _, .int b, e => by simp only [toPy] at e; cases e; exact .int b
  | _, _, _, .str b, e => by simp only [toPy] at e; cases e; exact .str b
  | _, _, _, .lst h r, e => by
    simp only [toPy, Option.map_eq_some_iff] at e
    obtain ⟨ps, e1, rfl⟩ := e
    exact .lst (SqL.of (hs _ _ h)) (reps_dp hs r e1)
  | _, _, _, .tup h r, e => by
    simp only [toPy, Option.map_eq_some_iff] at e
    obtain ⟨ps, e1, rfl⟩ := e
    exact .tup (SqT.of (hs _ _ h)) (reps_dp hs r e1)
  | _, _, _, .dic h r, e => by simp only [toPy] at e; cases e
  | _, _, _, .ins _ _ _, e => by simp only [toPy] at e; cases e
  | _, _, _, .scr _, e => by simp only [toPy] at e; cases e
theorem reps_dp (hs : Sub F H) : ∀ {vs ds ps}, RepL K mg F vs ds → toPys ds = some ps → DpAll K H vs ps
  | _, _, _, .nil, e => by simp only [toPys] at e; cases e; exact .nil
  | _, _, _, .cons a r, e => by
    simp only [toPys, Option.bind_eq_some_iff] at e
    obtain ⟨p, e1, ps, e2, e3⟩ := e
    cases e3
    exact .cons (rep_dp hs a e1) (reps_dp hs r e2)
end
end
theorem repT_dp {fm : Fm} {F H : Hp} {ω : Om} {σ : L2.St} {ρ : Rho} {v : V} {d : D} {p : PyData} (S : Sta fm F H ω σ ρ) (h : RepT fm F H v d) (e : toPy d = some p) : Dp fm.K H v p := by
  rcases h with h | ⟨a, vs, xs, rfl, rfl, h3, h4⟩
  · exact rep_dp S.sub h e
  · simp only [toPy, Option.map_eq_some_iff] at e
    obtain ⟨ps, e1, rfl⟩ := e
    exact .lst (SqL.of h3) (reps_dp S.sub h4 e1)
/-- a list that is read -/
theorem repT_lst {fm : Fm} {F H : Hp} {ω : Om} {σ : L2.St} {ρ : Rho} {v : V} {xs : List D} (S : Sta fm F H ω σ ρ) (h : RepT fm F H v (.lst xs)) : ∃ a vs, v = .ref a ∧ H a = some (.lst vs) ∧ RepL fm.K fm.mg F vs xs := by
  rcases h with h | ⟨a, vs, ys, rfl, e, h3, h4⟩
  · cases h with
    | lst h r => exact ⟨_, _, rfl, S.sub _ _ h, r⟩
  · cases e; exact ⟨a, vs, rfl, h3, h4⟩
theorem repT_tup {fm : Fm} {F H : Hp} {ω : Om} {σ : L2.St} {ρ : Rho} {v : V} {xs : List D} (S : Sta fm F H ω σ ρ) (h : RepT fm F H v (.tup xs)) : ∃ a vs, v = .ref a ∧ F a = some (.tup vs) ∧ H a = some (.tup vs) ∧ RepL fm.K fm.mg F vs xs := by
  rcases h with h | ⟨a, vs, ys, rfl, e, h3, h4⟩
  · cases h with
    | tup h r => exact ⟨_, _, rfl, h, S.sub _ _ h, r⟩
  · cases e
theorem repT_int {fm : Fm} {F H : Hp} {v : V} {i : Int} (h : RepT fm F H v (.int i)) : v = .int i := by
  rcases h with h | ⟨a, vs, ys, rfl, e, h3, h4⟩
  · cases h; rfl
  · cases e
theorem repT_bl {fm : Fm} {F H : Hp} {v : V} {i : Bool} (h : RepT fm F H v (.bl i)) : v = .bl i := by
  rcases h with h | ⟨a, vs, ys, rfl, e, h3, h4⟩
  · cases h; rfl
  · cases e
theorem repT_str {fm : Fm} {F H : Hp} {v : V} {i : Str} (h : RepT fm F H v (.str i)) : v = .str i := by
  rcases h with h | ⟨a, vs, ys, rfl, e, h3, h4⟩
  · cases h; rfl
  · cases e
theorem repT_non {fm : Fm} {F H : Hp} {v : V} {d : D} (h : RepT fm F H v d) : v = .non ↔ d = .non := by
  constructor
  · rintro rfl
    rcases h with h | ⟨a, vs, ys, e, _⟩
    · cases h; rfl
    · cases e
  · rintro rfl
    rcases h with h | ⟨a, vs, ys, rfl, e, h3, h4⟩
    · cases h; rfl
    · cases e

section
variable {X : Cx} {fm : Fm} {W : WX} {e a b : Expr} {es : List Expr} {f g : M Opd} {pos : Pos}
/-! ### names, constants, values -/
theorem o_nm (i : Nat) {x : Str} (hN : X.N[i]? = some x := by rfl) (hv : Vis X.env.scope x := by first | exact Or.inl rfl | exact Or.inr (Or.inl rfl) | exact Or.inr (Or.inr rfl)) (hd : (x == ("__debug__" : Str)) = false := by decide)
    (hcd : (x == ("__classdict__" : Str)) = false := by decide) : PE X (.Name x pos) (tO fm W (mNm i)) :=
  PE.imp (pe_var (i := i) hN hv hd hcd) fun σ H Q ⟨F, ω, ρ, S, h⟩ => by
    unfold mNm at h
    have go : ∀ v, σ[i]? = some (some v) → Fin fm W σ F H ω (.ok (.nm i) ρ) (fun F' H' ω' _ o => ∀ v, OpdOk fm H F' H' ω' σ v o → Q v H') → tVar i σ H Q := fun v e h => ⟨v, e, h F H ω .refl S v e⟩
    split at h
    · rename_i h3; obtain ⟨v, q, _⟩ := S.slot i _ h3; exact go v q h
    · rename_i h3; obtain ⟨a, vs, q, _⟩ := S.slot i _ h3; exact go _ q h
    · rename_i h3; obtain ⟨a, vs, q, _⟩ := S.slot i _ h3; exact go _ q h
    · exact h.elim
theorem o_c {d : D} {v : V} (h : PE X e (tC v)) (r : ∀ F, Rep fm.K fm.mg F v d) : PE X e (tO fm W (mC d)) :=
  PE.imp h fun σ H Q ⟨F, ω, ρ, S, h⟩ => h F H ω .refl S v (r F)
theorem o_int {i j} : PE X (.Constant (.int i) j pos) (tO fm W (mC (.int i))) := o_c pe_int fun _ => .int i
theorem o_bl {b j} : PE X (.Constant (.bool b) j pos) (tO fm W (mC (.bl b))) := o_c pe_bl fun _ => .bl b
theorem o_non {j} : PE X (.Constant .none j pos) (tO fm W (mC .non)) := o_c pe_non fun _ => .non
theorem o_str {x j} : PE X (.Constant (.str x) j pos) (tO fm W (mC (.str x))) := o_c pe_str fun _ => .str x
theorem v_of (h : PE X e (tO fm W f)) : PE X e (tV fm W (mV f)) :=
  PE.imp h fun σ H Q ⟨F, ω, ρ, S, h⟩ => by
    refine ⟨F, ω, ρ, S, ?_⟩
    unfold mV at h
    revert h
    cases f ρ with
    | ex c d ρ2 => exact fun h => h
    | no => exact fun h => h
    | ok o ρ1 =>
      intro h F1 H1 ω1 E1 S1 v hv
      have h : Fin fm W σ F H ω (o.toV ρ1) _ := h
      cases q : o.toV ρ1 with
      | ok d ρ2 =>
        rw [q] at h
        obtain ⟨F2, ω2, E2, S2, r, _⟩ := toV_ok E1 S1 hv q
        exact h F2 H1 ω2 E2 S2 v r
      | ex c d ρ2 =>
        unfold Opd.toV at q
        split at q
        · cases q
        · cases q
        · split at q <;> cases q
      | no => rw [q] at h; exact h.elim
theorem o_of {f : M D} (h : PE X e (tV fm W f)) : PE X e (tO fm W (mO f)) :=
  PE.imp h fun σ H Q ⟨F, ω, ρ, S, h⟩ => by
    refine ⟨F, ω, ρ, S, h.bind.imp fun F1 H1 ω1 ρ1 d E1 S1 ⟨_, h1, _⟩ v hv => h1 F1 H1 ω1 .refl S1 v hv⟩

/-! ### operands, values in a row -/
structure Vs (X : Cx) (fm : Fm) (W : WX) (es : List Expr) (f : M (List D)) : Prop where
  pa : PA X es (tVs fm W f)
  len : ∀ ρ ds ρ', f ρ = .ok ds ρ' → ds.length = es.length
theorem vs_nil : Vs X fm W [] mNil := ⟨PA.imp pa_nil fun σ H Q ⟨F, ω, ρ, S, h⟩ => h F H ω .refl S [] .nil, fun _ _ _ e => by cases e; rfl⟩
theorem bind_ok {α β : Type} {r : R α} {f : α → M β} {b : β} {ρ : Rho} (h : r.bind f = .ok b ρ) : ∃ a ρ1, r = .ok a ρ1 ∧ f a ρ1 = .ok b ρ := by
  cases r with
  | ok a ρ1 => exact ⟨a, ρ1, rfl, h⟩
  | ex c d ρ1 => cases h
  | no => cases h
theorem vs_cons {f : M D} {g : M (List D)} (ha : PE X e (tV fm W f)) (hr : Vs X fm W es g) (hs : starEach (e :: es) X.env = (false, eval e X.env) :: starEach es X.env := by rfl) : Vs X fm W (e :: es) (mCons f g) := by
  refine ⟨PA.imp (pa_cons ha hr.pa hs) fun σ H Q ⟨F, ω, ρ, S, h⟩ => ?_, fun ρ ds ρ' q => ?_⟩
  · refine ⟨F, ω, ρ, S, h.bind.imp fun F1 H1 ω1 ρ1 d E1 S1 ⟨_, h1, _⟩ v hv => ?_⟩
    refine ⟨F1, ω1, ρ1, S1, h1.bind.imp fun F2 H2 ω2 ρ2 ds E2 S2 ⟨_, h2, _⟩ vs hvs => ?_⟩
    exact h2 F2 H2 ω2 .refl S2 (v :: vs) (.cons (hv.mono E2.inc) hvs)
  · obtain ⟨d, ρ1, _, q⟩ := bind_ok q
    obtain ⟨ds', ρ2, q1, q⟩ := bind_ok q
    cases q
    rw [List.length_cons, List.length_cons, hr.len _ _ _ q1]
theorem os_nil : PA X [] (tOs fm W mNil) := PA.imp pa_nil fun σ H Q ⟨F, ω, ρ, S, h⟩ => h F H ω .refl S [] trivial
theorem os_cons {g : M (List Opd)} (ha : PE X e (tO fm W f)) (hr : PA X es (tOs fm W g)) (hs : starEach (e :: es) X.env = (false, eval e X.env) :: starEach es X.env := by rfl) : PA X (e :: es) (tOs fm W (mCons f g)) := by
  refine PA.imp (pa_cons ha hr hs) fun σ H Q ⟨F, ω, ρ, S, h⟩ => ?_
  refine ⟨F, ω, ρ, S, h.bind.imp fun F1 H1 ω1 ρ1 d E1 S1 ⟨_, h1, _⟩ v hv => ?_⟩
  refine ⟨F1, ω1, ρ1, S1, h1.bind.imp fun F2 H2 ω2 ρ2 ds E2 S2 ⟨_, h2, _⟩ vs hvs => ?_⟩
  refine h2 F2 H2 ω2 .refl S2 (v :: vs) ⟨hv.ext E2, hvs.back E1.there, fun ht w hw e => ?_⟩
  obtain ⟨p, e1, e2⟩ := hvs.fresh w hw
  cases d with
  | tmp xs => obtain ⟨q, _, e3, _, _, _, e4, _⟩ := hv; rw [e1, e3] at e; cases e; rw [e2] at e4; cases e4
  | val _ => cases ht
  | nm _ => cases ht
/-- a new shared object -/
theorem Sta.shareN {F H : Hp} {ω : Om} {σ : L2.St} {ρ : Rho} {p : Addr} {u : HO} (S : Sta fm F H ω σ ρ) (hp : H p = none) : Sta fm (upd F p u) (upd H p u) ω σ ρ :=
  (S.new hp).share upd_same (S.fnone hp) (S.onone hp)
theorem small_line {n : Nat} (h : n ≤ 1000) : n ≤ sizeLine := Nat.le_trans h (by decide)
theorem o_tup {k} {f : M (List D)} (h : Vs X fm W es f) (hz : es.length ≤ 1000 := by decide) : PE X (.Tuple es k pos) (tO fm W (mTup f)) := by
  refine PE.imp (pe_tup h.pa) fun σ H Q ⟨F, ω, ρ, S, q⟩ => ?_
  refine ⟨F, ω, ρ, S, ?_⟩
  cases e : f ρ with
  | ex c d ρ1 => unfold mTup at q; rw [e] at q; exact q
  | no => unfold mTup at q; rw [e] at q; exact q
  | ok ds ρ1 =>
    unfold mTup at q; rw [e] at q
    intro F1 H1 ω1 E1 S1 vs hvs
    refine ⟨small_line (by rw [hvs.length, h.len _ _ _ e]; exact hz), fun p hp => ?_⟩
    exact q _ _ ω1 (E1.trans (Ext.share (u := .tup vs) (S1.fnone hp) (S1.onone hp) hp)) (S1.shareN hp) _ (.tup upd_same (hvs.mono fun b u q => by rw [upd_ne (ne_of_none q (S1.fnone hp))]; exact q))
theorem o_lst {f : M (List D)} (h : Vs X fm W es f) (hz : es.length ≤ 1000 := by decide) : PE X (.List es pos) (tO fm W (mLst f)) := by
  refine PE.imp (pe_lst h.pa) fun σ H Q ⟨F, ω, ρ, S, q⟩ => ?_
  refine ⟨F, ω, ρ, S, ?_⟩
  cases e : f ρ with
  | ex c d ρ1 => unfold mLst at q; rw [e] at q; exact q
  | no => unfold mLst at q; rw [e] at q; exact q
  | ok ds ρ1 =>
    unfold mLst at q; rw [e] at q
    intro F1 H1 ω1 E1 S1 vs hvs
    refine ⟨small_line (by rw [hvs.length, h.len _ _ _ e]; exact hz), fun p hp => ?_⟩
    exact q F1 _ ω1 (E1.trans (Ext.new hp)) (S1.new hp) _ ⟨p, vs, rfl, S1.fnone hp, S1.onone hp, E1.there p hp, upd_same, hvs⟩

/-! ### operations on what is read -/
def OpD (fm : Fm) (op : D → D → Option Opd) (r : R2) : Prop :=
  ∀ (F H : Hp) (ω : Om) (σ : L2.St) (ρ : Rho) (v u : V) (x y : D) (o : Opd) (Q : VK), Sta fm F H ω σ ρ → RepT fm F H v x → RepT fm F H u y → op x y = some o →
    (∀ F' H' w, Ext fm F H ω F' H' ω → Sta fm F' H' ω σ ρ → OpdOk fm H F' H' ω σ w o → Q w H') → r v u H Q
theorem of_some {α : Type} {o : Option α} {ρ : Rho} {fm : Fm} {σ : L2.St} {F H : Hp} {ω : Om} {k : Hp → Hp → Om → Rho → α → Prop} (h : Fin fm W σ F H ω (R.of o ρ) k) : ∃ a, o = some a ∧ Fin fm W σ F H ω (.ok a ρ) k := by
  cases o with
  | some a => exact ⟨a, rfl, h⟩
  | none => exact h.elim
theorem o_bin {op : D → D → Option Opd} {r : R2} (pe : ∀ {ta tb : TE}, PE X a ta → PE X b tb → PE X e (tOp r ta tb)) (hd : OpD fm op r) (ha : PE X a (tO fm W f)) (hb : PE X b (tO fm W g)) : PE X e (tO fm W (mBin op f g)) := by
  refine PE.imp (pe ha hb) fun σ H Q ⟨F, ω, ρ, S, h⟩ => ?_
  refine ⟨F, ω, ρ, S, h.bind.imp fun F1 H1 ω1 ρ1 oa E1 S1 ⟨_, h1, _⟩ v hv => ?_⟩
  refine ⟨F1, ω1, ρ1, S1, h1.bind.imp fun F2 H2 ω2 ρ2 ob E2 S2 ⟨_, h2, _⟩ u hu => ?_⟩
  obtain ⟨o, eo, h3⟩ := of_some h2
  simp only [Option.bind_eq_some_iff] at eo
  obtain ⟨x, ex, y, ey, eo⟩ := eo
  exact hd F2 H2 ω2 σ ρ2 v u x y o Q S2 ((hv.ext E2).get S2 ex) (hu.get S2 ey) eo fun F' H' w E' S' hw => h3 F' H' ω2 E' S' w (hw.back (E1.trans E2).there)
end
end DL
namespace DL
open PySem PySem.Spec PyProof.Rows L2

theorem opr_or {X : Cx} {f : Value → Value → Sem Value} {r r' : R2} (a : OpR X f r) (b : OpR X f r') : OpR X f fun x y H Q => r x y H Q ∨ r' x y H Q :=
  fun pins s σ H x y v u Q I rx ry h => h.elim (a pins s σ H x y v u Q I rx ry) (b pins s σ H x y v u Q I rx ry)

/-! ### what the operators do to data -/
def sAdd : D → D → Option Opd
  | .int i, .int j => some (.val (.int (i + j)))
  | .lst xs, .lst ys => if xs.length + ys.length ≤ 1000000 then some (.tmp (xs ++ ys)) else none
  | .tup xs, .tup ys => if xs.length + ys.length ≤ 1000000 then some (.val (.tup (xs ++ ys))) else none
  | _, _ => none
def sSub : D → D → Option Opd
  | .int i, .int j => some (.val (.int (i - j)))
  | _, _ => none
def sMul : D → D → Option Opd
  | .int i, .int j => if i.natAbs.log2 + j.natAbs.log2 < 1000000 then some (.val (.int (i * j))) else none
  | .lst xs, .int k => if 0 ≤ k ∧ k ≤ 1000 ∧ xs.length ≤ 1000 then some (.tmp (List.replicate k.toNat xs).flatten) else none
  | _, _ => none
def sMod : D → D → Option Opd
  | .int i, .int j => if 0 < j then some (.val (.int (i % j))) else none
  | _, _ => none
def sFdiv : D → D → Option Opd
  | .int i, .int j => if 0 < j ∧ j.natAbs.log2 < 9000 then some (.val (.int (i / j))) else none
  | _, _ => none
def sPow : D → D → Option Opd
  | .int i, .int j => if 0 ≤ j ∧ j ≤ 1000 ∧ i.natAbs < 2 ^ 64 then some (.val (.int (i ^ j.toNat))) else none
  | _, _ => none
def sLt : D → D → Option Opd
  | .int i, .int j => some (.val (.bl (decide (i < j))))
  | _, _ => none
def sLe : D → D → Option Opd
  | .int i, .int j => some (.val (.bl (decide (i ≤ j))))
  | _, _ => none
def sGt : D → D → Option Opd
  | .int i, .int j => some (.val (.bl (decide (j < i))))
  | _, _ => none
def sGe : D → D → Option Opd
  | .int i, .int j => some (.val (.bl (decide (j ≤ i))))
  | _, _ => none
/-- equality of plain data, Python's own -/
def dEqP (x y : D) : Option Bool := (toPy x).bind fun a => (toPy y).bind fun b => if SeqAt.shaped a = true ∧ SeqAt.shaped b = true then some (PyData.eqv a b) else none
def dEq (x y : D) : Option Bool := match x, y with
  | .str a, .str b => some (decide (a = b))
  | x, y => dEqP x y
def sEq (x y : D) : Option Opd := (dEq x y).map fun b => .val (.bl b)
def sNe (x y : D) : Option Opd := (dEq x y).map fun b => .val (.bl (!b))
def dIn (x : D) (ys : List D) : Option Bool := (toPy x).bind fun a => (toPys ys).bind fun bs => if SeqAt.shaped a = true ∧ SeqAt.shaped (.list bs) = true then some (bs.any fun z => PyData.eqv z a) else none
def sIn : D → D → Option Opd
  | x, .lst ys => (dIn x ys).map fun b => .val (.bl b)
  | _, _ => none
def sNin : D → D → Option Opd
  | x, .lst ys => (dIn x ys).map fun b => .val (.bl (!b))
  | _, _ => none
def D.isNon : D → Bool
  | .non => true
  | _ => false
def sIs : D → D → Option Opd
  | x, .non => some (.val (.bl x.isNon))
  | .bl a, .bl b => some (.val (.bl (decide (a = b))))
  | _, _ => none
def sIsN : D → D → Option Opd
  | x, .non => some (.val (.bl (!x.isNon)))
  | .bl a, .bl b => some (.val (.bl (!decide (a = b))))
  | _, _ => none
theorem isNon_iff {d : D} : d.isNon = true ↔ d = .non := by
  cases d <;> simp [D.isNon]

section
variable {X : Cx} {fm : Fm}
theorem od_scal {op : D → D → Option Opd} {r : R2}
    (h : ∀ (F H : Hp) (ω : Om) (σ : L2.St) (ρ : Rho) (v u : V) (x y : D) (o : Opd) (Q : VK), Sta fm F H ω σ ρ → RepT fm F H v x → RepT fm F H u y → op x y = some o → (∀ w d, o = .val d → Rep fm.K fm.mg F w d → Q w H) → r v u H Q) : OpD fm op r :=
  fun F H ω σ ρ v u x y o Q S hv hu e k => h F H ω σ ρ v u x y o Q S hv hu e fun w d eo hw => k F H w .refl S (by subst eo; exact hw)
theorem od_int {op : D → D → Option Opd} {g : Int → Int → V} {gd : Int → Int → D} {C : Int → Int → Prop} (hop : ∀ x y o, op x y = some o → ∃ i j, x = .int i ∧ y = .int j ∧ C i j ∧ o = .val (gd i j))
    (hr : ∀ F i j, Rep fm.K fm.mg F (g i j) (gd i j)) : OpD fm op (rI C g) := od_scal fun F H ω σ ρ v u x y o Q S hv hu e k => by
  obtain ⟨i, j, rfl, rfl, hc, rfl⟩ := hop x y o e
  exact ⟨i, j, repT_int hv, repT_int hu, hc, k _ _ rfl (hr F i j)⟩
theorem od_int0 {op : D → D → Option Opd} {g : Int → Int → V} {gd : Int → Int → D} (hop : ∀ x y o, op x y = some o → ∃ i j, x = .int i ∧ y = .int j ∧ o = .val (gd i j))
    (hr : ∀ F i j, Rep fm.K fm.mg F (g i j) (gd i j)) : OpD fm op (rI0 g) := od_scal fun F H ω σ ρ v u x y o Q S hv hu e k => by
  obtain ⟨i, j, rfl, rfl, rfl⟩ := hop x y o e
  exact ⟨i, j, repT_int hv, repT_int hu, k _ _ rfl (hr F i j)⟩
theorem od_sub : OpD fm sSub (rI0 fun i j => .int (i - j)) := od_int0 (gd := fun i j => .int (i - j)) (fun x y o e => by unfold sSub at e; split at e <;> cases e; exact ⟨_, _, rfl, rfl, rfl⟩) fun _ _ _ => .int _
theorem od_mod : OpD fm sMod (rI (fun _ j => 0 < j) fun i j => .int (i % j)) := od_int (gd := fun i j => .int (i % j)) (fun x y o e => by
  unfold sMod at e
  split at e
  · split at e
    · cases e; exact ⟨_, _, rfl, rfl, by assumption, rfl⟩
    · cases e
  · cases e) fun _ _ _ => .int _
theorem od_fdiv : OpD fm sFdiv (rI CDivW fun i j => .int (i / j)) := od_int (gd := fun i j => .int (i / j)) (fun x y o e => by
  unfold sFdiv at e
  split at e
  · split at e
    · cases e; exact ⟨_, _, rfl, rfl, by assumption, rfl⟩
    · cases e
  · cases e) fun _ _ _ => .int _
theorem od_pow : OpD fm sPow (rI CPow fun i j => .int (i ^ j.toNat)) := od_int (gd := fun i j => .int (i ^ j.toNat)) (fun x y o e => by
  unfold sPow at e
  split at e
  · split at e
    · rename_i h; cases e; exact ⟨_, _, rfl, rfl, ⟨h.1, by omega, h.2.2⟩, rfl⟩
    · cases e
  · cases e) fun _ _ _ => .int _
theorem od_lt : OpD fm sLt (rI0 fun i j => .bl (decide (i < j))) := od_int0 (gd := fun i j => .bl (decide (i < j))) (fun x y o e => by unfold sLt at e; split at e <;> cases e; exact ⟨_, _, rfl, rfl, rfl⟩) fun _ _ _ => .bl _
theorem od_le : OpD fm sLe (rI0 fun i j => .bl (decide (i ≤ j))) := od_int0 (gd := fun i j => .bl (decide (i ≤ j))) (fun x y o e => by unfold sLe at e; split at e <;> cases e; exact ⟨_, _, rfl, rfl, rfl⟩) fun _ _ _ => .bl _
theorem od_gt : OpD fm sGt (rI0 fun i j => .bl (decide (j < i))) := od_int0 (gd := fun i j => .bl (decide (j < i))) (fun x y o e => by unfold sGt at e; split at e <;> cases e; exact ⟨_, _, rfl, rfl, rfl⟩) fun _ _ _ => .bl _
theorem od_ge : OpD fm sGe (rI0 fun i j => .bl (decide (j ≤ i))) := od_int0 (gd := fun i j => .bl (decide (j ≤ i))) (fun x y o e => by unfold sGe at e; split at e <;> cases e; exact ⟨_, _, rfl, rfl, rfl⟩) fun _ _ _ => .bl _
theorem line_of {n : Nat} (h : n ≤ 1000000) : n ≤ sizeLine := Nat.le_trans h (by decide)
theorem od_add : OpD fm sAdd (fun x y H Q => rI0 (fun i j => .int (i + j)) x y H Q ∨ rCat x y H Q ∨ rCatA fm.K x y H Q) := fun F H ω σ ρ v u x y o Q S hv hu e k => by
  unfold sAdd at e
  split at e
  · rename_i i j
    cases e
    exact .inl ⟨i, j, repT_int hv, repT_int hu, k F H _ .refl S (.int _)⟩
  · rename_i xs ys
    split at e
    · rename_i hz
      cases e
      obtain ⟨a, vs, rfl, ha, ra⟩ := repT_lst S hv
      obtain ⟨b, ws, rfl, hb, rb⟩ := repT_lst S hu
      refine .inr (.inl ⟨a, b, vs, ws, rfl, rfl, ha, hb, line_of (by rw [ra.length, rb.length]; exact hz), fun p hp => ?_⟩)
      exact k F _ _ (Ext.new hp) (S.new hp) ⟨p, _, rfl, S.fnone hp, S.onone hp, hp, upd_same, ra.app rb⟩
    · cases e
  · rename_i xs ys
    split at e
    · rename_i hz
      cases e
      obtain ⟨a, vs, rfl, fa, ha, ra⟩ := repT_tup S hv
      obtain ⟨b, ws, rfl, fb, hb, rb⟩ := repT_tup S hu
      refine .inr (.inr ⟨a, b, vs, ws, rfl, rfl, SqT.of ha, SqT.of hb, line_of (by rw [ra.length, rb.length]; exact hz), fun z => ?_, fun z1 z2 => ?_, fun z1 z2 p hp => ?_⟩)
      · subst z; cases ra
        exact k F H _ .refl S (.tup fb rb)
      · subst z2; cases rb
        exact k F H _ .refl S (by rw [List.append_nil]; exact .tup fa ra)
      · exact k _ _ _ (Ext.share (u := .tup (vs ++ ws)) (S.fnone hp) (S.onone hp) hp) (S.shareN hp) (.tup upd_same ((ra.app rb).mono fun b u q => by rw [upd_ne (ne_of_none q (S.fnone hp))]; exact q))
    · cases e
  · cases e
theorem RepL.rep {K : PySem.W.Frag} {mg : Str → Option Value} {F : Hp} {vs : List V} {ds : List D} (r : RepL K mg F vs ds) : ∀ n, RepL K mg F (List.replicate n vs).flatten (List.replicate n ds).flatten
  | 0 => .nil
  | n + 1 => by
    rw [List.replicate_succ, List.replicate_succ, List.flatten_cons, List.flatten_cons]
    exact r.app (RepL.rep r n)
theorem od_mul : OpD fm sMul (fun x y H Q => rI CMulW (fun i j => .int (i * j)) x y H Q ∨ rRep x y H Q) := fun F H ω σ ρ v u x y o Q S hv hu e k => by
  unfold sMul at e
  split at e
  · rename_i i j
    split at e
    · rename_i h
      cases e
      exact .inl ⟨i, j, repT_int hv, repT_int hu, h, k F H _ .refl S (.int _)⟩
    · cases e
  · rename_i xs n
    split at e
    · rename_i hz
      cases e
      obtain ⟨a, vs, rfl, ha, ra⟩ := repT_lst S hv
      obtain rfl := repT_int hu
      have hl := ra.length
      have hm : vs.length * n.toNat ≤ 1000 * 1000 := Nat.mul_le_mul (by omega) (by omega)
      refine .inr ⟨a, n, vs, rfl, rfl, ha, by omega, by omega, line_of (Nat.le_trans hm (by decide)), fun p hp => ?_⟩
      exact k F _ _ (Ext.new hp) (S.new hp) ⟨p, _, rfl, S.fnone hp, S.onone hp, hp, upd_same, ra.rep _⟩
    · cases e
  · cases e
theorem od_eq : OpD fm sEq (fun x y H Q => rEq x y H Q ∨ rEqD fm.K x y H Q) := od_scal fun F H ω σ ρ v u x y o Q S hv hu e k => by
  unfold sEq dEq at e
  split at e
  · rename_i a b
    cases e
    rw [repT_str hv, repT_str hu]
    refine .inl ⟨rfl, ?_⟩
    have : decide (V.str a = V.str b) = decide (a = b) := by by_cases h : a = b <;> simp [h]
    rw [this]
    exact k _ _ rfl (.bl _)
  · unfold dEqP at e
    simp only [Option.map_eq_some_iff, Option.bind_eq_some_iff] at e
    obtain ⟨b, ⟨p, e1, q, e2, e3⟩, rfl⟩ := e
    split at e3
    · rename_i h; cases e3
      exact .inr ⟨p, q, repT_dp S hv e1, repT_dp S hu e2, h.1, h.2, k _ _ rfl (.bl _)⟩
    · cases e3
theorem od_ne : OpD fm sNe (fun x y H Q => rNe x y H Q ∨ rNeD fm.K x y H Q) := od_scal fun F H ω σ ρ v u x y o Q S hv hu e k => by
  unfold sNe dEq at e
  split at e
  · rename_i a b
    cases e
    rw [repT_str hv, repT_str hu]
    refine .inl ⟨rfl, ?_⟩
    have : decide (V.str a = V.str b) = decide (a = b) := by by_cases h : a = b <;> simp [h]
    rw [this]
    exact k _ _ rfl (.bl _)
  · unfold dEqP at e
    simp only [Option.map_eq_some_iff, Option.bind_eq_some_iff] at e
    obtain ⟨b, ⟨p, e1, q, e2, e3⟩, rfl⟩ := e
    split at e3
    · rename_i h; cases e3
      exact .inr ⟨p, q, repT_dp S hv e1, repT_dp S hu e2, h.1, h.2, k _ _ rfl (.bl _)⟩
    · cases e3
theorem od_in : OpD fm sIn (rInD fm.K) := od_scal fun F H ω σ ρ v u x y o Q S hv hu e k => by
  unfold sIn dIn at e
  split at e
  · simp only [Option.map_eq_some_iff, Option.bind_eq_some_iff] at e
    obtain ⟨b, ⟨p, e1, q, e2, e3⟩, rfl⟩ := e
    split at e3
    · rename_i h; cases e3
      exact ⟨p, q, repT_dp S hv e1, repT_dp S hu (by simp only [toPy, e2, Option.map_some]), h.1, h.2, k _ _ rfl (.bl _)⟩
    · cases e3
  · cases e
theorem od_nin : OpD fm sNin (rNotInD fm.K) := od_scal fun F H ω σ ρ v u x y o Q S hv hu e k => by
  unfold sNin dIn at e
  split at e
  · simp only [Option.map_eq_some_iff, Option.bind_eq_some_iff] at e
    obtain ⟨b, ⟨p, e1, q, e2, e3⟩, rfl⟩ := e
    split at e3
    · rename_i h; cases e3
      exact ⟨p, q, repT_dp S hv e1, repT_dp S hu (by simp only [toPy, e2, Option.map_some]), h.1, h.2, k _ _ rfl (.bl _)⟩
    · cases e3
  · cases e
theorem nonV {F H : Hp} {v : V} {x : D} (hv : RepT fm F H v x) : decide (v = .non) = x.isNon := by
  rw [Bool.eq_iff_iff, decide_eq_true_eq, isNon_iff]
  exact repT_non hv
theorem od_is : OpD fm sIs (fun x y H Q => (y = .non ∧ Q (.bl (decide (x = .non))) H) ∨ (∃ a b : Bool, x = .bl a ∧ y = .bl b ∧ Q (.bl (decide (a = b))) H)) := od_scal fun F H ω σ ρ v u x y o Q S hv hu e k => by
  unfold sIs at e
  split at e
  · cases e
    exact .inl ⟨(repT_non hu).mpr rfl, by rw [nonV hv]; exact k _ _ rfl (.bl _)⟩
  · cases e
    exact .inr ⟨_, _, repT_bl hv, repT_bl hu, k _ _ rfl (.bl _)⟩
  · cases e
theorem od_isN : OpD fm sIsN (fun x y H Q => (y = .non ∧ Q (.bl (!decide (x = .non))) H) ∨ (∃ a b : Bool, x = .bl a ∧ y = .bl b ∧ Q (.bl (!decide (a = b))) H)) := od_scal fun F H ω σ ρ v u x y o Q S hv hu e k => by
  unfold sIsN at e
  split at e
  · cases e
    exact .inl ⟨(repT_non hu).mpr rfl, by rw [nonV hv]; exact k _ _ rfl (.bl _)⟩
  · cases e
    exact .inr ⟨_, _, repT_bl hv, repT_bl hu, k _ _ rfl (.bl _)⟩
  · cases e

/-! ### the rules -/
variable {W : WX} {e a b : Expr} {es : List Expr} {f g : M Opd} {pos : Pos}
theorem o_add (n : On X fm) (ha : PE X a (tO fm W f)) (hb : PE X b (tO fm W g)) : PE X (.BinOp a .Add b pos) (tO fm W (mBin sAdd f g)) :=
  o_bin (fun ha hb => pe_op (opr_or op_add (opr_or op_cat (by rw [n.K]; exact op_catA))) ha hb) od_add ha hb
theorem o_sub (n : On X fm) (ha : PE X a (tO fm W f)) (hb : PE X b (tO fm W g)) : PE X (.BinOp a .Sub b pos) (tO fm W (mBin sSub f g)) := o_bin (fun ha hb => pe_op op_sub ha hb) od_sub ha hb
theorem o_mul (n : On X fm) (ha : PE X a (tO fm W f)) (hb : PE X b (tO fm W g)) : PE X (.BinOp a .Mult b pos) (tO fm W (mBin sMul f g)) := o_bin (fun ha hb => pe_op (opr_or op_mulW op_rep) ha hb) od_mul ha hb
theorem o_mod (n : On X fm) (ha : PE X a (tO fm W f)) (hb : PE X b (tO fm W g)) : PE X (.BinOp a .Mod b pos) (tO fm W (mBin sMod f g)) := o_bin (fun ha hb => pe_op op_mod ha hb) od_mod ha hb
theorem o_fdiv (n : On X fm) (ha : PE X a (tO fm W f)) (hb : PE X b (tO fm W g)) : PE X (.BinOp a .FloorDiv b pos) (tO fm W (mBin sFdiv f g)) := o_bin (fun ha hb => pe_op op_fdivW ha hb) od_fdiv ha hb
theorem o_pow (n : On X fm) (ha : PE X a (tO fm W f)) (hb : PE X b (tO fm W g)) : PE X (.BinOp a .Pow b pos) (tO fm W (mBin sPow f g)) := o_bin (fun ha hb => pe_op op_pow ha hb) od_pow ha hb
theorem o_lt (n : On X fm) (ha : PE X a (tO fm W f)) (hb : PE X b (tO fm W g)) : PE X (.Compare a [.Lt] [b] pos) (tO fm W (mBin sLt f g)) := o_bin (fun ha hb => pe_cmpR op_lt ha hb (nomark _)) od_lt ha hb
theorem o_le (n : On X fm) (ha : PE X a (tO fm W f)) (hb : PE X b (tO fm W g)) : PE X (.Compare a [.LtE] [b] pos) (tO fm W (mBin sLe f g)) := o_bin (fun ha hb => pe_cmpR op_le ha hb (nomark _)) od_le ha hb
theorem o_gt (n : On X fm) (ha : PE X a (tO fm W f)) (hb : PE X b (tO fm W g)) : PE X (.Compare a [.Gt] [b] pos) (tO fm W (mBin sGt f g)) := o_bin (fun ha hb => pe_cmpR op_gt ha hb (nomark _)) od_gt ha hb
theorem o_ge (n : On X fm) (ha : PE X a (tO fm W f)) (hb : PE X b (tO fm W g)) : PE X (.Compare a [.GtE] [b] pos) (tO fm W (mBin sGe f g)) := o_bin (fun ha hb => pe_cmpR op_ge ha hb (nomark _)) od_ge ha hb
theorem On.u64 (n : On X fm) : X.A.units + 64 < cLine := by have := n.un; omega
theorem On.u65 (n : On X fm) : X.A.units + 65 < cLine := by have := n.un; omega
theorem o_eq (n : On X fm) (ha : PE X a (tO fm W f)) (hb : PE X b (tO fm W g)) : PE X (.Compare a [.Eq] [b] pos) (tO fm W (mBin sEq f g)) := o_bin (fun ha hb => pe_cmpR (by rw [n.K]; exact opr_or op_eq (op_eqD n.u64)) ha hb (nomark _)) od_eq ha hb
theorem o_ne (n : On X fm) (ha : PE X a (tO fm W f)) (hb : PE X b (tO fm W g)) : PE X (.Compare a [.NotEq] [b] pos) (tO fm W (mBin sNe f g)) := o_bin (fun ha hb => pe_cmpR (by rw [n.K]; exact opr_or op_ne (op_neD n.u64)) ha hb (nomark _)) od_ne ha hb
theorem o_in (n : On X fm) (ha : PE X a (tO fm W f)) (hb : PE X b (tO fm W g)) (hm : behindInMarks .In b = false := by rfl) : PE X (.Compare a [.In] [b] pos) (tO fm W (mBin sIn f g)) := o_bin (fun ha hb => pe_cmpR (by rw [n.K]; exact op_inD n.u65) ha hb hm) od_in ha hb
theorem o_nin (n : On X fm) (ha : PE X a (tO fm W f)) (hb : PE X b (tO fm W g)) (hm : behindInMarks .NotIn b = false := by rfl) : PE X (.Compare a [.NotIn] [b] pos) (tO fm W (mBin sNin f g)) := o_bin (fun ha hb => pe_cmpR (by rw [n.K]; exact op_notInD n.u65) ha hb hm) od_nin ha hb
theorem o_is (n : On X fm) (ha : PE X a (tO fm W f)) (hb : PE X b (tO fm W g)) : PE X (.Compare a [.Is] [b] pos) (tO fm W (mBin sIs f g)) := o_bin (fun ha hb => pe_cmpR (opr_or op_isN op_is_bl) ha hb (nomark _)) od_is ha hb
theorem o_isN (n : On X fm) (ha : PE X a (tO fm W f)) (hb : PE X b (tO fm W g)) : PE X (.Compare a [.IsNot] [b] pos) (tO fm W (mBin sIsN f g)) := o_bin (fun ha hb => pe_cmpR (opr_or op_notN op_isnot_bl) ha hb (nomark _)) od_isN ha hb
end
end DL
namespace DL
open PySem PySem.Spec PyProof.Rows L2

/-! ### truth -/
def truth : D → Option Bool
  | .non => some false
  | .bl b => some b
  | .int i => some (i != 0)
  | .lst xs => some (!xs.isEmpty)
  | .tup xs => some (!xs.isEmpty)
  | _ => none
def mTest (m : M Opd) : M Bool := fun ρ => (m ρ).bind fun o ρ => R.of ((o.get ρ).bind truth) ρ
def asBl : D → Option Bool
  | .bl b => some b
  | _ => none
def mTestB (m : M Opd) : M Bool := fun ρ => (m ρ).bind fun o ρ => R.of ((o.get ρ).bind asBl) ρ
def mAndT (t u : M Bool) : M Bool := fun ρ => (t ρ).bind fun c ρ => match c with
  | true => u ρ
  | false => .ok false ρ
def mOrT (t u : M Bool) : M Bool := fun ρ => (t ρ).bind fun c ρ => match c with
  | true => .ok true ρ
  | false => u ρ
def mNotT (t : M Bool) : M Bool := fun ρ => (t ρ).bind fun c ρ => .ok (!c) ρ
def mIf {α : Type} (t : M Bool) (f g : M α) : M α := fun ρ => (t ρ).bind fun c ρ => match c with
  | true => f ρ
  | false => g ρ
def mAnd (f g : M Opd) : M Opd := fun ρ => (mTestB f ρ).bind fun c ρ => match c with
  | true => g ρ
  | false => .ok (.val (.bl false)) ρ
def mOr (f g : M Opd) : M Opd := fun ρ => (mTestB f ρ).bind fun c ρ => match c with
  | true => .ok (.val (.bl true)) ρ
  | false => g ρ
def mNot (f : M Opd) : M Opd := fun ρ => (mTest f ρ).bind fun c ρ => .ok (.val (.bl (!c))) ρ

section
variable {X : Cx} {fm : Fm} {W : WX} {e a b c : Expr} {es : List Expr} {f g h : M Opd} {t u : M Bool} {pos : Pos}
theorem repL_empty {K : PySem.W.Frag} {mg : Str → Option Value} {F : Hp} {vs : List V} {ds : List D} (r : RepL K mg F vs ds) : vs.isEmpty = ds.isEmpty := by
  cases r <;> rfl
theorem truth_ok (n : On X fm) {F H : Hp} {ω : Om} {σ : L2.St} {ρ : Rho} {v : V} {d : D} {k : Bool} (S : Sta fm F H ω σ ρ) (h : RepT fm F H v d) (e : truth d = some k) : TruV X.K v H k := by
  cases d with
  | non => cases e; rw [(repT_non h).mpr rfl]; rfl
  | bl b => cases e; rw [repT_bl h]; rfl
  | int i => cases e; rw [repT_int h]; rfl
  | str x => cases e
  | lst xs =>
    cases e
    obtain ⟨a, vs, rfl, h1, h2⟩ := repT_lst S h
    exact .inl ⟨vs, SqL.of h1, by rw [repL_empty h2]⟩
  | tup xs =>
    cases e
    obtain ⟨a, vs, rfl, _, h1, h2⟩ := repT_tup S h
    exact .inr (.inl ⟨vs, SqT.of h1, by rw [repL_empty h2]⟩)
  | dic _ => cases e
  | ins _ _ => cases e
  | scr _ => cases e
theorem tT_imp (n : On X fm) {σ : L2.St} {H : Hp} {Q : Bool → Hp → Prop} (h : tT fm W (mTest f) σ H Q) : tO fm W f σ H fun x H' => ∃ k, TruV X.K x H' k ∧ Q k H' := by
  obtain ⟨F, ω, ρ, S, h⟩ := h
  refine ⟨F, ω, ρ, S, h.bind.imp fun F1 H1 ω1 ρ1 o E1 S1 ⟨_, h1, _⟩ v hv => ?_⟩
  obtain ⟨k, eo, h2⟩ := of_some h1
  simp only [Option.bind_eq_some_iff] at eo
  obtain ⟨d, e1, e2⟩ := eo
  exact ⟨k, truth_ok n S1 (hv.get S1 e1) e2, h2 F1 H1 ω1 .refl S1⟩
theorem tB_imp {σ : L2.St} {H : Hp} {Q : Bool → Hp → Prop} (h : tT fm W (mTestB f) σ H Q) : tO fm W f σ H fun x H' => ∃ k, x = .bl k ∧ Q k H' := by
  obtain ⟨F, ω, ρ, S, h⟩ := h
  refine ⟨F, ω, ρ, S, h.bind.imp fun F1 H1 ω1 ρ1 o E1 S1 ⟨_, h1, _⟩ v hv => ?_⟩
  obtain ⟨k, eo, h2⟩ := of_some h1
  simp only [Option.bind_eq_some_iff] at eo
  obtain ⟨d, e1, e2⟩ := eo
  cases d <;> cases e2
  exact ⟨k, repT_bl (hv.get S1 e1), h2 F1 H1 ω1 .refl S1⟩
/-- as a test, by truth -/
theorem t_of (n : On X fm) (h : PE X e (tO fm W f)) (he : ∀ whole, isTrue e X.env whole = (do let v ← whole; standAt e.pos; holding [v] (truthy v)) := by intro _; rfl) : PT X e (tT fm W (mTest f)) :=
  PT.imp (pt_truth h he) fun _ _ _ q => tT_imp n q
theorem bin_imp {op : D → D → Option Opd} {r : R2} (hd : OpD fm op r) {σ : L2.St} {H : Hp} {Q : VK} (h : tO fm W (mBin op f g) σ H Q) : tOp r (tO fm W f) (tO fm W g) σ H Q := by
  obtain ⟨F, ω, ρ, S, h⟩ := h
  refine ⟨F, ω, ρ, S, h.bind.imp fun F1 H1 ω1 ρ1 oa E1 S1 ⟨_, h1, _⟩ v hv => ?_⟩
  refine ⟨F1, ω1, ρ1, S1, h1.bind.imp fun F2 H2 ω2 ρ2 ob E2 S2 ⟨_, h2, _⟩ u hu => ?_⟩
  obtain ⟨o, eo, h3⟩ := of_some h2
  simp only [Option.bind_eq_some_iff] at eo
  obtain ⟨x, ex, y, ey, eo⟩ := eo
  exact hd F2 H2 ω2 σ ρ2 v u x y o Q S2 ((hv.ext E2).get S2 ex) (hu.get S2 ey) eo fun F' H' w E' S' hw => h3 F' H' ω2 E' S' w (hw.back (E1.trans E2).there)
theorem t_cmp {op : D → D → Option Opd} {r : R2} {o : CmpOp} (ho : OpR X (compareOp o) r) (hd : OpD fm op r) (ha : PE X a (tO fm W f)) (hb : PE X b (tO fm W g)) (hm : behindInMarks o b = false) : PT X (.Compare a [o] [b] pos) (tT fm W (mTestB (mBin op f g))) :=
  PT.imp (pt_cmpR ho ha hb hm) fun _ _ _ q => bin_imp hd (tB_imp q)
theorem t_lt (n : On X fm) (ha : PE X a (tO fm W f)) (hb : PE X b (tO fm W g)) : PT X (.Compare a [.Lt] [b] pos) (tT fm W (mTestB (mBin sLt f g))) := t_cmp op_lt od_lt ha hb (nomark _)
theorem t_le (n : On X fm) (ha : PE X a (tO fm W f)) (hb : PE X b (tO fm W g)) : PT X (.Compare a [.LtE] [b] pos) (tT fm W (mTestB (mBin sLe f g))) := t_cmp op_le od_le ha hb (nomark _)
theorem t_gt (n : On X fm) (ha : PE X a (tO fm W f)) (hb : PE X b (tO fm W g)) : PT X (.Compare a [.Gt] [b] pos) (tT fm W (mTestB (mBin sGt f g))) := t_cmp op_gt od_gt ha hb (nomark _)
theorem t_ge (n : On X fm) (ha : PE X a (tO fm W f)) (hb : PE X b (tO fm W g)) : PT X (.Compare a [.GtE] [b] pos) (tT fm W (mTestB (mBin sGe f g))) := t_cmp op_ge od_ge ha hb (nomark _)
theorem t_eq (n : On X fm) (ha : PE X a (tO fm W f)) (hb : PE X b (tO fm W g)) : PT X (.Compare a [.Eq] [b] pos) (tT fm W (mTestB (mBin sEq f g))) := t_cmp (by rw [n.K]; exact opr_or op_eq (op_eqD n.u64)) od_eq ha hb (nomark _)
theorem t_ne (n : On X fm) (ha : PE X a (tO fm W f)) (hb : PE X b (tO fm W g)) : PT X (.Compare a [.NotEq] [b] pos) (tT fm W (mTestB (mBin sNe f g))) := t_cmp (by rw [n.K]; exact opr_or op_ne (op_neD n.u64)) od_ne ha hb (nomark _)
theorem t_in (n : On X fm) (ha : PE X a (tO fm W f)) (hb : PE X b (tO fm W g)) (hm : behindInMarks .In b = false := by rfl) : PT X (.Compare a [.In] [b] pos) (tT fm W (mTestB (mBin sIn f g))) := t_cmp (by rw [n.K]; exact op_inD n.u65) od_in ha hb hm
theorem t_nin (n : On X fm) (ha : PE X a (tO fm W f)) (hb : PE X b (tO fm W g)) (hm : behindInMarks .NotIn b = false := by rfl) : PT X (.Compare a [.NotIn] [b] pos) (tT fm W (mTestB (mBin sNin f g))) := t_cmp (by rw [n.K]; exact op_notInD n.u65) od_nin ha hb hm
theorem t_is (n : On X fm) (ha : PE X a (tO fm W f)) (hb : PE X b (tO fm W g)) : PT X (.Compare a [.Is] [b] pos) (tT fm W (mTestB (mBin sIs f g))) := t_cmp (opr_or op_isN op_is_bl) od_is ha hb (nomark _)
theorem t_isN (n : On X fm) (ha : PE X a (tO fm W f)) (hb : PE X b (tO fm W g)) : PT X (.Compare a [.IsNot] [b] pos) (tT fm W (mTestB (mBin sIsN f g))) := t_cmp (opr_or op_notN op_isnot_bl) od_isN ha hb (nomark _)
theorem PW.imp {X : Cx} {e : Expr} {t t' : TT} (h : PW X e t) (w : ∀ σ H Q, t' σ H Q → t σ H Q) : PW X e t' := ⟨fun wh pins s σ H Q I q => h.run wh pins s σ H Q I (w σ H Q q)⟩
theorem tT_bind {t u : M Bool} {m : M Bool} {k : Bool → Bool} (hm : ∀ ρ, m ρ = (t ρ).bind fun c ρ => if k c = true then u ρ else .ok c ρ) {σ : L2.St} {H : Hp} {Q : Bool → Hp → Prop} (h : tT fm W m σ H Q) :
    tT fm W t σ H fun c H1 => if k c = true then tT fm W u σ H1 Q else Q c H1 := by
  obtain ⟨F, ω, ρ, S, h⟩ := h
  rw [hm] at h
  refine ⟨F, ω, ρ, S, h.bind.imp fun F1 H1 ω1 ρ1 c E1 S1 ⟨_, h1, _⟩ => ?_⟩
  by_cases hk : k c = true
  · rw [if_pos hk] at h1 ⊢
    exact ⟨F1, ω1, ρ1, S1, h1⟩
  · rw [if_neg hk] at h1 ⊢
    exact h1 F1 H1 ω1 .refl S1
theorem t_and1 (ha : PT X a (tT fm W t)) : PW X (.BoolOp .And [a] pos) (tT fm W t) := pw_and1 ha
theorem t_or1 (ha : PT X a (tT fm W t)) : PW X (.BoolOp .Or [a] pos) (tT fm W t) := pw_or1 ha
theorem t_and (ha : PT X a (tT fm W t)) (hb : PW X (.BoolOp .And (b :: es) pos) (tT fm W u)) : PW X (.BoolOp .And (a :: b :: es) pos) (tT fm W (mAndT t u)) :=
  PW.imp (pw_and ha hb) fun σ H Q q => by
    obtain ⟨F, ω, ρ, S, q⟩ := q
    refine ⟨F, ω, ρ, S, q.bind.imp fun F1 H1 ω1 ρ1 c E1 S1 ⟨_, h1, _⟩ => ?_⟩
    cases c with
    | true => rw [if_pos rfl]; exact ⟨F1, ω1, ρ1, S1, h1⟩
    | false => rw [if_neg Bool.false_ne_true]; exact h1 F1 H1 ω1 .refl S1
theorem t_or (ha : PT X a (tT fm W t)) (hb : PW X (.BoolOp .Or (b :: es) pos) (tT fm W u)) : PW X (.BoolOp .Or (a :: b :: es) pos) (tT fm W (mOrT t u)) :=
  PW.imp (pw_or ha hb) fun σ H Q q => by
    obtain ⟨F, ω, ρ, S, q⟩ := q
    refine ⟨F, ω, ρ, S, q.bind.imp fun F1 H1 ω1 ρ1 c E1 S1 ⟨_, h1, _⟩ => ?_⟩
    cases c with
    | false => rw [if_neg Bool.false_ne_true]; exact ⟨F1, ω1, ρ1, S1, h1⟩
    | true => rw [if_pos rfl]; exact h1 F1 H1 ω1 .refl S1
theorem t_not (ha : PT X a (tT fm W t)) : PT X (.UnaryOp .Not a pos) (tT fm W (mNotT t)) :=
  PT.imp (pt_not ha) fun σ H Q q => by
    obtain ⟨F, ω, ρ, S, q⟩ := q
    exact ⟨F, ω, ρ, S, q.bind.imp fun F1 H1 ω1 ρ1 c E1 S1 ⟨_, h1, _⟩ => h1 F1 H1 ω1 .refl S1⟩
theorem o_if (hc : PT X c (tT fm W t)) (ha : PE X a (tO fm W f)) (hb : PE X b (tO fm W g)) : PE X (.IfExp c a b pos) (tO fm W (mIf t f g)) :=
  PE.imp (pe_ifExp hc ha hb) fun σ H Q q => by
    obtain ⟨F, ω, ρ, S, q⟩ := q
    refine ⟨F, ω, ρ, S, q.bind.imp fun F1 H1 ω1 ρ1 c E1 S1 ⟨_, h1, _⟩ => ?_⟩
    cases c with
    | true => rw [if_pos rfl]; exact ⟨F1, ω1, ρ1, S1, h1.imp fun _ _ _ _ _ _ _ k v hv => k v (hv.back E1.there)⟩
    | false => rw [if_neg Bool.false_ne_true]; exact ⟨F1, ω1, ρ1, S1, h1.imp fun _ _ _ _ _ _ _ k v hv => k v (hv.back E1.there)⟩
theorem o_one {op} (ha : PE X a (tO fm W f)) : PE X (.BoolOp op [a] pos) (tO fm W f) := pe_one ha
theorem o_and (ha : PE X a (tO fm W f)) (hb : PE X (.BoolOp .And (b :: es) pos) (tO fm W g)) : PE X (.BoolOp .And (a :: b :: es) pos) (tO fm W (mAnd f g)) :=
  PE.imp (pe_and ha hb) fun σ H Q q => by
    refine tB_imp (Q := fun c H1 => if c = true then tO fm W g σ H1 Q else Q (.bl false) H1) ?_
    obtain ⟨F, ω, ρ, S, q⟩ := q
    refine ⟨F, ω, ρ, S, q.bind.imp fun F1 H1 ω1 ρ1 c E1 S1 ⟨_, h1, _⟩ => ?_⟩
    cases c with
    | true => rw [if_pos rfl]; exact ⟨F1, ω1, ρ1, S1, h1.imp fun _ _ _ _ _ _ _ k v hv => k v (hv.back E1.there)⟩
    | false => rw [if_neg Bool.false_ne_true]; exact h1 F1 H1 ω1 .refl S1 _ (.bl false)
theorem o_or (ha : PE X a (tO fm W f)) (hb : PE X (.BoolOp .Or (b :: es) pos) (tO fm W g)) : PE X (.BoolOp .Or (a :: b :: es) pos) (tO fm W (mOr f g)) :=
  PE.imp (pe_or ha hb) fun σ H Q q => by
    refine tB_imp (Q := fun c H1 => if c = true then Q (.bl true) H1 else tO fm W g σ H1 Q) ?_
    obtain ⟨F, ω, ρ, S, q⟩ := q
    refine ⟨F, ω, ρ, S, q.bind.imp fun F1 H1 ω1 ρ1 c E1 S1 ⟨_, h1, _⟩ => ?_⟩
    cases c with
    | false => rw [if_neg Bool.false_ne_true]; exact ⟨F1, ω1, ρ1, S1, h1.imp fun _ _ _ _ _ _ _ k v hv => k v (hv.back E1.there)⟩
    | true => rw [if_pos rfl]; exact h1 F1 H1 ω1 .refl S1 _ (.bl true)
theorem o_not (n : On X fm) (ha : PE X a (tO fm W f)) : PE X (.UnaryOp .Not a pos) (tO fm W (mNot f)) :=
  PE.imp (pe_notT ha) fun σ H Q q => by
    refine tT_imp n (Q := fun k H1 => Q (.bl (!k)) H1) ?_
    obtain ⟨F, ω, ρ, S, q⟩ := q
    exact ⟨F, ω, ρ, S, q.bind.imp fun F1 H1 ω1 ρ1 c E1 S1 ⟨_, h1, _⟩ => h1 F1 H1 ω1 .refl S1 _ (.bl _)⟩

/-! ### a < b < c -/
def mChain (op op' : D → D → Option Opd) (f g h : M Opd) : M Opd := fun ρ => (f ρ).bind fun a ρ => (g ρ).bind fun b ρ =>
  R.bind (R.of ((a.get ρ).bind fun x => (b.get ρ).bind fun y => (op x y).bind fun o => (o.get ρ).bind asBl) ρ) fun k ρ => match k with
    | true => (h ρ).bind fun c ρ => R.of ((b.get ρ).bind fun y => (c.get ρ).bind fun z => op' y z) ρ
    | false => .ok (.val (.bl false)) ρ
end
end DL
namespace DL
open PySem PySem.Spec PyProof.Rows L2

/-! ### calls of built-ins, by what is read -/
inductive Reading (fm : Fm) (F H : Hp) : List V → List D → Prop
  | nil : Reading fm F H [] []
  | cons {v d vs ds} : RepT fm F H v d → Reading fm F H vs ds → Reading fm F H (v :: vs) (d :: ds)
def CallD (fm : Fm) (op : List D → Option Opd) (r : List V → Hp → VK → Prop) : Prop :=
  ∀ (F H : Hp) (ω : Om) (σ : L2.St) (ρ : Rho) (vs : List V) (ds : List D) (o : Opd) (Q : VK), Sta fm F H ω σ ρ → Reading fm F H vs ds → op ds = some o →
    (∀ F' H' w, Ext fm F H ω F' H' ω → Sta fm F' H' ω σ ρ → OpdOk fm H F' H' ω σ w o → Q w H') → r vs H Q
theorem gets_ok {fm : Fm} {Hs F H : Hp} {ω : Om} {σ : L2.St} {ρ : Rho} (S : Sta fm F H ω σ ρ) : ∀ {vs : List V} {os : List Opd} {ds : List D}, OpdsOk fm Hs F H ω σ vs os → gets ρ os = some ds → Reading fm F H vs ds
  | [], [], _, _, e => by cases e; exact .nil
  | v :: vs, o :: os, _, ⟨h1, h2, _⟩, e => by
    unfold gets at e
    simp only [Option.bind_eq_some_iff] at e
    obtain ⟨d, e1, ds, e2, e3⟩ := e
    cases e3
    exact .cons (h1.get S e1) (gets_ok S h2 e2)
  | [], _ :: _, _, h, _ => h.elim
  | _ :: _, [], _, h, _ => h.elim
section
variable {X : Cx} {fm : Fm} {W : WX} {e a b c : Expr} {es : List Expr} {f g h : M Opd} {fs : M (List Opd)} {t u : M Bool} {pos p : Pos}
theorem o_call {op : List D → Option Opd} {r : List V → Hp → VK → Prop} (pe : ∀ {t : TA}, PA X es t → PE X e (tCB r t)) (hd : CallD fm op r) (ha : PA X es (tOs fm W fs)) : PE X e (tO fm W (mB op fs)) :=
  PE.imp (pe ha) fun σ H Q ⟨F, ω, ρ, S, h⟩ => by
    refine ⟨F, ω, ρ, S, h.bind.imp fun F1 H1 ω1 ρ1 os E1 S1 ⟨_, h1, _⟩ vs hv => ?_⟩
    obtain ⟨o, eo, h2⟩ := of_some h1
    simp only [Option.bind_eq_some_iff] at eo
    obtain ⟨ds, e1, e2⟩ := eo
    exact hd F1 H1 ω1 σ ρ1 vs ds o Q S1 (gets_ok S1 hv e1) e2 fun F' H' w E' S' hw => h2 F' H' ω1 E' S' w (hw.back E1.there)
theorem cd_scal {op : List D → Option Opd} {r : List V → Hp → VK → Prop}
    (h : ∀ (F H : Hp) (ω : Om) (σ : L2.St) (ρ : Rho) (vs : List V) (ds : List D) (o : Opd) (Q : VK), Sta fm F H ω σ ρ → Reading fm F H vs ds → op ds = some o → (∀ w d, o = .val d → Rep fm.K fm.mg F w d → Q w H) → r vs H Q) : CallD fm op r :=
  fun F H ω σ ρ vs ds o Q S hv e k => h F H ω σ ρ vs ds o Q S hv e fun w d eo hw => k F H w .refl S (by subst eo; exact hw)

def bLen : List D → Option Opd
  | [.lst xs] => some (.val (.int xs.length))
  | [.tup xs] => some (.val (.int xs.length))
  | [.scr xs] => some (.val (.int xs.length))
  | _ => none
theorem cd_len : CallD fm bLen (fun xs H Q => ∃ x n, xs = [x] ∧ LenV fm.K x H n ∧ Q (.int n) H) := cd_scal fun F H ω σ ρ vs ds o Q S hv e k => by
  unfold bLen at e
  split at e
  · cases e; cases hv with | cons h1 h2 => cases h2; obtain ⟨a, vs, rfl, h1, h2⟩ := repT_lst S h1; exact ⟨_, vs.length, rfl, .inl ⟨vs, SqL.of h1, rfl⟩, by rw [h2.length]; exact k _ _ rfl (.int _)⟩
  · cases e; cases hv with | cons h1 h2 => cases h2; obtain ⟨a, vs, rfl, _, h1, h2⟩ := repT_tup S h1; exact ⟨_, vs.length, rfl, .inr ⟨vs, SqT.of h1, rfl⟩, by rw [h2.length]; exact k _ _ rfl (.int _)⟩
  · cases e
    cases hv with
    | cons h1 h2 =>
      cases h2
      rcases h1 with h1 | ⟨a, vs, xs, rfl, z, _⟩
      · cases h1 with
        | scr q => refine ⟨_, _, rfl, .inl ⟨_, S.sub.sqL q, rfl⟩, ?_⟩; rw [List.length_map]; exact k _ _ rfl (.int _)
      · cases z
  · cases e
theorem o_len (n : On X fm) (hm : X.mg "len" = none) (ha : PA X (a :: es) (tOs fm W fs)) (hg : Gl X "len" := by rfl) (he : starEach (a :: es) X.env = (false, eval a X.env) :: starEach es X.env := by rfl) (hpl : (backTo pos (starEach es X.env)).any (·.1) = false := by rfl) :
    PE X (.Call (.Name "len" p) (a :: es) [] pos) (tO fm W (mB bLen fs)) := o_call (fun ha => pe_callB (by rw [n.K]; exact call_len) hg hm (by decide +kernel) ha (he := he) (hpl := hpl)) cd_len ha
def bAbs : List D → Option Opd
  | [.int i] => some (.val (.int (if i < 0 then -i else i)))
  | _ => none
theorem o_abs (n : On X fm) (hm : X.mg "abs" = none) (ha : PA X (a :: es) (tOs fm W fs)) (hg : Gl X "abs" := by rfl) (he : starEach (a :: es) X.env = (false, eval a X.env) :: starEach es X.env := by rfl) (hpl : (backTo pos (starEach es X.env)).any (·.1) = false := by rfl) :
    PE X (.Call (.Name "abs" p) (a :: es) [] pos) (tO fm W (mB bAbs fs)) := o_call (fun ha => pe_callB call_abs hg hm (by decide +kernel) ha (he := he) (hpl := hpl)) (cd_scal fun F H ω σ ρ vs ds o Q S hv e k => by
  unfold bAbs at e
  split at e
  · cases e; cases hv with | cons h1 h2 => cases h2; rw [repT_int h1]; exact ⟨_, rfl, k _ _ rfl (.int _)⟩
  · cases e) ha
def bMax : List D → Option Opd
  | [.int i, .int j] => some (.val (.int (if j > i then j else i)))
  | _ => none
def bMin : List D → Option Opd
  | [.int i, .int j] => some (.val (.int (if j < i then j else i)))
  | _ => none
theorem o_max (n : On X fm) (hm : X.mg "max" = none) (ha : PA X (a :: es) (tOs fm W fs)) (hg : Gl X "max" := by rfl) (he : starEach (a :: es) X.env = (false, eval a X.env) :: starEach es X.env := by rfl) (hpl : (backTo pos (starEach es X.env)).any (·.1) = false := by rfl) :
    PE X (.Call (.Name "max" p) (a :: es) [] pos) (tO fm W (mB bMax fs)) := o_call (fun ha => pe_callB (call_max2 n.calm) hg hm (by decide +kernel) ha (he := he) (hpl := hpl)) (cd_scal fun F H ω σ ρ vs ds o Q S hv e k => by
  unfold bMax at e
  split at e
  · cases e; cases hv with | cons h1 h2 => cases h2 with | cons h2 h3 => cases h3; rw [repT_int h1, repT_int h2]; exact ⟨_, _, rfl, k _ _ rfl (.int _)⟩
  · cases e) ha
theorem o_min (n : On X fm) (hm : X.mg "min" = none) (ha : PA X (a :: es) (tOs fm W fs)) (hg : Gl X "min" := by rfl) (he : starEach (a :: es) X.env = (false, eval a X.env) :: starEach es X.env := by rfl) (hpl : (backTo pos (starEach es X.env)).any (·.1) = false := by rfl) :
    PE X (.Call (.Name "min" p) (a :: es) [] pos) (tO fm W (mB bMin fs)) := o_call (fun ha => pe_callB (call_min2 n.calm) hg hm (by decide +kernel) ha (he := he) (hpl := hpl)) (cd_scal fun F H ω σ ρ vs ds o Q S hv e k => by
  unfold bMin at e
  split at e
  · cases e; cases hv with | cons h1 h2 => cases h2 with | cons h2 h3 => cases h3; rw [repT_int h1, repT_int h2]; exact ⟨_, _, rfl, k _ _ rfl (.int _)⟩
  · cases e) ha
def bInt : List D → Option Opd
  | [.int i] => some (.val (.int i))
  | [.bl b] => some (.val (.int (if b then 1 else 0)))
  | _ => none
theorem o_intB (n : On X fm) (hm : X.mg "int" = none) (ha : PA X (a :: es) (tOs fm W fs)) (hg : Gl X "int" := by rfl) (he : starEach (a :: es) X.env = (false, eval a X.env) :: starEach es X.env := by rfl) (hpl : (backTo pos (starEach es X.env)).any (·.1) = false := by rfl) :
    PE X (.Call (.Name "int" p) (a :: es) [] pos) (tO fm W (mB bInt fs)) := o_call (fun ha => pe_callTy call_int1 hg hm (by decide +kernel) ha (he := he) (hpl := hpl)) (cd_scal fun F H ω σ ρ vs ds o Q S hv e k => by
  unfold bInt at e
  split at e
  · cases e; cases hv with | cons h1 h2 => cases h2; rw [repT_int h1]; exact .inl ⟨_, rfl, k _ _ rfl (.int _)⟩
  · cases e; cases hv with | cons h1 h2 => cases h2; rw [repT_bl h1]; exact .inr ⟨_, rfl, k _ _ rfl (.int _)⟩
  · cases e) ha
def bDivmod : List D → Option Opd
  | [.int i, .int j] => if 0 < j ∧ j < 1073741824 then some (.val (.tup [.int (i / j), .int (i % j)])) else none
  | _ => none
theorem o_divmod (n : On X fm) (hm : X.mg "divmod" = none) (ha : PA X (a :: es) (tOs fm W fs)) (hg : Gl X "divmod" := by rfl) (he : starEach (a :: es) X.env = (false, eval a X.env) :: starEach es X.env := by rfl) (hpl : (backTo pos (starEach es X.env)).any (·.1) = false := by rfl) :
    PE X (.Call (.Name "divmod" p) (a :: es) [] pos) (tO fm W (mB bDivmod fs)) := o_call (fun ha => pe_callB call_divmod hg hm (by decide +kernel) ha (he := he) (hpl := hpl)) (fun F H ω σ ρ vs ds o Q S hv e k => by
  unfold bDivmod at e
  split at e
  · split at e
    · rename_i hc
      cases e
      cases hv with
      | cons h1 h2 =>
        cases h2 with
        | cons h2 h3 =>
          cases h3
          rw [repT_int h1, repT_int h2]
          exact ⟨_, _, rfl, hc, fun p hp => k _ _ _ (Ext.share (S.fnone hp) (S.onone hp) hp) (S.shareN hp) (.tup upd_same (.cons (.int _) (.cons (.int _) .nil)))⟩
    · cases e
  · cases e) ha
def bList : List D → Option Opd
  | [.lst xs] => some (.tmp xs)
  | [.tup xs] => some (.tmp xs)
  | _ => none
theorem o_list (n : On X fm) (hm : X.mg "list" = none) (ha : PA X (a :: es) (tOs fm W fs)) (hg : Gl X "list" := by rfl) (he : starEach (a :: es) X.env = (false, eval a X.env) :: starEach es X.env := by rfl) (hpl : (backTo pos (starEach es X.env)).any (·.1) = false := by rfl) :
    PE X (.Call (.Name "list" p) (a :: es) [] pos) (tO fm W (mB bList fs)) := o_call (fun ha => pe_callTy call_list_of hg hm (by decide +kernel) ha (he := he) (hpl := hpl)) (fun F H ω σ ρ vs ds o Q S hv e k => by
  unfold bList at e
  split at e
  · cases e
    cases hv with
    | cons h1 h2 =>
      cases h2
      obtain ⟨a, vs, rfl, h1, h2⟩ := repT_lst S h1
      exact ⟨a, vs, rfl, .inl (SqL.of h1), fun p hp => k F _ _ (Ext.new hp) (S.new hp) ⟨p, vs, rfl, S.fnone hp, S.onone hp, hp, upd_same, h2⟩⟩
  · cases e
    cases hv with
    | cons h1 h2 =>
      cases h2
      obtain ⟨a, vs, rfl, _, h1, h2⟩ := repT_tup S h1
      exact ⟨a, vs, rfl, .inr (SqT.of h1), fun p hp => k F _ _ (Ext.new hp) (S.new hp) ⟨p, vs, rfl, S.fnone hp, S.onone hp, hp, upd_same, h2⟩⟩
  · cases e) ha
def bTuple : List D → Option Opd
  | [.lst xs] => some (.val (.tup xs))
  | [.tup xs] => some (.val (.tup xs))
  | _ => none
theorem o_tupleB (n : On X fm) (hm : X.mg "tuple" = none) (ha : PA X (a :: es) (tOs fm W fs)) (hg : Gl X "tuple" := by rfl) (he : starEach (a :: es) X.env = (false, eval a X.env) :: starEach es X.env := by rfl) (hpl : (backTo pos (starEach es X.env)).any (·.1) = false := by rfl) :
    PE X (.Call (.Name "tuple" p) (a :: es) [] pos) (tO fm W (mB bTuple fs)) := o_call (fun ha => pe_callTy call_tuple_of hg hm (by decide +kernel) ha (he := he) (hpl := hpl)) (fun F H ω σ ρ vs ds o Q S hv e k => by
  unfold bTuple at e
  split at e
  · cases e
    cases hv with
    | cons h1 h2 =>
      cases h2
      obtain ⟨a, vs, rfl, h1, h2⟩ := repT_lst S h1
      exact ⟨a, vs, rfl, .inl ⟨SqL.of h1, fun p hp => k _ _ _ (Ext.share (S.fnone hp) (S.onone hp) hp) (S.shareN hp) (.tup upd_same (h2.mono fun b u q => by rw [upd_ne (ne_of_none q (S.fnone hp))]; exact q))⟩⟩
  · cases e
    cases hv with
    | cons h1 h2 =>
      cases h2
      obtain ⟨a, vs, rfl, hf, h1, h2⟩ := repT_tup S h1
      exact ⟨a, vs, rfl, .inr ⟨SqT.of h1, k F H _ .refl S (.tup hf h2)⟩⟩
  · cases e) ha
/-- truths alone -/
def bools : List D → Option (List Bool)
  | [] => some []
  | .bl b :: r => (bools r).map (b :: ·)
  | _ :: _ => none
theorem bools_ok {K : PySem.W.Frag} {mg : Str → Option Value} {F : Hp} : ∀ {vs : List V} {ds : List D} {bs : List Bool}, RepL K mg F vs ds → bools ds = some bs → vs = bs.map V.bl
  | _, _, _, .nil, e => by cases e; rfl
  | _, _, _, .cons h r, e => by
    cases h with
    | bl b =>
      simp only [bools, Option.map_eq_some_iff] at e
      obtain ⟨bs, e1, rfl⟩ := e
      rw [bools_ok r e1]; rfl
    | _ => simp only [bools] at e; cases e
def bAll : List D → Option Opd
  | [.lst xs] => (bools xs).map fun bs => .val (.bl (bs.all id))
  | _ => none
def bAny : List D → Option Opd
  | [.lst xs] => (bools xs).map fun bs => .val (.bl (bs.any id))
  | _ => none
theorem o_all (n : On X fm) (hm : X.mg "all" = none) (ha : PA X (a :: es) (tOs fm W fs)) (hg : Gl X "all" := by rfl) (he : starEach (a :: es) X.env = (false, eval a X.env) :: starEach es X.env := by rfl) (hpl : (backTo pos (starEach es X.env)).any (·.1) = false := by rfl) :
    PE X (.Call (.Name "all" p) (a :: es) [] pos) (tO fm W (mB bAll fs)) := o_call (fun ha => pe_callB (cr_all n.calm) hg hm (by decide +kernel) ha (he := he) (hpl := hpl)) (cd_scal fun F H ω σ ρ vs ds o Q S hv e k => by
  unfold bAll at e
  split at e
  · simp only [Option.map_eq_some_iff] at e
    obtain ⟨bs, e1, rfl⟩ := e
    cases hv with
    | cons h1 h2 =>
      cases h2
      obtain ⟨a, vs, rfl, h1, h2⟩ := repT_lst S h1
      have ev := bools_ok h2 e1
      subst ev
      exact ⟨a, bs, rfl, SqL.of h1, k _ _ rfl (.bl _)⟩
  · cases e) ha
theorem o_any (n : On X fm) (hm : X.mg "any" = none) (ha : PA X (a :: es) (tOs fm W fs)) (hg : Gl X "any" := by rfl) (he : starEach (a :: es) X.env = (false, eval a X.env) :: starEach es X.env := by rfl) (hpl : (backTo pos (starEach es X.env)).any (·.1) = false := by rfl) :
    PE X (.Call (.Name "any" p) (a :: es) [] pos) (tO fm W (mB bAny fs)) := o_call (fun ha => pe_callB (cr_any n.calm) hg hm (by decide +kernel) ha (he := he) (hpl := hpl)) (cd_scal fun F H ω σ ρ vs ds o Q S hv e k => by
  unfold bAny at e
  split at e
  · simp only [Option.map_eq_some_iff] at e
    obtain ⟨bs, e1, rfl⟩ := e
    cases hv with
    | cons h1 h2 =>
      cases h2
      obtain ⟨a, vs, rfl, h1, h2⟩ := repT_lst S h1
      have ev := bools_ok h2 e1
      subst ev
      exact ⟨a, bs, rfl, SqL.of h1, k _ _ rfl (.bl _)⟩
  · cases e) ha
end
end DL
namespace DL
open PySem PySem.Spec PyProof.Rows L2

/-! ### one operand -/
def UnD (fm : Fm) (op : D → Option Opd) (r : V → Hp → VK → Prop) : Prop :=
  ∀ (F H : Hp) (ω : Om) (σ : L2.St) (ρ : Rho) (v : V) (x : D) (o : Opd) (Q : VK), Sta fm F H ω σ ρ → RepT fm F H v x → op x = some o →
    (∀ F' H' w, Ext fm F H ω F' H' ω → Sta fm F' H' ω σ ρ → OpdOk fm H F' H' ω σ w o → Q w H') → r v H Q
section
variable {X : Cx} {fm : Fm} {W : WX} {e a b c : Expr} {es : List Expr} {f g h : M Opd} {fs : M (List Opd)} {t u : M Bool} {pos p : Pos}
theorem un_imp {op : D → Option Opd} {r : V → Hp → VK → Prop} (hd : UnD fm op r) {σ : L2.St} {H : Hp} {Q : VK} (h : tO fm W (mUn op f) σ H Q) : tO fm W f σ H fun x H1 => r x H1 Q := by
  obtain ⟨F, ω, ρ, S, h⟩ := h
  refine ⟨F, ω, ρ, S, h.bind.imp fun F1 H1 ω1 ρ1 oa E1 S1 ⟨_, h1, _⟩ v hv => ?_⟩
  obtain ⟨o, eo, h3⟩ := of_some h1
  simp only [Option.bind_eq_some_iff] at eo
  obtain ⟨x, ex, eo⟩ := eo
  exact hd F1 H1 ω1 σ ρ1 v x o Q S1 (hv.get S1 ex) eo fun F' H' w E' S' hw => h3 F' H' ω1 E' S' w (hw.back E1.there)
theorem ud_scal {op : D → Option Opd} {r : V → Hp → VK → Prop}
    (h : ∀ (F H : Hp) (ω : Om) (σ : L2.St) (ρ : Rho) (v : V) (x : D) (o : Opd) (Q : VK), Sta fm F H ω σ ρ → RepT fm F H v x → op x = some o → (∀ w d, o = .val d → Rep fm.K fm.mg F w d → Q w H) → r v H Q) : UnD fm op r :=
  fun F H ω σ ρ v x o Q S hv e k => h F H ω σ ρ v x o Q S hv e fun w d eo hw => k F H w .refl S (by subst eo; exact hw)

/-! ### isinstance -/
def tyName : D → Option String
  | .non => some "NoneType"
  | .bl _ => some "bool"
  | .int _ => some "int"
  | .str _ => some "str"
  | .lst _ => some "list"
  | .tup _ => some "tuple"
  | .dic _ => some "dict"
  | .scr _ => none
  | .ins _ _ => none
def subTy (t T : String) : Bool := t == T || (t == "bool" && T == "int")
def isB (cs : List Str) (T : String) (d : D) : Option Opd := match d with
  | .ins c _ => if c ∈ cs then some (.val (.bl false)) else none
  | d => (tyName d).map fun t => .val (.bl (subTy t T))
def isLT (cs : List Str) (d : D) : Option Opd := match d with
  | .ins c _ => if c ∈ cs then some (.val (.bl false)) else none
  | d => (tyName d).map fun t => .val (.bl (subTy t "list" || subTy t "tuple"))
/-- own class c; the other own classes whose objects may come -/
def isC (cs : List Str) (c : Str) (d : D) : Option Opd := match d with
  | .ins c' _ => if c' = c then some (.val (.bl true)) else if c' ∈ cs then some (.val (.bl false)) else none
  | d => (tyName d).map fun _ => .val (.bl false)
def prims : List String := ["NoneType", "bool", "int", "str", "list", "tuple", "dict"]
/-- what the top says of an own class at C -/
structure ClsA (K : PySem.W.Frag) (C : Addr) : Prop where
  cl : Cls K C
  ha : PySem.W.findIn K (.ref C) "__class__" = some (some (.builtin "object.__class__"))
  hn : PySem.W.specialIn K (.builtin "object.__class__") "__get__" = some (some (.builtin "getset_descriptor.__get__"))
  htk : PySem.W.takesIn K (.builtin "object.__class__") = some true
  hm : PySem.W.mroIn K C (.type "object") = some true
  no : ∀ T ∈ ["int", "bool", "str", "list", "tuple"], PySem.W.kitOne K (.ref C) (.type T) = some false
  of : ∀ T ∈ prims, PySem.W.kitOne K (.type T) (.ref C) = some false
  self : PySem.W.kitOne K (.ref C) (.ref C) = some true
/-- classes cs: as told, and none a subclass of another -/
structure InsF (X : Cx) (cs : List Str) : Prop where
  ok : ∀ c ∈ cs, ∀ C, X.mg c = some (.ref C) → ClsA X.K C
  ne : ∀ c ∈ cs, ∀ c' ∈ cs, c ≠ c' → ∀ C C', X.mg c = some (.ref C) → X.mg c' = some (.ref C') → PySem.W.kitOne X.K (.ref C) (.ref C') = some false
theorem kit_prim (K : PySem.W.Frag) {t T : String} (ht : t ∈ prims) (hT : T ∈ ["int", "bool", "str", "list", "tuple"]) : PySem.W.kitOne K (.type t) (.type T) = some (subTy t T) := by
  simp only [prims, List.mem_cons, List.not_mem_nil, or_false] at ht hT
  rcases ht with rfl | rfl | rfl | rfl | rfl | rfl | rfl <;> rcases hT with rfl | rfl | rfl | rfl | rfl <;> rfl
theorem ty_ok (n : On X fm) {F H : Hp} {ω : Om} {σ : L2.St} {ρ : Rho} {v : V} {d : D} {t : String} (S : Sta fm F H ω σ ρ) (h : RepT fm F H v d) (e : tyName d = some t) : t ∈ prims ∧ TyX X.K H v (.type t) := by
  cases d with
  | non => cases e; rw [(repT_non h).mpr rfl]; exact ⟨by decide, .base .non⟩
  | bl b => cases e; rw [repT_bl h]; exact ⟨by decide, .base (.bl b)⟩
  | int i => cases e; rw [repT_int h]; exact ⟨by decide, .base (.int i)⟩
  | str x => cases e; rw [repT_str h]; exact ⟨by decide, .base (.str x)⟩
  | lst xs => cases e; obtain ⟨a, vs, rfl, h1, h2⟩ := repT_lst S h; exact ⟨by decide, .base (.lst h1)⟩
  | tup xs => cases e; obtain ⟨a, vs, rfl, _, h1, h2⟩ := repT_tup S h; exact ⟨by decide, .base (.tup h1)⟩
  | dic ds =>
    cases e
    rcases h with h | ⟨a, vs, ys, rfl, e, _⟩
    · cases h with | dic h r => exact ⟨by decide, .base (.dK (S.sub _ _ h))⟩
    · cases e
  | scr _ => cases e
  | ins _ _ => cases e
theorem repT_ins {F H : Hp} {ω : Om} {σ : L2.St} {ρ : Rho} {v : V} {c : Str} {fs : List (Str × D)} (S : Sta fm F H ω σ ρ) (h : RepT fm F H v (.ins c fs)) :
    ∃ a C dx vs, v = .ref a ∧ fm.mg c = some (.ref C) ∧ F a = some (.ins C dx vs) ∧ H a = some (.ins C dx vs) ∧ RepF fm.K fm.mg F vs fs := by
  rcases h with h | ⟨a, vs, ys, rfl, e, _⟩
  · cases h with | ins h1 h2 h4 => exact ⟨_, _, _, _, rfl, h1, h2, S.sub _ _ h2, h4⟩
  · cases e
theorem ClsA.ty {K : PySem.W.Frag} {H : Hp} {a C dx : Addr} {fs : List (Str × V)} (A : ClsA K C) (e : H a = some (.ins C dx fs)) : TyX K H (.ref a) (.ref C) := .base (.ins e A.cl A.ha A.hn A.htk A.hm)
theorem ud_isB (n : On X fm) {cs : List Str} (hI : InsF X cs) {T : String} (hT : T ∈ ["int", "bool", "str", "list", "tuple"]) : UnD fm (isB cs T) (fun x H Q => rIsi X.K [x, .ty T] H Q) := ud_scal fun F H ω σ ρ v x o Q S hv e k => by
  unfold isB at e
  split at e
  · split at e
    · rename_i hc
      cases e
      obtain ⟨a, C, dx, vs, rfl, h1, _, h2, _⟩ := repT_ins S hv
      rw [n.mg] at h1
      have A := hI.ok _ hc C h1
      exact ⟨_, _, _, _, _, rfl, .ty T, A.ty h2, A.no T hT, k _ _ rfl (.bl _)⟩
    · cases e
  · simp only [Option.map_eq_some_iff] at e
    obtain ⟨t, e1, rfl⟩ := e
    obtain ⟨h1, h2⟩ := ty_ok n S hv e1
    exact ⟨_, _, _, _, _, rfl, .ty T, h2, kit_prim _ h1 hT, k _ _ rfl (.bl _)⟩
theorem o_isB (n : On X fm) {cs : List Str} (hI : InsF X cs) (T : String) {x : Str} (hT : T ∈ ["int", "bool", "str", "list", "tuple"]) (hm : X.mg "isinstance" = none) (hmT : X.mg x = none) (hv : bootBuiltins x = some (.type T)) (ha : PE X a (tO fm W f)) {p2 : Pos}
    (hg : Gl X "isinstance" := by rfl) (hgT : Gl X x := by rfl) (hn : x ≠ "__name__" := by decide) (hd : (x == ("__debug__" : Str)) = false := by decide) (he : starEach [a, .Name x p2] X.env = (false, eval a X.env) :: starEach [.Name x p2] X.env := by rfl)
    (he2 : starEach [.Name x p2] X.env = (false, eval (.Name x p2) X.env) :: starEach [] X.env := by rfl) (hpl : (backTo pos (starEach [.Name x p2] X.env)).any (·.1) = false := by rfl) :
    PE X (.Call (.Name "isinstance" p) [a, .Name x p2] [] pos) (tO fm W (mUn (isB cs T) f)) :=
  PE.imp (pe_callB call_isi hg hm (by decide +kernel) (pa_cons ha (pa_cons (pe_bltn (v := .ty T) hgT hmT hv rfl hn hd) pa_nil he2) he) (he := he) (hpl := hpl)) fun σ H Q q => un_imp (ud_isB n hI hT) q
theorem ud_isLT (n : On X fm) {cs : List Str} (hI : InsF X cs) : UnD fm (isLT cs) (fun x H Q => ∀ p, H p = none → rIsiT X.K [x, .ref p] (upd H p (.tup [.ty "list", .ty "tuple"])) Q) := fun F H ω σ ρ v x o Q S hv e k p hp => by
  have mono : ∀ {d}, RepT fm F H v d → RepT fm F (upd H p (.tup [.ty "list", .ty "tuple"])) v d := fun h => h.mono Sub.refl fun a o q => by rw [upd_ne (ne_of_none q hp)]; exact q
  have S' := S.new (u := .tup [.ty "list", .ty "tuple"]) hp
  have cl : Paired ClsV [.ty "list", .ty "tuple"] [.type "list", .type "tuple"] := .cons (.ty _) (.cons (.ty _) .nil)
  unfold isLT at e
  split at e
  · split at e
    · rename_i hc
      cases e
      obtain ⟨a, C, dx, vs, rfl, h1, _, h2, _⟩ := repT_ins S' (mono hv)
      rw [n.mg] at h1
      have A := hI.ok _ hc C h1
      refine ⟨_, p, _, _, _, _, rfl, upd_same, cl, A.ty h2, ?_, k F _ _ (Ext.new hp) S' (.bl false)⟩
      unfold PySem.W.kitAny
      rw [A.no "list" (by decide)]
      unfold PySem.W.kitAny
      rw [A.no "tuple" (by decide)]
      rfl
    · cases e
  · simp only [Option.map_eq_some_iff] at e
    obtain ⟨t, e1, rfl⟩ := e
    obtain ⟨h1, h2⟩ := ty_ok n S' (mono hv) e1
    refine ⟨_, p, _, _, _, _, rfl, upd_same, cl, h2, ?_, k F _ _ (Ext.new hp) S' (.bl (subTy t "list" || subTy t "tuple"))⟩
    unfold PySem.W.kitAny
    rw [kit_prim _ h1 (by decide)]
    unfold PySem.W.kitAny
    rw [kit_prim _ h1 (by decide)]
    cases subTy t "list" <;> cases subTy t "tuple" <;> rfl
theorem o_isLT (n : On X fm) {cs : List Str} (hI : InsF X cs) (hm : X.mg "isinstance" = none) (hm1 : X.mg "list" = none) (hm2 : X.mg "tuple" = none) (ha : PE X a (tO fm W f)) {p1 p2 p3 : Pos} {kk : Nat}
    (hg : Gl X "isinstance" := by rfl) (hg1 : Gl X "list" := by rfl) (hg2 : Gl X "tuple" := by rfl) (he : starEach [a, .Tuple [.Name "list" p1, .Name "tuple" p2] kk p3] X.env = (false, eval a X.env) :: starEach [.Tuple [.Name "list" p1, .Name "tuple" p2] kk p3] X.env := by rfl)
    (he2 : starEach [.Tuple [.Name "list" p1, .Name "tuple" p2] kk p3] X.env = (false, eval (.Tuple [.Name "list" p1, .Name "tuple" p2] kk p3) X.env) :: starEach [] X.env := by rfl) (hpl : (backTo pos (starEach [.Tuple [.Name "list" p1, .Name "tuple" p2] kk p3] X.env)).any (·.1) = false := by rfl)
    (he3 : starEach [.Name "list" p1, .Name "tuple" p2] X.env = (false, eval (.Name "list" p1) X.env) :: starEach [.Name "tuple" p2] X.env := by rfl) (he4 : starEach [.Name "tuple" p2] X.env = (false, eval (.Name "tuple" p2) X.env) :: starEach [] X.env := by rfl) :
    PE X (.Call (.Name "isinstance" p) [a, .Tuple [.Name "list" p1, .Name "tuple" p2] kk p3] [] pos) (tO fm W (mUn (isLT cs) f)) :=
  PE.imp (pe_callB call_isiT hg hm (by decide +kernel) (pa_cons ha (pa_cons (pe_tup (pa_cons (pe_bltn (v := .ty "list") hg1 hm1 (by decide +kernel) rfl) (pa_cons (pe_bltn (v := .ty "tuple") hg2 hm2 (by decide +kernel) rfl) pa_nil he4) he3)) pa_nil he2) he) (he := he) (hpl := hpl)) fun σ H Q q => by
    have q1 := un_imp (ud_isLT n hI) q
    obtain ⟨F, ω, ρ, S, q1⟩ := q1
    exact ⟨F, ω, ρ, S, q1.imp fun F1 H1 ω1 ρ1 oa E1 S1 h1 v hv => ⟨by decide, fun p hp => h1 v hv p hp⟩⟩
theorem ud_isC (n : On X fm) {cs : List Str} (hI : InsF X cs) {cN : Str} {C : Addr} (hcs : cN ∈ cs) (hC : X.mg cN = some (.ref C)) : UnD fm (isC cs cN) (fun x H Q => rIsi X.K [x, .ref C] H Q) := ud_scal fun F H ω σ ρ v x o Q S hv e k => by
  have A := hI.ok _ hcs C hC
  unfold isC at e
  split at e
  · obtain ⟨a, C', dx, vs, rfl, h1, _, h2, _⟩ := repT_ins S hv
    rw [n.mg] at h1
    split at e
    · rename_i hc; subst hc; cases e
      rw [hC] at h1; cases h1
      exact ⟨_, _, _, _, _, rfl, .own C, A.ty h2, A.self, k _ _ rfl (.bl _)⟩
    · rename_i hne
      split at e
      · rename_i hc; cases e
        have A' := hI.ok _ hc C' h1
        exact ⟨_, _, _, _, _, rfl, .own C, A'.ty h2, hI.ne _ hc _ hcs hne _ _ h1 hC, k _ _ rfl (.bl _)⟩
      · cases e
  · simp only [Option.map_eq_some_iff] at e
    obtain ⟨t, e1, rfl⟩ := e
    obtain ⟨h1, h2⟩ := ty_ok n S hv e1
    exact ⟨_, _, _, _, _, rfl, .own C, h2, A.of _ h1, k _ _ rfl (.bl _)⟩
theorem o_isC (n : On X fm) {cs : List Str} (hI : InsF X cs) {cN : Str} {C : Addr} (hcs : cN ∈ cs) (hm : X.mg "isinstance" = none) (hC : X.mg cN = some (.ref C)) (ha : PE X a (tO fm W f)) {p2 : Pos}
    (hg : Gl X "isinstance" := by rfl) (hgT : Gl X cN := by rfl) (hd : (cN == ("__debug__" : Str)) = false := by decide) (he : starEach [a, .Name cN p2] X.env = (false, eval a X.env) :: starEach [.Name cN p2] X.env := by rfl)
    (he2 : starEach [.Name cN p2] X.env = (false, eval (.Name cN p2) X.env) :: starEach [] X.env := by rfl) (hpl : (backTo pos (starEach [.Name cN p2] X.env)).any (·.1) = false := by rfl) :
    PE X (.Call (.Name "isinstance" p) [a, .Name cN p2] [] pos) (tO fm W (mUn (isC cs cN) f)) :=
  PE.imp (pe_callB call_isi hg hm (by decide +kernel) (pa_cons ha (pa_cons (pe_glob (v := .ref C) hgT hC rfl hd) pa_nil he2) he) (he := he) (hpl := hpl)) fun σ H Q q => un_imp (ud_isC n hI hcs hC) q

/-! ### attributes -/
def fldOf (c f : Str) (d : D) : Option Opd := match d with
  | .ins c' fs => if c' = c then (fs.lookup f).map .val else none
  | _ => none
theorem o_fld (n : On X fm) (c fN : Str) (hc : ∀ C, X.mg c = some (.ref C) → Cls X.K C ∧ NoAttr X.K C fN) (ha : PE X a (tO fm W f)) (hb : attributeBase a fN X.env (eval a X.env) = eval a X.env := by rfl) : PE X (.Attribute a fN pos) (tO fm W (mUn (fldOf c fN) f)) :=
  PE.imp (pe_fld ha hb) fun σ H Q q => un_imp (r := fun x H1 Q => ∃ a C dx fs v, x = .ref a ∧ H1 a = some (.ins C dx fs) ∧ Cls X.K C ∧ NoAttr X.K C fN ∧ fs.lookup fN = some v ∧ Q v H1) (ud_scal fun F H ω σ ρ v x o Q S hv e k => by
    unfold fldOf at e
    split at e
    · split at e
      · rename_i hc'; subst hc'
        simp only [Option.map_eq_some_iff] at e
        obtain ⟨d, e1, rfl⟩ := e
        obtain ⟨a, C, dx, vs, rfl, h1, _, h2, h3⟩ := repT_ins S hv
        rw [n.mg] at h1
        obtain ⟨v, h4, h5⟩ := h3.look e1
        exact ⟨a, C, dx, vs, v, rfl, h2, (hc C h1).1, (hc C h1).2, h4, k _ _ rfl h5⟩
      · cases e
    · cases e) q

/-! ### subscripts, slices -/
def sIxD : D → D → Option Opd
  | .lst xs, .int i => (atI xs i).map .val
  | .tup xs, .int i => (atI xs i).map .val
  | .scr ns, .int i => (atI ns i).map fun k => .val (.int k)
  | _, _ => none
theorem atI_rep {K : PySem.W.Frag} {mg : Str → Option Value} {F : Hp} {vs : List V} {ds : List D} {i : Int} {d : D} (r : RepL K mg F vs ds) (e : atI ds i = some d) : ∃ v, atI vs i = some v ∧ Rep K mg F v d := by
  unfold atI at e ⊢
  rw [r.length]
  simp only [Option.bind_eq_some_iff] at e ⊢
  obtain ⟨j, e1, e2⟩ := e
  obtain ⟨v, h1, h2⟩ := r.getD e2
  exact ⟨v, ⟨j, e1, h1⟩, h2⟩
theorem od_ix : OpD fm sIxD (fun x y H Q => rIxL fm.K x y H Q ∨ rIxT fm.K x y H Q ∨ rIxS x y H Q) := od_scal fun F H ω σ ρ v u x y o Q S hv hu e k => by
  unfold sIxD at e
  split at e
  · simp only [Option.map_eq_some_iff] at e
    obtain ⟨d, e1, rfl⟩ := e
    obtain ⟨a, vs, rfl, h1, h2⟩ := repT_lst S hv
    obtain ⟨w, h3, h4⟩ := atI_rep h2 e1
    exact .inl ⟨a, vs, _, w, rfl, repT_int hu, SqL.of h1, h3, k _ _ rfl h4⟩
  · simp only [Option.map_eq_some_iff] at e
    obtain ⟨d, e1, rfl⟩ := e
    obtain ⟨a, vs, rfl, _, h1, h2⟩ := repT_tup S hv
    obtain ⟨w, h3, h4⟩ := atI_rep h2 e1
    exact .inr (.inl ⟨a, vs, _, w, rfl, repT_int hu, SqT.of h1, h3, k _ _ rfl h4⟩)
  · simp only [Option.map_eq_some_iff] at e
    obtain ⟨d, e1, rfl⟩ := e
    rcases hv with hv | ⟨a, vs, xs, rfl, z, _⟩
    · cases hv with
      | scr q =>
        refine .inl ⟨_, _, _, .int d, rfl, repT_int hu, S.sub.sqL q, ?_, k _ _ rfl (.int _)⟩
        unfold atI at e1 ⊢
        simp only [List.length_map, Option.bind_eq_some_iff] at e1 ⊢
        obtain ⟨j, e2, e3⟩ := e1
        exact ⟨j, e2, by rw [List.getElem?_map, e3]; rfl⟩
    · cases z
  · cases e
theorem o_ix (n : On X fm) (ha : PE X a (tO fm W f)) (hb : PE X b (tO fm W g)) (hs : PlainIx b := by exact fun _ _ => rfl) : PE X (.Subscript a b pos) (tO fm W (mBin sIxD f g)) :=
  o_bin (fun ha hb => pe_ix (by rw [n.K]; exact ix_seq) ha hb hs) od_ix ha hb
def cutD {α : Type} (xs : List α) (lo hi : Option Int) : List α := (xs.drop (HT.sIx xs.length 0 lo)).take (HT.sIx xs.length xs.length hi - HT.sIx xs.length 0 lo)
def sSl (lo hi : Option Int) : D → Option Opd
  | .lst xs => some (.tmp (cutD xs lo hi))
  | .tup xs => some (.val (.tup (cutD xs lo hi)))
  | _ => none
theorem repL_cut {K : PySem.W.Frag} {mg : Str → Option Value} {F : Hp} {vs : List V} {ds : List D} {lo hi : Option Int} (r : RepL K mg F vs ds) : RepL K mg F (cutV vs lo hi) (cutD ds lo hi) := by
  unfold cutV cutD
  rw [r.length]
  exact (r.drop _).take _
theorem cut_whole {α : Type} {xs : List α} {lo hi : Option Int} (h : HT.sIx xs.length 0 lo = 0 ∧ HT.sIx xs.length xs.length hi = xs.length) : cutD xs lo hi = xs := by
  unfold cutD
  rw [h.1, h.2]
  simp
def tP (fm : Fm) (W : WX) (m : M (Option Int)) : TO := fun σ H Q => ∃ F ω ρ, Sta fm F H ω σ ρ ∧ Fin fm W σ F H ω (m ρ) fun _ H' _ _ o => Q o H'
def asInt : D → Option Int
  | .int i => some i
  | _ => none
def mNoP : M (Option Int) := fun ρ => .ok none ρ
def mP (f : M Opd) : M (Option Int) := fun ρ => (f ρ).bind fun o ρ => R.of (((o.get ρ).bind asInt).map some) ρ
theorem PO.imp {X : Cx} {e : Option Expr} {t t' : TO} (h : PO X e t) (w : ∀ σ H Q, t' σ H Q → t σ H Q) : PO X e t' := ⟨fun pins s σ H Q I q => h.run pins s σ H Q I (w σ H Q q)⟩
theorem p_none : PO X none (tP fm W mNoP) := PO.imp po_none fun σ H Q ⟨F, ω, ρ, S, h⟩ => h F H ω .refl S
theorem p_some (ha : PE X a (tO fm W f)) : PO X (some a) (tP fm W (mP f)) := PO.imp (po_some ha) fun σ H Q ⟨F, ω, ρ, S, h⟩ => by
  refine ⟨F, ω, ρ, S, h.bind.imp fun F1 H1 ω1 ρ1 o E1 S1 ⟨_, h1, _⟩ v hv => ?_⟩
  obtain ⟨k, eo, h2⟩ := of_some h1
  simp only [Option.map_eq_some_iff, Option.bind_eq_some_iff] at eo
  obtain ⟨i, ⟨d, e1, e2⟩, rfl⟩ := eo
  cases d <;> cases e2
  exact ⟨_, repT_int (hv.get S1 e1), h2 F1 H1 ω1 .refl S1⟩
def mSl (f : M Opd) (l h : M (Option Int)) : M Opd := fun ρ => (f ρ).bind fun o ρ => (l ρ).bind fun lo ρ => (h ρ).bind fun hi ρ => R.of ((o.get ρ).bind (sSl lo hi)) ρ
theorem o_sl (n : On X fm) {l h : M (Option Int)} {lo hi : Option Expr} {p2 : Pos} (ha : PE X a (tO fm W f)) (hl : PO X lo (tP fm W l)) (hh : PO X hi (tP fm W h)) : PE X (.Subscript a (.Slice lo hi none p2) pos) (tO fm W (mSl f l h)) :=
  PE.imp (pe_slice (SlR.or sl_list sl_tupA) ha hl hh) fun σ H Q ⟨F, ω, ρ, S, q⟩ => by
    refine ⟨F, ω, ρ, S, q.bind.imp fun F1 H1 ω1 ρ1 o E1 S1 ⟨_, q1, _⟩ v hv => ?_⟩
    refine ⟨F1, ω1, ρ1, S1, q1.bind.imp fun F2 H2 ω2 ρ2 lo E2 S2 ⟨_, q2, _⟩ => ?_⟩
    refine ⟨F2, ω2, ρ2, S2, q2.bind.imp fun F3 H3 ω3 ρ3 hi E3 S3 ⟨_, q3, _⟩ => ?_⟩
    obtain ⟨k, eo, q4⟩ := of_some q3
    simp only [Option.bind_eq_some_iff] at eo
    obtain ⟨d, e1, e2⟩ := eo
    have E0 : ∀ a, H3 a = none → H a = none := fun a z => E1.there a (E2.there a (E3.there a z))
    have hr := ((hv.ext E2).ext E3).get S3 e1
    unfold sSl at e2
    split at e2
    · cases e2
      obtain ⟨a, vs, rfl, h1, h2⟩ := repT_lst S3 hr
      exact .inl ⟨a, vs, rfl, SqL.of h1, fun p hp => q4 F3 _ ω3 (Ext.new hp) (S3.new hp) _ ⟨p, _, rfl, S3.fnone hp, S3.onone hp, E0 p hp, upd_same, repL_cut h2⟩⟩
    · cases e2
      obtain ⟨a, vs, rfl, hf, h1, h2⟩ := repT_tup S3 hr
      refine .inr ⟨a, vs, rfl, SqT.of h1, fun z => ?_, fun z p hp => ?_⟩
      · rw [h2.length] at z
        exact q4 F3 H3 ω3 .refl S3 _ (by rw [cut_whole z]; exact .tup hf h2)
      · exact q4 _ _ ω3 (Ext.share (S3.fnone hp) (S3.onone hp) hp) (S3.shareN hp) _ (.tup upd_same ((repL_cut h2).mono fun b u q => by rw [upd_ne (ne_of_none q (S3.fnone hp))]; exact q))
    · cases e2
def sRev : D → Option Opd
  | .lst xs => some (.tmp xs.reverse)
  | _ => none
theorem o_rev (n : On X fm) {k : Nat} {p1 p2 p3 : Pos} (ha : PE X a (tO fm W f)) : PE X (.Subscript a (.Slice none none (some (.UnaryOp .USub (.Constant (.int 1) k p1) p2)) p3) pos) (tO fm W (mUn sRev f)) :=
  PE.imp (pe_revL ha) fun σ H Q q => un_imp (r := fun x H1 Q => ∃ a xs, x = .ref a ∧ SqL X.K H1 a xs ∧ ∀ p, H1 p = none → Q (.ref p) (upd H1 p (.lst xs.reverse))) (fun F H ω σ ρ v x o Q S hv e k => by
    unfold sRev at e
    split at e
    · cases e
      obtain ⟨a, vs, rfl, h1, h2⟩ := repT_lst S hv
      exact ⟨a, vs, rfl, SqL.of h1, fun p hp => k F _ _ (Ext.new hp) (S.new hp) ⟨p, _, rfl, S.fnone hp, S.onone hp, hp, upd_same, h2.rev⟩⟩
    · cases e) q
/-- list(range(n)) -/
def sRng : D → Option Opd
  | .int n => if 0 ≤ n ∧ n ≤ 1000000 then some (.tmp ((List.range n.toNat).map fun i : Nat => D.int (i : Int))) else none
  | _ => none
theorem repL_range {K : PySem.W.Frag} {mg : Str → Option Value} {F : Hp} (g : Nat → Int) : ∀ l : List Nat, RepL K mg F (l.map fun i => V.int (g i)) (l.map fun i => D.int (g i))
  | [] => .nil
  | i :: r => .cons (.int _) (repL_range g r)
theorem o_listRange (n : On X fm) (hm : X.mg "list" = none) (hm2 : X.mg "range" = none) {p2 pos2 : Pos} (ha : PE X a (tO fm W f)) (hg : Gl X "list" := by rfl) (hg2 : Gl X "range" := by rfl) (na : starEach [a] X.env = (false, eval a X.env) :: starEach [] X.env := by rfl)
    (na2 : starEach [.Call (.Name "range" p2) [a] [] pos2] X.env = (false, eval (.Call (.Name "range" p2) [a] [] pos2) X.env) :: starEach [] X.env := by rfl) :
    PE X (.Call (.Name "list" p) [.Call (.Name "range" p2) [a] [] pos2] [] pos) (tO fm W (mUn sRng f)) :=
  PE.imp (pe_listRg n.calm hg hm (prg_1 hg2 hm2 ha na) na2) fun σ H Q q => un_imp (r := fun x H1 Q => ∃ n, x = .int n ∧ RgOk 0 n ∧ ∀ q, H1 q = none → Q (.ref q) (upd H1 q (.lst (rgV 0 n)))) (fun F H ω σ ρ v x o Q S hv e k => by
    unfold sRng at e
    split at e
    · rename_i m
      split at e
      · cases e
        refine ⟨m, repT_int hv, ⟨by decide, by decide, by omega, by omega, by omega⟩, fun p hp => ?_⟩
        refine k F _ _ (Ext.new hp) (S.new hp) ⟨p, _, rfl, S.fnone hp, S.onone hp, hp, upd_same, ?_⟩
        unfold rgV
        have e0 : (fun i : Nat => V.int (0 + (i : Int))) = fun i : Nat => V.int (i : Int) := by funext i; rw [Int.zero_add]
        rw [Int.sub_zero]
        show RepL _ _ _ ((List.range m.toNat).map fun i : Nat => V.int (0 + (i : Int))) _
        rw [e0]
        exact repL_range (fun i => (i : Int)) _
      · cases e
    · cases e) q
end
end DL
namespace DL
open PySem PySem.Spec PyProof.Rows L2

/-! ### lists that are this frame's own -/
def Slot.items : Slot → Option (List D)
  | .own xs => some xs
  | .ref xs => some xs
  | _ => none
def Slot.put (xs : List D) : Slot → Slot
  | .own _ => .own xs
  | .ref _ => .ref xs
  | s => s
def itemsAt (ρ : Rho) (i : Nat) : Option (List D) := (ρ[i]?).bind Slot.items
def putAt (ρ : Rho) (i : Nat) (xs : List D) : Rho := match ρ[i]? with
  | some s => ρ.set i (s.put xs)
  | none => ρ
section
variable {fm : Fm} {F H : Hp} {ω : Om} {σ : L2.St} {ρ : Rho} {i : Nat} {xs ys : List D}
theorem Sta.lstAt (S : Sta fm F H ω σ ρ) (h : itemsAt ρ i = some xs) : ∃ a vs, σ[i]? = some (some (.ref a)) ∧ ω a = some i ∧ H a = some (.lst vs) ∧ RepL fm.K fm.mg F vs xs := by
  unfold itemsAt at h
  simp only [Option.bind_eq_some_iff] at h
  obtain ⟨s, h1, h2⟩ := h
  cases s with
  | own zs => cases h2; obtain ⟨a, vs, e1, e2, _, e3, e4⟩ := S.slot i _ h1; exact ⟨a, vs, e1, e2, e3, e4⟩
  | ref zs => cases h2; obtain ⟨a, vs, e1, e2, e3, e4⟩ := S.slot i _ h1; exact ⟨a, vs, e1, e2, e3, e4⟩
  | _ => cases h2
theorem Sta.putAt {a : Addr} {vs : List V} (S : Sta fm F H ω σ ρ) (h : itemsAt ρ i = some xs) (hs : σ[i]? = some (some (.ref a))) (r : RepL fm.K fm.mg F vs ys) :
    Sta fm F (upd H a (.lst vs)) ω σ (putAt ρ i ys) ∧ Ext fm F H ω F (upd H a (.lst vs)) ω := by
  obtain ⟨a', ws, e1, w, ha, _⟩ := S.lstAt h
  rw [hs] at e1; cases e1
  unfold itemsAt at h
  simp only [Option.bind_eq_some_iff] at h
  obtain ⟨s, h1, h2⟩ := h
  have fn := S.sep a i w
  have hne : ∀ b j, ω b = some j → j ≠ i → b ≠ a := fun b j wb hj z => by subst z; rw [w] at wb; cases wb; exact hj rfl
  unfold DL.putAt
  rw [h1]
  refine ⟨⟨fun b u q => ?_, S.sep, fun b hb => ?_, by rw [List.length_set]; exact S.len, fun b j wb => ?_, fun j t hj => ?_⟩, ⟨Sub.refl, fun b u q wb => ?_, fun b u q => .inl q, fun b q => .inl q, fun b j q _ => q, fun b q => ?_⟩⟩
  · rw [upd_ne (ne_of_none q fn)]; exact S.sub b u q
  · by_cases z : b = a
    · subst z; rw [upd_same] at hb; cases hb
    · rw [upd_ne z] at hb; exact S.dom b hb
  · obtain ⟨q1, t, q2, q3⟩ := S.own b j wb
    refine ⟨q1, ?_⟩
    by_cases z : j = i
    · subst z
      rw [h1] at q2; cases q2
      refine ⟨s.put ys, List.getElem?_set_self (List.getElem?_eq_some_iff.mp h1).1, ?_⟩
      cases s <;> first | rfl | cases q3
    · exact ⟨t, by rw [List.getElem?_set_ne (Ne.symm z)]; exact q2, q3⟩
  · rcases get_set hj with ⟨rfl, rfl⟩ | ⟨ne, hj⟩
    · cases s with
      | own zs => obtain ⟨b, us, q1, q2, q3, q4, q5⟩ := S.slot _ _ h1; rw [hs] at q1; cases q1; exact ⟨a, vs, hs, w, q3, upd_same, r⟩
      | ref zs => obtain ⟨b, us, q1, q2, q4, q5⟩ := S.slot _ _ h1; rw [hs] at q1; cases q1; exact ⟨a, vs, hs, w, upd_same, r⟩
      | _ => cases h2
    · refine (S.slot j t hj).mono Sub.refl (fun b wb => upd_ne (hne b j wb ne)) fun b u q wb => ?_
      rw [upd_ne fun z => by subst z; rw [w] at wb; cases wb]; exact q
  · rw [upd_ne fun z => by subst z; rw [w] at wb; cases wb]; exact q
  · by_cases z : b = a
    · subst z; rw [upd_same] at q; cases q
    · rw [upd_ne z] at q; exact q
end
def mAppend (i : Nat) (f : M D) : M Opd := fun ρ => match itemsAt ρ i with
  | none => .no
  | some _ => (f ρ).bind fun d ρ => match itemsAt ρ i with
    | none => .no
    | some xs => if xs.length < 1000000 then .ok (.val .non) (putAt ρ i (xs ++ [d])) else .no
def mExtend (i : Nat) (f : M Opd) : M Opd := fun ρ => match itemsAt ρ i with
  | none => .no
  | some _ => (f ρ).bind fun o ρ => match itemsAt ρ i, o.get ρ with
    | some xs, some (.lst ys) => if xs.length + ys.length ≤ 1000000 then .ok (.val .non) (putAt ρ i (xs ++ ys)) else .no
    | _, _ => .no
def mPop (i : Nat) : M Opd := fun ρ => match itemsAt ρ i with
  | none => .no
  | some xs => match xs[xs.length - 1]? with
    | some d => .ok (.val d) (putAt ρ i xs.dropLast)
    | none => .no
def mPopAt (i : Nat) (f : M Opd) : M Opd := fun ρ => match itemsAt ρ i with
  | none => .no
  | some _ => (f ρ).bind fun o ρ => match itemsAt ρ i, o.get ρ with
    | some xs, some (.int k) => if 0 ≤ k ∧ k < 1000000 then match xs[k.toNat]? with
        | some d => .ok (.val d) (putAt ρ i (xs.eraseIdx k.toNat))
        | none => .no
      else .no
    | _, _ => .no
/-- the ints of a list of ints -/
def intsOf : List D → Option (List Int)
  | [] => some []
  | .int i :: r => (intsOf r).map (i :: ·)
  | _ :: _ => none
def mRemove (i : Nat) (f : M Opd) : M Opd := fun ρ => match itemsAt ρ i with
  | none => .no
  | some _ => (f ρ).bind fun o ρ => match (itemsAt ρ i).bind intsOf, o.get ρ with
    | some ns, some (.int k) => if k ∈ ns then .ok (.val .non) (putAt ρ i ((ns.erase k).map D.int)) else .no
    | _, _ => .no
section
variable {X : Cx} {fm : Fm} {W : WX} {e a b c : Expr} {es : List Expr} {f g h : M Opd} {fv : M D} {pos p apos cpos : Pos} {i : Nat} {x : Str}
theorem line_lt {n : Nat} (h : n < 1000000) : n < sizeLine := Nat.lt_of_lt_of_le h (by decide)
theorem o_append (n : On X fm) (i : Nat) (hr : PE X a (tVar i)) (he : PE X e (tV fm W fv)) (hbase : attributeBase a "append" X.env (eval a X.env) = eval a X.env := by rfl)
    (hfew : ((backTo cpos (starEach [e] X.env)).all (fun x => !x.1) && (backToKw cpos (keywordEach [] X.env)).all (fun x => x.1.isSome)
      && decide ([e].length + ([] : List Keyword).length + (if ([] : List Keyword).isEmpty then 0 else 1) < 30)) = true := by rfl)
    (hline : (apos.endLine == cpos.line) = true := by rfl) (hs : starEach [e] X.env = (false, eval e X.env) :: starEach [] X.env := by rfl) (hplain : (backTo cpos (starEach [] X.env)).any (·.1) = false := by rfl) :
    PE X (.Call (.Attribute a "append" apos) [e] [] cpos) (tO fm W (mAppend i fv)) :=
  PE.imp (pe_bm PySem.F.plainAttrs_list PySem.F.slot_list_append PySem.F.type_list_append mt_append hr (pa_cons he pa_nil hs) hbase hfew hline hs hplain) fun σ H Q ⟨F, ω, ρ, S, q⟩ => by
    unfold mAppend at q
    split at q
    · exact q.elim
    · rename_i xs0 h0
      obtain ⟨a, vs, e1, w, ha, _⟩ := S.lstAt h0
      refine ⟨_, e1, .inl ⟨rfl, vs, SqL.of ha⟩, F, ω, ρ, S, q.bind.imp fun F1 H1 ω1 ρ1 d E1 S1 ⟨_, q1, _⟩ v hv => ?_⟩
      split at q1
      · exact q1.elim
      · rename_i xs h1
        split at q1
        · rename_i hz
          obtain ⟨a', ws, e2, w', ha', r⟩ := S1.lstAt h1
          rw [e1] at e2; cases e2
          obtain ⟨S2, E2⟩ := S1.putAt h1 e1 (r.app (.cons hv .nil))
          exact ⟨a, ws, v, rfl, rfl, ha', line_lt (by rw [r.length]; exact hz), q1 F1 _ ω1 E2 S2 .non .non⟩
        · exact q1.elim
theorem o_extend (n : On X fm) (i : Nat) (hr : PE X a (tVar i)) (he : PE X e (tO fm W f)) (hbase : attributeBase a "extend" X.env (eval a X.env) = eval a X.env := by rfl)
    (hfew : ((backTo cpos (starEach [e] X.env)).all (fun x => !x.1) && (backToKw cpos (keywordEach [] X.env)).all (fun x => x.1.isSome)
      && decide ([e].length + ([] : List Keyword).length + (if ([] : List Keyword).isEmpty then 0 else 1) < 30)) = true := by rfl)
    (hline : (apos.endLine == cpos.line) = true := by rfl) (hs : starEach [e] X.env = (false, eval e X.env) :: starEach [] X.env := by rfl) (hplain : (backTo cpos (starEach [] X.env)).any (·.1) = false := by rfl) :
    PE X (.Call (.Attribute a "extend" apos) [e] [] cpos) (tO fm W (mExtend i f)) :=
  PE.imp (pe_bm PySem.F.plainAttrs_list PySem.F.slot_list_extend PySem.F.type_list_extend mt_extend hr (pa_cons he pa_nil hs) hbase hfew hline hs hplain) fun σ H Q ⟨F, ω, ρ, S, q⟩ => by
    unfold mExtend at q
    split at q
    · exact q.elim
    · rename_i xs0 h0
      obtain ⟨a, vs, e1, w, ha, _⟩ := S.lstAt h0
      refine ⟨_, e1, .inl ⟨rfl, vs, SqL.of ha⟩, F, ω, ρ, S, q.bind.imp fun F1 H1 ω1 ρ1 o E1 S1 ⟨_, q1, _⟩ v hv => ?_⟩
      split at q1
      · rename_i xs ys h1 h2
        split at q1
        · rename_i hz
          obtain ⟨a', ws, e2, w', ha', r⟩ := S1.lstAt h1
          rw [e1] at e2; cases e2
          obtain ⟨b, us, rfl, hb, r2⟩ := repT_lst S1 (hv.get S1 h2)
          obtain ⟨S2, E2⟩ := S1.putAt h1 e1 (r.app r2)
          exact ⟨a, b, ws, us, rfl, rfl, ha', hb, line_of (by rw [r.length, r2.length]; exact hz), q1 F1 _ ω1 E2 S2 .non .non⟩
        · exact q1.elim
      · exact q1.elim
theorem o_pop (n : On X fm) (i : Nat) (hr : PE X a (tVar i)) (hbase : attributeBase a "pop" X.env (eval a X.env) = eval a X.env := by rfl) (hline : (apos.endLine == cpos.line) = true := by rfl) :
    PE X (.Call (.Attribute a "pop" apos) [] [] cpos) (tO fm W (mPop i)) :=
  PE.imp (pe_bm0 PySem.F.plainAttrs_list PySem.F.slot_list_pop PySem.F.type_list_pop mt_pop hr hbase hline) fun σ H Q ⟨F, ω, ρ, S, q⟩ => by
    unfold mPop at q
    split at q
    · exact q.elim
    · rename_i xs h0
      obtain ⟨a, vs, e1, w, ha, r⟩ := S.lstAt h0
      split at q
      · rename_i d hd
        obtain ⟨v, hv, rv⟩ := r.getD hd
        have r2 : RepL fm.K fm.mg F vs.dropLast xs.dropLast := by
          rw [List.dropLast_eq_take, List.dropLast_eq_take, r.length]; exact r.take _
        obtain ⟨S2, E2⟩ := S.putAt h0 e1 r2
        exact ⟨_, e1, .inl ⟨rfl, vs, SqL.of ha⟩, a, vs, v, rfl, rfl, ha, by rw [r.length]; exact hv, q F _ ω E2 S2 v rv⟩
      · exact q.elim
theorem o_popAt (n : On X fm) (i : Nat) (hr : PE X a (tVar i)) (he : PE X e (tO fm W f)) (hbase : attributeBase a "pop" X.env (eval a X.env) = eval a X.env := by rfl)
    (hfew : ((backTo cpos (starEach [e] X.env)).all (fun x => !x.1) && (backToKw cpos (keywordEach [] X.env)).all (fun x => x.1.isSome)
      && decide ([e].length + ([] : List Keyword).length + (if ([] : List Keyword).isEmpty then 0 else 1) < 30)) = true := by rfl)
    (hline : (apos.endLine == cpos.line) = true := by rfl) (hs : starEach [e] X.env = (false, eval e X.env) :: starEach [] X.env := by rfl) (hplain : (backTo cpos (starEach [] X.env)).any (·.1) = false := by rfl) :
    PE X (.Call (.Attribute a "pop" apos) [e] [] cpos) (tO fm W (mPopAt i f)) :=
  PE.imp (pe_bm PySem.F.plainAttrs_list PySem.F.slot_list_pop PySem.F.type_list_pop mt_popAt hr (pa_cons he pa_nil hs) hbase hfew hline hs hplain) fun σ H Q ⟨F, ω, ρ, S, q⟩ => by
    unfold mPopAt at q
    split at q
    · exact q.elim
    · rename_i xs0 h0
      obtain ⟨a, vs, e1, w, ha, _⟩ := S.lstAt h0
      refine ⟨_, e1, .inl ⟨rfl, vs, SqL.of ha⟩, F, ω, ρ, S, q.bind.imp fun F1 H1 ω1 ρ1 o E1 S1 ⟨_, q1, _⟩ v hv => ?_⟩
      split at q1
      · rename_i xs k h1 h2
        split at q1
        · rename_i hk
          split at q1
          · rename_i d hd
            obtain ⟨a', ws, e2, w', ha', r⟩ := S1.lstAt h1
            rw [e1] at e2; cases e2
            obtain ⟨u, hu, ru⟩ := r.getD hd
            obtain ⟨S2, E2⟩ := S1.putAt h1 e1 (r.erase k.toNat)
            have hl : k.toNat < ws.length := (List.getElem?_eq_some_iff.mp hu).1
            have hi : seqIndex? k ws.length = some k.toNat := by
              unfold seqIndex?
              rw [if_neg (by omega : ¬ k < 0), if_pos]
              have z : k < (ws.length : Int) := by omega
              simp only [Bool.and_eq_true, decide_eq_true_eq]
              exact ⟨hk.1, z⟩
            exact ⟨a, ws, k, k.toNat, u, rfl, by rw [repT_int (hv.get S1 h2)], ha', by omega, by omega, hi, hu, q1 F1 _ ω1 E2 S2 u ru⟩
          · exact q1.elim
        · exact q1.elim
      · exact q1.elim
theorem intsOf_eq : ∀ {ds : List D} {ns : List Int}, intsOf ds = some ns → ds = ns.map D.int
  | [], _, e => by cases e; rfl
  | .int i :: r, _, e => by
    simp only [intsOf, Option.map_eq_some_iff] at e
    obtain ⟨ns, e1, rfl⟩ := e
    rw [intsOf_eq e1]; rfl
  | .non :: _, _, e => by simp only [intsOf] at e; cases e
  | .bl _ :: _, _, e => by simp only [intsOf] at e; cases e
  | .str _ :: _, _, e => by simp only [intsOf] at e; cases e
  | .lst _ :: _, _, e => by simp only [intsOf] at e; cases e
  | .tup _ :: _, _, e => by simp only [intsOf] at e; cases e
  | .dic _ :: _, _, e => by simp only [intsOf] at e; cases e
  | .ins _ _ :: _, _, e => by simp only [intsOf] at e; cases e
  | .scr _ :: _, _, e => by simp only [intsOf] at e; cases e
theorem erase_at {k : Int} : ∀ {ns : List Int}, k ∈ ns → ∃ j : Nat, ns[j]? = some k ∧ (∀ m : Nat, m < j → ns[m]? ≠ some k) ∧ ns.eraseIdx j = ns.erase k
  | [], h => by cases h
  | n :: r, h => by
    by_cases e : n = k
    · subst e
      exact ⟨0, rfl, fun m hm => absurd hm (Nat.not_lt_zero _), by simp⟩
    · have h' : k ∈ r := by
        rcases List.mem_cons.mp h with z | z
        · exact absurd z.symm e
        · exact z
      obtain ⟨j, h1, h2, h3⟩ := erase_at h'
      refine ⟨j + 1, by simpa using h1, fun m hm => ?_, ?_⟩
      · cases m with
        | zero => simp only [List.getElem?_cons_zero]; exact fun z => e (Option.some.inj z)
        | succ m => simp only [List.getElem?_cons_succ]; exact h2 m (by omega)
      · rw [List.eraseIdx_cons_succ, h3, List.erase_cons_tail (by simpa using e)]
theorem o_remove (n : On X fm) (i : Nat) (hr : PE X a (tVar i)) (he : PE X e (tO fm W f)) (hbase : attributeBase a "remove" X.env (eval a X.env) = eval a X.env := by rfl)
    (hfew : ((backTo cpos (starEach [e] X.env)).all (fun x => !x.1) && (backToKw cpos (keywordEach [] X.env)).all (fun x => x.1.isSome)
      && decide ([e].length + ([] : List Keyword).length + (if ([] : List Keyword).isEmpty then 0 else 1) < 30)) = true := by rfl)
    (hline : (apos.endLine == cpos.line) = true := by rfl) (hs : starEach [e] X.env = (false, eval e X.env) :: starEach [] X.env := by rfl) (hplain : (backTo cpos (starEach [] X.env)).any (·.1) = false := by rfl) :
    PE X (.Call (.Attribute a "remove" apos) [e] [] cpos) (tO fm W (mRemove i f)) :=
  PE.imp (pe_bm PySem.F.plainAttrs_list PySem.F.slot_list_remove PySem.F.type_list_remove mt_remove hr (pa_cons he pa_nil hs) hbase hfew hline hs hplain) fun σ H Q ⟨F, ω, ρ, S, q⟩ => by
    unfold mRemove at q
    split at q
    · exact q.elim
    · rename_i xs0 h0
      obtain ⟨a, vs, e1, w, ha, _⟩ := S.lstAt h0
      refine ⟨_, e1, .inl ⟨rfl, vs, SqL.of ha⟩, F, ω, ρ, S, q.bind.imp fun F1 H1 ω1 ρ1 o E1 S1 ⟨_, q1, _⟩ v hv => ?_⟩
      split at q1
      · rename_i ns k h1 h2
        split at q1
        · rename_i hk
          simp only [Option.bind_eq_some_iff] at h1
          obtain ⟨xs, h1, h3⟩ := h1
          have ex := intsOf_eq h3
          subst ex
          obtain ⟨a', ws, e2, w', ha', r⟩ := S1.lstAt h1
          rw [e1] at e2; cases e2
          obtain ⟨j, j1, j2, j3⟩ := erase_at hk
          obtain ⟨S2, E2⟩ := S1.putAt h1 e1 (RepL.ints (ns.erase k))
          refine ⟨a, ns, k, j, rfl, by rw [repT_int (hv.get S1 h2)], by rw [ha', r.ints_inv], j1, j2, ?_⟩
          rw [j3]
          exact q1 F1 _ ω1 E2 S2 .non .non
        · exact q1.elim
      · exact q1.elim
end
end DL
namespace DL
open PySem PySem.Spec PyProof.Rows L2

/-! ### what is walked -/
inductive Src where
  | seqL (o : Opd) | seqT (o : Opd) | rng (lo : Int) (n : Nat) | zipL (a b : Opd) | zipT (a b : Opd) | enumL (o : Opd)
def asL : D → Option (List D)
  | .lst xs => some xs
  | _ => none
def asT : D → Option (List D)
  | .tup xs => some xs
  | _ => none
def zipD : List D → List D → List D
  | a :: r, b :: q => .tup [a, b] :: zipD r q
  | _, _ => []
def enumD : Nat → List D → List D
  | i, a :: r => .tup [.int (i : Int), a] :: enumD (i + 1) r
  | _, [] => []
def rngD (lo : Int) : Nat → List D
  | 0 => []
  | n + 1 => .int lo :: rngD (lo + 1) n
def Src.items (ρ : Rho) : Src → Option (List D)
  | .seqL o => (o.get ρ).bind asL
  | .seqT o => (o.get ρ).bind asT
  | .rng lo n => some (rngD lo n)
  | .zipL a b => ((a.get ρ).bind asL).bind fun xs => ((b.get ρ).bind asL).bind fun ys => some (zipD xs ys)
  | .zipT a b => ((a.get ρ).bind asT).bind fun xs => ((b.get ρ).bind asT).bind fun ys => some (zipD xs ys)
  | .enumL o => ((o.get ρ).bind asL).bind fun xs => some (enumD 0 xs)
def Opd.fixed : Opd → Bool
  | .nm _ => false
  | _ => true
def Src.fixed : Src → Bool
  | .seqL o => o.fixed
  | .seqT o => o.fixed
  | .rng _ _ => true
  | .zipL a b => a.fixed && b.fixed
  | .zipT a b => a.fixed && b.fixed
  | .enumL o => o.fixed
theorem zipD_get : ∀ {xs ys : List D} {i : Nat} {d : D}, (zipD xs ys)[i]? = some d → ∃ x y, xs[i]? = some x ∧ ys[i]? = some y ∧ d = .tup [x, y]
  | [], _, _, _, h => by simp [zipD] at h
  | _ :: _, [], _, _, h => by simp [zipD] at h
  | a :: r, b :: q, 0, d, h => by simp [zipD] at h; exact ⟨a, b, rfl, rfl, h.symm⟩
  | a :: r, b :: q, i + 1, d, h => by
    simp only [zipD, List.getElem?_cons_succ] at h
    obtain ⟨x, y, h1, h2, h3⟩ := zipD_get h
    exact ⟨x, y, by simpa using h1, by simpa using h2, h3⟩
theorem zipD_len : ∀ {xs ys : List D}, (zipD xs ys).length = min xs.length ys.length
  | [], _ => by simp [zipD]
  | _ :: _, [] => by simp [zipD]
  | _ :: r, _ :: q => by simp only [zipD, List.length_cons, zipD_len (xs := r) (ys := q)]; omega
theorem enumD_get : ∀ {xs : List D} {k i : Nat} {d : D}, (enumD k xs)[i]? = some d → ∃ x, xs[i]? = some x ∧ d = .tup [.int ((k + i : Nat) : Int), x]
  | [], _, _, _, h => by simp [enumD] at h
  | a :: r, k, 0, d, h => by simp [enumD] at h; exact ⟨a, rfl, by rw [Nat.add_zero]; exact h.symm⟩
  | a :: r, k, i + 1, d, h => by
    simp only [enumD, List.getElem?_cons_succ] at h
    obtain ⟨x, h1, h2⟩ := enumD_get h
    exact ⟨x, by simpa using h1, by rw [h2]; congr 3; omega⟩
theorem enumD_len : ∀ {xs : List D} {k : Nat}, (enumD k xs).length = xs.length
  | [], _ => rfl
  | _ :: r, k => by simp only [enumD, List.length_cons, enumD_len (xs := r)]
theorem rngD_get : ∀ {n : Nat} {lo : Int} {i : Nat} {d : D}, (rngD lo n)[i]? = some d → i < n ∧ d = .int (lo + i)
  | 0, _, _, _, h => by simp [rngD] at h
  | n + 1, lo, 0, d, h => by simp [rngD] at h; exact ⟨by omega, by rw [← h]; simp⟩
  | n + 1, lo, i + 1, d, h => by
    simp only [rngD, List.getElem?_cons_succ] at h
    obtain ⟨h1, h2⟩ := rngD_get h
    exact ⟨by omega, by rw [h2]; congr 1; omega⟩
theorem rngD_len : ∀ {n : Nat} {lo : Int}, (rngD lo n).length = n
  | 0, _ => rfl
  | n + 1, lo => by simp only [rngD, List.length_cons, rngD_len]

/-- the iterator J goes through src from the state F, H, ω on, wherever the slots fulfil P -/
def Walks (fm : Fm) (P : L2.St → Prop) (src : Src) (J : It) (Fs Hs : Hp) (ωs : Om) : Prop :=
  ∀ (F H : Hp) (ω : Om) (σ : L2.St) (ρ : Rho) (ds : List D), Ext fm Fs Hs ωs F H ω → P σ → Sta fm F H ω σ ρ → src.items ρ = some ds →
    J.stop ds.length H ∧ ∀ i d, ds[i]? = some d → J.go i H ∧ ∀ x H', J.yld i H x H' → ∃ F', Ext fm F H ω F' H' ω ∧ Sta fm F' H' ω σ ρ ∧ Rep fm.K fm.mg F' x d
/-- the slots are those of σ or forgotten -/
def Under (σ σ' : L2.St) : Prop := ∀ (i : Nat) (v : V), σ'[i]? = some (some v) → σ[i]? = some (some v)
/-- or nothing of the source lies in a slot -/
def Und (σ : L2.St) (src : Src) (σ' : L2.St) : Prop := Under σ σ' ∨ src.fixed = true
section
variable {X : Cx} {fm : Fm} {W : WX} {e a b c tg : Expr} {es : List Expr} {f g h : M Opd} {pos p : Pos} {F H : Hp} {ω : Om} {σ : L2.St} {ρ : Rho}
/-- an operand later on -/
theorem opd_later {Hs F1 H1 : Hp} {ω1 : Om} {σ1 : L2.St} {ρ1 : Rho} {v : V} {o : Opd} {d : D} (h : OpdOk fm Hs F H ω σ v o) (E : Ext fm F H ω F1 H1 ω1) (u : Under σ σ1 ∨ o.fixed = true) (S : Sta fm F1 H1 ω1 σ1 ρ1) (e : o.get ρ1 = some d) : RepT fm F1 H1 v d := by
  cases o with
  | val d' => exact OpdOk.get (Hs := Hs) (σ := σ1) S (show OpdOk fm Hs F1 H1 ω1 σ1 v (.val d') from (h.ext E : OpdOk fm Hs F1 H1 ω1 σ v (.val d'))) e
  | tmp xs => exact OpdOk.get (Hs := Hs) (σ := σ1) S (show OpdOk fm Hs F1 H1 ω1 σ1 v (.tmp xs) from (h.ext E : OpdOk fm Hs F1 H1 ω1 σ v (.tmp xs))) e
  | nm i =>
    have h : σ[i]? = some (some v) := h
    have key : ∃ v', σ1[i]? = some (some v') := by
      unfold Opd.get at e
      simp only at e
      split at e
      · rename_i q; obtain ⟨v', e1, _⟩ := S.slot i _ q; exact ⟨v', e1⟩
      · rename_i q; obtain ⟨a, vs, e1, _⟩ := S.slot i _ q; exact ⟨_, e1⟩
      · rename_i q; obtain ⟨a, vs, e1, _⟩ := S.slot i _ q; exact ⟨_, e1⟩
      · cases e
    obtain ⟨v', e1⟩ := key
    have e2 := (u.resolve_right fun z => by cases z) i v' e1
    rw [h] at e2; cases e2
    exact OpdOk.get (Hs := Hs) S (show OpdOk fm Hs F1 H1 ω1 σ1 v (.nm i) from e1) e
theorem asL_eq {d : D} {xs : List D} (h : asL d = some xs) : d = .lst xs := by cases d <;> cases h; rfl
theorem asT_eq {d : D} {xs : List D} (h : asT d = some xs) : d = .tup xs := by cases d <;> cases h; rfl
theorem walks_seqL {Hs : Hp} {a : Addr} {o : Opd} (h : OpdOk fm Hs F H ω σ (.ref a) o) : Walks fm (Und σ (.seqL o)) (.seqL o) (Itl fm.K a) F H ω := fun F1 H1 ω1 σ1 ρ1 ds E u S q => by
  simp only [Src.items, Option.bind_eq_some_iff] at q
  obtain ⟨d, q1, q2⟩ := q
  rw [asL_eq q2] at q1
  obtain ⟨a', vs, ea, h1, h2⟩ := repT_lst S (opd_later h E u S q1)
  cases ea
  refine ⟨⟨vs, SqL.of h1, Nat.le_of_eq h2.length⟩, fun i d hd => ?_⟩
  obtain ⟨v, hv, rv⟩ := h2.getD hd
  refine ⟨⟨vs, v, SqL.of h1, hv⟩, fun x H' ⟨e1, y⟩ => ?_⟩
  subst e1
  have e2 := y vs (SqL.of h1)
  rw [hv] at e2; cases e2
  exact ⟨F1, .refl, S, rv⟩
theorem walks_seqT {Hs : Hp} {a : Addr} {o : Opd} (h : OpdOk fm Hs F H ω σ (.ref a) o) : Walks fm (Und σ (.seqT o)) (.seqT o) (Itt fm.K a) F H ω := fun F1 H1 ω1 σ1 ρ1 ds E u S q => by
  simp only [Src.items, Option.bind_eq_some_iff] at q
  obtain ⟨d, q1, q2⟩ := q
  rw [asT_eq q2] at q1
  obtain ⟨a', vs, ea, _, h1, h2⟩ := repT_tup S (opd_later h E u S q1)
  cases ea
  refine ⟨⟨vs, SqT.of h1, Nat.le_of_eq h2.length⟩, fun i d hd => ?_⟩
  obtain ⟨v, hv, rv⟩ := h2.getD hd
  refine ⟨⟨vs, v, SqT.of h1, hv⟩, fun x H' ⟨e1, y⟩ => ?_⟩
  subst e1
  have e2 := y vs (SqT.of h1)
  rw [hv] at e2; cases e2
  exact ⟨F1, .refl, S, rv⟩
theorem walks_rng {lo : Int} {n : Nat} : Walks fm (Und σ (.rng lo n)) (.rng lo n) (Itr lo n) F H ω := fun F1 H1 ω1 σ1 ρ1 ds E u S q => by
  cases q
  refine ⟨Nat.le_of_eq rngD_len.symm, fun i d hd => ?_⟩
  obtain ⟨h1, rfl⟩ := rngD_get hd
  refine ⟨h1, fun x H' ⟨e1, e2⟩ => ?_⟩
  subst e1 e2
  exact ⟨F1, .refl, S, .int _⟩
theorem pair_new {F1 H1 : Hp} {ω1 : Om} {σ1 : L2.St} {ρ1 : Rho} {T : Addr} {x y : V} {dx dy : D} (S : Sta fm F1 H1 ω1 σ1 ρ1) (hT : H1 T = none) (rx : Rep fm.K fm.mg F1 x dx) (ry : Rep fm.K fm.mg F1 y dy) :
    ∃ F', Ext fm F1 H1 ω1 F' (upd H1 T (.tup [x, y])) ω1 ∧ Sta fm F' (upd H1 T (.tup [x, y])) ω1 σ1 ρ1 ∧ Rep fm.K fm.mg F' (.ref T) (.tup [dx, dy]) := by
  have hs : Sub F1 (upd F1 T (.tup [x, y])) := fun b u q => by rw [upd_ne (ne_of_none q (S.fnone hT))]; exact q
  exact ⟨_, Ext.share (S.fnone hT) (S.onone hT) hT, S.shareN hT, .tup upd_same (.cons (rx.mono hs) (.cons (ry.mono hs) .nil))⟩
theorem walks_zipL {Hs : Hp} {a b : Addr} {o o' : Opd} (h : OpdOk fm Hs F H ω σ (.ref a) o) (h' : OpdOk fm Hs F H ω σ (.ref b) o') : Walks fm (Und σ (.zipL o o')) (.zipL o o') (Itz fm.K a b) F H ω := fun F1 H1 ω1 σ1 ρ1 ds E u S q => by
  simp only [Src.items, Option.bind_eq_some_iff] at q
  obtain ⟨xs, ⟨d, q1, q2⟩, ys, ⟨d', q3, q4⟩, q5⟩ := q
  cases q5
  rw [asL_eq q2] at q1
  rw [asL_eq q4] at q3
  obtain ⟨_, vs, ea, h1, h2⟩ := repT_lst S (opd_later h E (u.imp_right fun z => by simp only [Src.fixed, Bool.and_eq_true] at z; exact z.1) S q1)
  cases ea
  obtain ⟨_, ws, eb, h3, h4⟩ := repT_lst S (opd_later h' E (u.imp_right fun z => by simp only [Src.fixed, Bool.and_eq_true] at z; exact z.2) S q3)
  cases eb
  refine ⟨⟨vs, ws, SqL.of h1, SqL.of h3, ?_⟩, fun i d hd => ?_⟩
  · rw [zipD_len, h2.length, h4.length]; omega
  · obtain ⟨x, y, e1, e2, rfl⟩ := zipD_get hd
    obtain ⟨v, hv, rv⟩ := h2.getD e1
    obtain ⟨w, hw, rw'⟩ := h4.getD e2
    refine ⟨⟨vs, ws, v, w, SqL.of h1, SqL.of h3, hv, hw⟩, fun z H' ⟨T, x', y', ez, hT, eH, f1, f2⟩ => ?_⟩
    subst ez eH
    have g1 := f1 vs (SqL.of h1)
    have g2 := f2 ws (SqL.of h3)
    rw [hv] at g1; cases g1
    rw [hw] at g2; cases g2
    exact pair_new S hT rv rw'
theorem walks_zipT {Hs : Hp} {a b : Addr} {o o' : Opd} (h : OpdOk fm Hs F H ω σ (.ref a) o) (h' : OpdOk fm Hs F H ω σ (.ref b) o') : Walks fm (Und σ (.zipT o o')) (.zipT o o') (RZ.ItzT fm.K a b) F H ω := fun F1 H1 ω1 σ1 ρ1 ds E u S q => by
  simp only [Src.items, Option.bind_eq_some_iff] at q
  obtain ⟨xs, ⟨d, q1, q2⟩, ys, ⟨d', q3, q4⟩, q5⟩ := q
  cases q5
  rw [asT_eq q2] at q1
  rw [asT_eq q4] at q3
  obtain ⟨_, vs, ea, _, h1, h2⟩ := repT_tup S (opd_later h E (u.imp_right fun z => by simp only [Src.fixed, Bool.and_eq_true] at z; exact z.1) S q1)
  cases ea
  obtain ⟨_, ws, eb, _, h3, h4⟩ := repT_tup S (opd_later h' E (u.imp_right fun z => by simp only [Src.fixed, Bool.and_eq_true] at z; exact z.2) S q3)
  cases eb
  refine ⟨⟨vs, ws, SqT.of h1, SqT.of h3, ?_⟩, fun i d hd => ?_⟩
  · rw [zipD_len, h2.length, h4.length]; omega
  · obtain ⟨x, y, e1, e2, rfl⟩ := zipD_get hd
    obtain ⟨v, hv, rv⟩ := h2.getD e1
    obtain ⟨w, hw, rw'⟩ := h4.getD e2
    refine ⟨⟨vs, ws, v, w, SqT.of h1, SqT.of h3, hv, hw⟩, fun z H' ⟨T, x', y', ez, hT, eH, f1, f2⟩ => ?_⟩
    subst ez eH
    have g1 := f1 vs (SqT.of h1)
    have g2 := f2 ws (SqT.of h3)
    rw [hv] at g1; cases g1
    rw [hw] at g2; cases g2
    exact pair_new S hT rv rw'
theorem walks_enumL {Hs : Hp} {a : Addr} {o : Opd} (h : OpdOk fm Hs F H ω σ (.ref a) o) : Walks fm (Und σ (.enumL o)) (.enumL o) (Ite fm.K a) F H ω := fun F1 H1 ω1 σ1 ρ1 ds E u S q => by
  simp only [Src.items, Option.bind_eq_some_iff] at q
  obtain ⟨xs, ⟨d, q1, q2⟩, q5⟩ := q
  cases q5
  rw [asL_eq q2] at q1
  obtain ⟨_, vs, ea, h1, h2⟩ := repT_lst S (opd_later h E u S q1)
  cases ea
  refine ⟨⟨vs, SqL.of h1, by rw [enumD_len, h2.length]; exact Nat.le_refl _⟩, fun i d hd => ?_⟩
  obtain ⟨x, e1, rfl⟩ := enumD_get hd
  obtain ⟨v, hv, rv⟩ := h2.getD e1
  refine ⟨⟨vs, v, SqL.of h1, hv⟩, fun z H' ⟨T, x', ez, hT, eH, f1⟩ => ?_⟩
  subst ez eH
  have g1 := f1 vs (SqL.of h1)
  rw [hv] at g1; cases g1
  have q := pair_new S hT (.int ((i : Nat) : Int)) rv
  rw [Nat.zero_add]
  exact q

/-- a source's reading -/
def tI (fm : Fm) (W : WX) (m : M Src) : TI := fun σ H R => ∃ F ω ρ, Sta fm F H ω σ ρ ∧ Fin fm W σ F H ω (m ρ) fun F' H' ω' _ src => ∀ J, Walks fm (Und σ src) src J F' H' ω' → R J H'
theorem PI.imp {X : Cx} {tg e : Expr} {t t' : TI} (h : PI X tg e t) (w : ∀ σ H R, t' σ H R → t σ H R) : PI X tg e t' := ⟨fun pins s σ H R I q => h.run pins s σ H R I (w σ H R q)⟩
/-- a list or a tuple, whichever comes -/
def iSeq (K : PySem.W.Frag) (tl : TE) : TI := fun σ H R => tl σ H fun x H1 => ∃ a, x = .ref a ∧ (((∃ xs, SqL K H1 a xs) ∧ R (Itl K a) H1) ∨ ((∃ xs, SqT K H1 a xs) ∧ R (Itt K a) H1))
theorem pi_seq {l : Expr} {tl : TE} (hl : PE X l tl) : PI X tg l (iSeq X.K tl) := by
  refine ⟨fun pins s σ H R I h => ?_⟩
  refine thn (hl.run pins s σ H _ I h) fun v s1 ⟨x, H1, I1, r1, a, e, q1⟩ => ?_
  subst e
  cases r1
  have fin : ∀ b ∈ [s1.heap.objs.size], FpOk X pins H1 b := fun b hb => by
    have e : b = s1.heap.objs.size := by simpa using hb
    subst e
    exact I1.fpOk (Nat.le_refl _) (I1.hok.fresh (Nat.le_refl _))
  rcases q1 with ⟨⟨xs, hq⟩, q⟩ | ⟨⟨xs, hq⟩, q⟩
  · obtain ⟨its, rv, p, hz⟩ := I1.list hq
    exact wpAny_pyIter_list p.isList ⟨s1.heap.objs.size, [s1.heap.objs.size], _, _, H1, rfl, I1.kept (t' := s1.toks) fun b o e => Heap.get?_push_of_some _ e, turn_list a _, ⟨_, Heap.get?_push_size _ rfl, rfl, rfl⟩, fin, q⟩
  · obtain ⟨its, rv, p, hz⟩ := I1.tuple hq
    exact wpAny_pyIter_tuple (show s1.heap.IsTuple a its.toArray from p) ⟨s1.heap.objs.size, [s1.heap.objs.size], _, _, H1, rfl, I1.kept (t' := s1.toks) fun b o e => Heap.get?_push_of_some _ e, turn_tuple a _, ⟨_, Heap.get?_push_size _ rfl, rfl, rfl⟩, fin, q⟩
def mSeq (f : M Opd) : M Src := fun ρ => (f ρ).bind fun o ρ => match o.get ρ with
  | some (.lst _) => .ok (.seqL o) ρ
  | some (.tup _) => .ok (.seqT o) ρ
  | _ => .no
theorem i_seq (n : On X fm) (ha : PE X a (tO fm W f)) : PI X tg a (tI fm W (mSeq f)) :=
  PI.imp (pi_seq ha) fun σ H R ⟨F, ω, ρ, S, q⟩ => by
    refine ⟨F, ω, ρ, S, q.bind.imp fun F1 H1 ω1 ρ1 o E1 S1 ⟨_, q1, _⟩ v hv => ?_⟩
    split at q1
    · rename_i h1
      obtain ⟨a, vs, rfl, h2, _⟩ := repT_lst S1 (hv.get S1 h1)
      exact ⟨a, rfl, .inl ⟨⟨vs, SqL.of h2⟩, by rw [← n.K]; exact q1 F1 H1 ω1 .refl S1 _ (walks_seqL hv)⟩⟩
    · rename_i h1
      obtain ⟨a, vs, rfl, _, h2, _⟩ := repT_tup S1 (hv.get S1 h1)
      exact ⟨a, rfl, .inr ⟨⟨vs, SqT.of h2⟩, by rw [← n.K]; exact q1 F1 H1 ω1 .refl S1 _ (walks_seqT hv)⟩⟩
    · exact q1.elim
def mRng1 (f : M (List Opd)) : M Src := fun ρ => (f ρ).bind fun os ρ => match gets ρ os with
  | some [.int n] => if n ≤ 1000000 ∧ -1000000 ≤ n then .ok (.rng 0 n.toNat) ρ else .no
  | _ => .no
def mRng2 (f : M (List Opd)) : M Src := fun ρ => (f ρ).bind fun os ρ => match gets ρ os with
  | some [.int m, .int n] => if (n ≤ 1000000 ∧ -1000000 ≤ n) ∧ (m ≤ 1000000 ∧ -1000000 ≤ m) then .ok (.rng m (n - m).toNat) ρ else .no
  | _ => .no
variable {fs : M (List Opd)}
theorem i_rng1 (n : On X fm) (hm : X.mg "range" = none) (ha : PA X [a] (tOs fm W fs)) (hg : Gl X "range" := by rfl) (hs : starEach [a] X.env = [(false, eval a X.env)] := by rfl) : PI X tg (.Call (.Name "range" p) [a] [] pos) (tI fm W (mRng1 fs)) :=
  PI.imp (pi_range1 hg hm ha hs) fun σ H R ⟨F, ω, ρ, S, q⟩ => by
    refine ⟨F, ω, ρ, S, q.bind.imp fun F1 H1 ω1 ρ1 os E1 S1 ⟨_, q1, _⟩ vs hv => ?_⟩
    split at q1
    · rename_i k h1
      split at q1
      · rename_i hz
        have hr := gets_ok S1 hv h1
        cases hr with
        | cons r1 r2 =>
          cases r2
          exact ⟨k, by rw [repT_int r1], by omega, by omega, q1 F1 H1 ω1 .refl S1 _ walks_rng⟩
      · exact q1.elim
    · exact q1.elim
theorem i_rng2 (n : On X fm) (hm : X.mg "range" = none) (ha : PA X [a, b] (tOs fm W fs)) (hg : Gl X "range" := by rfl) (hs : starEach [a, b] X.env = [(false, eval a X.env), (false, eval b X.env)] := by rfl) (hs2 : starEach [b] X.env = [(false, eval b X.env)] := by rfl) : PI X tg (.Call (.Name "range" p) [a, b] [] pos) (tI fm W (mRng2 fs)) :=
  PI.imp (pi_range2 hg hm ha hs hs2) fun σ H R ⟨F, ω, ρ, S, q⟩ => by
    refine ⟨F, ω, ρ, S, q.bind.imp fun F1 H1 ω1 ρ1 os E1 S1 ⟨_, q1, _⟩ vs hv => ?_⟩
    split at q1
    · rename_i m k h1
      split at q1
      · rename_i hz
        have hr := gets_ok S1 hv h1
        cases hr with
        | cons r1 r2 =>
          cases r2 with
          | cons r2 r3 =>
            cases r3
            exact ⟨m, k, by rw [repT_int r1, repT_int r2], by omega, q1 F1 H1 ω1 .refl S1 _ walks_rng⟩
      · exact q1.elim
    · exact q1.elim
def mZip (f : M (List Opd)) : M Src := fun ρ => (f ρ).bind fun os ρ => match os with
  | [a, b] => match a.get ρ, b.get ρ with
    | some (.lst _), some (.lst _) => .ok (.zipL a b) ρ
    | some (.tup _), some (.tup _) => .ok (.zipT a b) ρ
    | _, _ => .no
  | _ => .no
def mEnum (f : M (List Opd)) : M Src := fun ρ => (f ρ).bind fun os ρ => match os with
  | [a] => match a.get ρ with
    | some (.lst _) => .ok (.enumL a) ρ
    | _ => .no
  | _ => .no
theorem i_zip (n : On X fm) (hm : X.mg "zip" = none) (ha : PA X [a, b] (tOs fm W fs)) {elts : List Expr} {kk : Nat} {tpos : Pos} (hg : Gl X "zip" := by rfl) (hs : starEach [a, b] X.env = (false, eval a X.env) :: starEach [b] X.env := by rfl) (hpl : (backTo pos (starEach [b] X.env)).any (·.1) = false := by rfl) :
    PI X (.Tuple elts kk tpos) (.Call (.Name "zip" p) [a, b] [] pos) (tI fm W (mZip fs)) :=
  PI.imp (RZ.pi_zipA hg hm ha hs hpl) fun σ H R ⟨F, ω, ρ, S, q⟩ => by
    refine ⟨F, ω, ρ, S, q.bind.imp fun F1 H1 ω1 ρ1 os E1 S1 ⟨_, q1, _⟩ vs hv => ?_⟩
    split at q1
    · rename_i oa ob
      match vs, hv with
      | [v, u], ⟨hv1, ⟨hv2, _, _⟩, _⟩ =>
        split at q1
        · rename_i h1 h2
          obtain ⟨a, ws, rfl, h3, _⟩ := repT_lst S1 (hv1.get S1 h1)
          obtain ⟨b, us, rfl, h4, _⟩ := repT_lst S1 (hv2.get S1 h2)
          exact ⟨a, b, ws, us, rfl, .inl ⟨SqL.of h3, SqL.of h4, by rw [← n.K]; exact q1 F1 H1 ω1 .refl S1 _ (walks_zipL hv1 hv2)⟩⟩
        · rename_i h1 h2
          obtain ⟨a, ws, rfl, _, h3, _⟩ := repT_tup S1 (hv1.get S1 h1)
          obtain ⟨b, us, rfl, _, h4, _⟩ := repT_tup S1 (hv2.get S1 h2)
          exact ⟨a, b, ws, us, rfl, .inr ⟨SqT.of h3, SqT.of h4, by rw [← n.K]; exact q1 F1 H1 ω1 .refl S1 _ (walks_zipT hv1 hv2)⟩⟩
        · exact q1.elim
    · exact q1.elim
theorem i_enum (n : On X fm) (hm : X.mg "enumerate" = none) (ha : PA X [a] (tOs fm W fs)) {elts : List Expr} {kk : Nat} {tpos : Pos} (hg : Gl X "enumerate" := by rfl) (hs : starEach [a] X.env = [(false, eval a X.env)] := by rfl) :
    PI X (.Tuple elts kk tpos) (.Call (.Name "enumerate" p) [a] [] pos) (tI fm W (mEnum fs)) :=
  PI.imp (pi_enum hg hm ha hs) fun σ H R ⟨F, ω, ρ, S, q⟩ => by
    refine ⟨F, ω, ρ, S, q.bind.imp fun F1 H1 ω1 ρ1 os E1 S1 ⟨_, q1, _⟩ vs hv => ?_⟩
    split at q1
    · rename_i oa
      match vs, hv with
      | [v], ⟨hv1, _, _⟩ =>
        split at q1
        · rename_i h1
          obtain ⟨a, ws, rfl, h3, _⟩ := repT_lst S1 (hv1.get S1 h1)
          exact ⟨a, ws, rfl, SqL.of h3, by rw [← n.K]; exact q1 F1 H1 ω1 .refl S1 _ (walks_enumL hv1)⟩
        · exact q1.elim
    · exact q1.elim
end
end DL
namespace DL
open PySem PySem.Spec PyProof.Rows L2

/-! ### storing into slots -/
inductive RV where
  | fz (d : D) | own (xs : List D)
def RV.slot : RV → Slot
  | .fz d => .fz d
  | .own xs => .own xs
/-- a name takes a value: not a by-reference parameter -/
def setSlot (ρ : Rho) (i : Nat) (r : RV) : Option Rho := match ρ[i]? with
  | some (.ref _) => none
  | some (.obj _ _) => none
  | some _ => some (ρ.set i r.slot)
  | none => none
def RvOk (fm : Fm) (F H : Hp) (ω : Om) (v : V) : RV → Prop
  | .fz d => Rep fm.K fm.mg F v d
  | .own xs => ∃ a vs, v = .ref a ∧ F a = none ∧ ω a = none ∧ fm.H0 a = none ∧ H a = some (.lst vs) ∧ RepL fm.K fm.mg F vs xs
/-- the slot i forgotten by the owners -/
def dropω (ω : Om) (i : Nat) : Om := fun a => if ω a = some i then none else ω a
theorem dropω_some {ω : Om} {i j : Nat} {a : Addr} : dropω ω i a = some j ↔ ω a = some j ∧ j ≠ i := by
  unfold dropω
  split
  · rename_i h
    constructor
    · intro z; cases z
    · rintro ⟨h1, h2⟩; rw [h] at h1; cases h1; exact absurd rfl h2
  · rename_i h
    constructor
    · intro z; exact ⟨z, fun e => by subst e; exact h z⟩
    · exact fun z => z.1
theorem dropω_none {ω : Om} {i : Nat} {a : Addr} (h : ω a = none) : dropω ω i a = none := by
  unfold dropω; split <;> first | rfl | exact h
section
variable {fm : Fm} {F H : Hp} {ω : Om} {σ : L2.St} {ρ ρ' : Rho} {i : Nat} {v : V} {r : RV}
theorem setSlot_some (h : setSlot ρ i r = some ρ') : ρ' = ρ.set i r.slot ∧ i < ρ.length ∧ (∀ xs, ρ[i]? ≠ some (.ref xs)) ∧ ∀ c fs, ρ[i]? ≠ some (.obj c fs) := by
  unfold setSlot at h
  split at h
  · cases h
  · cases h
  · rename_i s h1 h2 h3
    cases h
    exact ⟨rfl, (List.getElem?_eq_some_iff.mp h3).1, fun xs e => by rw [h3] at e; cases e; exact h1 _ rfl, fun c fs e => by rw [h3] at e; cases e; exact h2 _ _ rfl⟩
  · cases h
/-- the owners behind a store -/
def putω (ω : Om) (i : Nat) (v : V) : RV → Om
  | .fz _ => dropω ω i
  | .own _ => fun a => if v = .ref a then some i else dropω ω i a
theorem putω_own {b : Addr} {xs : List D} {a : Addr} {j : Nat} (hb : ω b = none) (h : ω a = some j) (hj : j ≠ i) : putω ω i (.ref b) (.own xs) a = some j := by
  show (if V.ref b = V.ref a then some i else dropω ω i a) = some j
  rw [if_neg fun z : V.ref b = V.ref a => by cases z; rw [hb] at h; cases h]
  exact dropω_some.mpr ⟨h, hj⟩
theorem Sta.setSlot (S : Sta fm F H ω σ ρ) (q : RvOk fm F H ω v r) (h : setSlot ρ i r = some ρ') :
    Sta fm F H (putω ω i v r) (σ.set i (some v)) ρ' ∧ (∀ a j, ω a = some j → fm.H0 a ≠ none → putω ω i v r a = some j) ∧ (∀ a, putω ω i v r a ≠ none → ω a ≠ none ∨ (v = .ref a ∧ ∃ xs, r = .own xs)) := by
  obtain ⟨rfl, hi, nr, no⟩ := setSlot_some h
  have iσ : i < σ.length := by rw [← S.len]; exact hi
  have unl : ∀ a, ω a = some i → fm.H0 a = none := fun a wa => by
    obtain ⟨h0, s, h1, h2⟩ := S.own a i wa
    cases s with
    | un => cases h2
    | fz d => cases h2
    | own xs => obtain ⟨b, vs, e1, _, e2, _⟩ := S.slot i _ h1; rw [h0] at e1; cases e1; exact e2
    | ref xs => exact absurd h1 (nr xs)
    | obj c fs => exact absurd h1 (no c fs)
  have hω : ∀ a j, ω a = some j → j ≠ i → putω ω i v r a = some j := fun a j wa hj => by
    cases r with
    | fz d => exact dropω_some.mpr ⟨wa, hj⟩
    | own xs =>
      obtain ⟨b, vs, rfl, _, q2, _⟩ := q
      exact putω_own q2 wa hj
  have keep : ∀ j t, j ≠ i → ρ[j]? = some t → SlotOk fm F H (putω ω i v r) (σ.set i (some v)) j t := fun j t hj ht => by
    have s0 := S.slot j t ht
    have hσ : (σ.set i (some v))[j]? = σ[j]? := List.getElem?_set_ne (Ne.symm hj)
    cases t with
    | un => trivial
    | fz d => obtain ⟨u, h1, h2⟩ := s0; exact ⟨u, by rw [hσ]; exact h1, h2⟩
    | own xs => obtain ⟨a, vs, h1, h2, h3, h4, h5⟩ := s0; exact ⟨a, vs, by rw [hσ]; exact h1, hω a j h2 hj, h3, h4, h5⟩
    | ref xs => obtain ⟨a, vs, h1, h2, h4, h5⟩ := s0; exact ⟨a, vs, by rw [hσ]; exact h1, hω a j h2 hj, h4, h5⟩
    | obj c fs =>
      obtain ⟨a, C, dx, vs, h1, h2, h3, h4, h5, h6, h7⟩ := s0
      refine ⟨a, C, dx, vs, by rw [hσ]; exact h1, hω a j h2 hj, h3, h4, h5, ?_, h7⟩
      cases r with
      | fz d => exact dropω_none h6
      | own xs =>
        obtain ⟨b, vs', rfl, _, q2, _, q3, _⟩ := q
        show (if V.ref b = V.ref dx then some i else dropω ω i dx) = none
        rw [if_neg fun z : V.ref b = V.ref dx => by cases z; rw [h5] at q3; cases q3]
        exact dropω_none h6
  have ownd : ∀ a j, putω ω i v r a = some j → (j ≠ i ∧ ω a = some j) ∨ (j = i ∧ v = .ref a ∧ ∃ xs, r = .own xs) := fun a j wa => by
    cases r with
    | fz d => have z := dropω_some.mp wa; exact .inl ⟨z.2, z.1⟩
    | own xs =>
      have wa : (if v = .ref a then some i else dropω ω i a) = some j := wa
      split at wa
      · rename_i e; cases wa; exact .inr ⟨rfl, e, xs, rfl⟩
      · have z := dropω_some.mp wa; exact .inl ⟨z.2, z.1⟩
  refine ⟨⟨S.sub, fun a j wa => ?_, S.dom, by rw [List.length_set, List.length_set]; exact S.len, fun a j wa => ?_, fun j t ht => ?_⟩, fun a j wa hl => ?_, fun a wa => ?_⟩
  · rcases ownd a j wa with ⟨_, w⟩ | ⟨_, e, xs, rfl⟩
    · exact S.sep a j w
    · obtain ⟨b, vs, e2, q1, _⟩ := q; rw [e] at e2; cases e2; exact q1
  · rcases ownd a j wa with ⟨hj, w⟩ | ⟨rfl, e, xs, rfl⟩
    · obtain ⟨h1, t, h2, h3⟩ := S.own a j w
      exact ⟨by rw [List.getElem?_set_ne (Ne.symm hj)]; exact h1, t, by rw [List.getElem?_set_ne (Ne.symm hj)]; exact h2, h3⟩
    · exact ⟨by rw [List.getElem?_set_self iσ, e], _, List.getElem?_set_self hi, rfl⟩
  · rcases get_set ht with ⟨rfl, rfl⟩ | ⟨hj, ht⟩
    · cases r with
      | fz d => exact ⟨v, List.getElem?_set_self iσ, q⟩
      | own xs =>
        obtain ⟨b, vs, rfl, q1, q2, q3, q4, q5⟩ := q
        exact ⟨b, vs, List.getElem?_set_self iσ, if_pos rfl, q3, q4, q5⟩
    · exact keep j t hj ht
  · exact hω a j wa fun z => by subst z; exact hl (unl a wa)
  · cases e : putω ω i v r a with
    | none => exact absurd e wa
    | some j =>
      rcases ownd a j e with ⟨_, w⟩ | ⟨_, e2, xs, rfl⟩
      · exact .inl (by rw [w]; simp)
      · exact .inr ⟨e2, xs, rfl⟩
end

/-! ### operands made ready to be stored -/
/-- true: a new list is kept as the slot's own; false: shared -/
def convs : List Bool → List Opd → M (List RV)
  | [], [] => fun ρ => .ok [] ρ
  | true :: ms, .tmp xs :: os => fun ρ => (convs ms os ρ).bind fun rs ρ => .ok (.own xs :: rs) ρ
  | false :: ms, o :: os => fun ρ => (o.toV ρ).bind fun d ρ => (convs ms os ρ).bind fun rs ρ => .ok (.fz d :: rs) ρ
  | _, _ => fun _ => .no
/-- Hs: the heap ahead of the statement -/
def RvOk1 (fm : Fm) (Hs F H : Hp) (ω : Om) (v : V) : RV → Prop
  | .fz d => Rep fm.K fm.mg F v d
  | .own xs => ∃ a vs, v = .ref a ∧ F a = none ∧ ω a = none ∧ Hs a = none ∧ H a = some (.lst vs) ∧ RepL fm.K fm.mg F vs xs
def RV.isOwn : RV → Bool
  | .own _ => true
  | _ => false
def ownVs : List V → List RV → List V
  | v :: vs, .own _ :: rs => v :: ownVs vs rs
  | _ :: vs, _ :: rs => ownVs vs rs
  | _, _ => []
def RvsOk (fm : Fm) (Hs F H : Hp) (ω : Om) : List V → List RV → Prop
  | [], [] => True
  | v :: vs, r :: rs => RvOk1 fm Hs F H ω v r ∧ RvsOk fm Hs F H ω vs rs ∧ (r.isOwn = true → ∀ w ∈ ownVs vs rs, w ≠ v)
  | _, _ => False
section
variable {fm : Fm} {Hs F H F1 H1 : Hp} {ω ω1 : Om} {σ : L2.St} {ρ ρ1 ρ2 : Rho} {i : Nat} {v : V}
/-- pending new lists stay where only v's object was shared -/
theorem OpdsOk.shared {F' : Hp} {ω' : Om} (hs : Sub F1 F') (hb : ∀ b u, F' b = some u → F1 b = some u ∨ (v = .ref b ∧ ((∀ w ∈ ([] : List V), w ≠ v) ∧ True)) ∨ ω1 b ≠ none) (hw : ∀ b, ω1 b = none → ω' b = none) :
    ∀ {vs : List V} {os : List Opd}, (∀ w ∈ tmpVs vs os, w ≠ v) → OpdsOk fm Hs F1 H1 ω1 σ vs os → OpdsOk fm Hs F' H1 ω' σ vs os
  | [], [], _, _ => trivial
  | u :: vs, o :: os, hd, ⟨a, b, c⟩ => by
    have hd' : ∀ w ∈ tmpVs vs os, w ≠ v := fun w h => hd w (by cases o <;> simp [tmpVs, h])
    refine ⟨?_, OpdsOk.shared hs hb hw hd' b, c⟩
    cases o with
    | val d => exact Rep.mono hs a
    | nm i => exact a
    | tmp xs =>
      obtain ⟨p, ws, rfl, h1, h2, h3, h4, h5⟩ := a
      refine ⟨p, ws, rfl, ?_, hw p h2, h3, h4, h5.mono hs⟩
      cases q : F' p with
      | none => rfl
      | some u =>
        rcases hb p u q with z | ⟨z, _⟩ | z
        · rw [h1] at z; cases z
        · exact absurd z.symm (hd _ (by simp [tmpVs]))
        · exact absurd h2 z
  | [], _ :: _, _, h => h.elim
  | _ :: _, [], _, h => h.elim
theorem convs_ok : ∀ {ms : List Bool} {vs : List V} {os : List Opd} {rs : List RV} {F1 : Hp} {ω1 : Om} {ρ1 : Rho}, Ext fm F H ω F1 H1 ω1 → Sta fm F1 H1 ω1 σ ρ1 → OpdsOk fm H F1 H1 ω1 σ vs os → convs ms os ρ1 = .ok rs ρ2 →
    ∃ F' ω', Ext fm F H ω F' H1 ω' ∧ Sta fm F' H1 ω' σ ρ2 ∧ RvsOk fm H F' H1 ω' vs rs ∧ Sub F1 F' ∧ (∀ p, F1 p = none → ω1 p = none → (∀ w ∈ tmpVs vs os, w ≠ .ref p) → F' p = none) ∧ (∀ b, ω1 b = none → ω' b = none) ∧ ∀ w ∈ ownVs vs rs, w ∈ tmpVs vs os
  | [], [], [], _, F1, ω1, ρ1, E, S, _, e => by
    simp only [convs] at e; cases e
    exact ⟨F1, ω1, E, S, trivial, Sub.refl, fun _ h _ _ => h, fun _ h => h, fun w h => by simp [ownVs] at h⟩
  | true :: ms, u :: vs, .tmp xs :: os, _, F1, ω1, ρ1, E, S, ⟨a, b, c⟩, e => by
    simp only [convs] at e
    obtain ⟨rs, ρ3, e1, e2⟩ := bind_ok e
    cases e2
    obtain ⟨F', ω', E', S', r, hs, hk, hw, ho⟩ := convs_ok E S b e1
    obtain ⟨p, ws, rfl, h1, h2, h3, h4, h5⟩ := a
    refine ⟨F', ω', E', S', ⟨⟨p, ws, rfl, hk p h1 h2 (c rfl), hw p h2, h3, h4, h5.mono hs⟩, r, fun _ w hw' => c rfl w (ho w hw')⟩, hs, fun q g1 g2 g3 => hk q g1 g2 fun w hw' => g3 w (by simp [tmpVs, hw']), hw, fun w hw' => ?_⟩
    simp only [ownVs, tmpVs, List.mem_cons] at hw' ⊢
    rcases hw' with z | z
    · exact .inl z
    · exact .inr (ho w z)
  | false :: ms, u :: vs, o :: os, _, F1, ω1, ρ1, E, S, ⟨a, b, c⟩, e => by
    simp only [convs] at e
    obtain ⟨d, ρ3, e1, e2⟩ := bind_ok e
    obtain ⟨rs, ρ4, e3, e4⟩ := bind_ok e2
    cases e4
    obtain ⟨F2, ω2, E2, S2, r, hs, hb, hw⟩ := toV_ok E S a e1
    have b' : OpdsOk fm H F2 H1 ω2 σ vs os := by
      by_cases ht : ∀ w ∈ tmpVs vs os, w ≠ u
      · refine OpdsOk.shared (v := u) hs (fun p x q => ?_) hw ht b
        rcases hb p x q with z | ⟨z1, z2⟩
        · exact .inl z
        · exact .inr (.inl ⟨z1, fun w h => by simp at h, trivial⟩)
      · -- the operand is no new list then; what it shares is owned
        have hno : o.isTmp = false := by
          cases e : o.isTmp with
          | false => rfl
          | true => exact absurd (c e) ht
        have key : ∀ p x, F2 p = some x → F1 p = some x ∨ ω1 p ≠ none := fun p x q => by
          rcases hb p x q with z | ⟨z1, z2⟩
          · exact .inl z
          · rcases z2 with z2 | z2
            · rw [hno] at z2; cases z2
            · exact .inr z2
        refine OpdsOk.shared (v := .non) hs (fun p x q => ?_) hw (fun w h => ?_) b
        · rcases key p x q with z | z
          · exact .inl z
          · exact .inr (.inr z)
        · obtain ⟨p, z, _⟩ := b.fresh w h; rw [z]; exact fun z => by cases z
    obtain ⟨F', ω', E', S', r', hs', hk', hw', ho'⟩ := convs_ok E2 S2 b' e3
    refine ⟨F', ω', E', S', ⟨r.mono hs', r', fun z => by cases z⟩, hs.trans hs', fun p g1 g2 g3 => ?_, fun p g => hw' p (hw p g), fun w h => ?_⟩
    · have g4 : ∀ w ∈ tmpVs vs os, w ≠ .ref p := fun w h => g3 w (by cases o <;> simp [tmpVs, h])
      refine hk' p ?_ (hw p g2) g4
      cases q : F2 p with
      | none => rfl
      | some x =>
        rcases hb p x q with z | ⟨z1, z2⟩
        · rw [g1] at z; cases z
        · rcases z2 with z2 | z2
          · cases o with
            | tmp xs => exact absurd z1 (g3 _ (by simp [tmpVs]))
            | val _ => cases z2
            | nm _ => cases z2
          · exact absurd g2 z2
    · have h' : w ∈ ownVs vs rs := h
      have := ho' w h'
      cases o <;> simp [tmpVs, this]
  | true :: _, _, .val _ :: _, _, _, _, _, _, _, _, e => by simp only [convs] at e; cases e
  | true :: _, _, .nm _ :: _, _, _, _, _, _, _, _, e => by simp only [convs] at e; cases e
  | [], _, _ :: _, _, _, _, _, _, _, _, e => by simp only [convs] at e; cases e
  | true :: _, _, [], _, _, _, _, _, _, _, e => by simp only [convs] at e; cases e
  | false :: _, _, [], _, _, _, _, _, _, _, e => by simp only [convs] at e; cases e
  | [], _ :: _, [], _, _, _, _, _, _, h, _ => h.elim
  | true :: _, [], .tmp _ :: _, _, _, _, _, _, _, h, _ => h.elim
  | false :: _, [], _ :: _, _, _, _, _, _, _, h, _ => h.elim
def setAll : Rho → List Nat → List RV → Option Rho
  | ρ, [], [] => some ρ
  | ρ, i :: is, r :: rs => (setSlot ρ i r).bind fun ρ => setAll ρ is rs
  | _, _, _ => none
def setVs : L2.St → List Nat → List V → L2.St
  | σ, i :: is, v :: vs => setVs (σ.set i (some v)) is vs
  | σ, _, _ => σ
theorem RvsOk.put {u : V} {r : RV} : ∀ {vs : List V} {rs : List RV}, (r.isOwn = true → ∀ w ∈ ownVs vs rs, w ≠ u) → RvsOk fm Hs F H ω vs rs → RvsOk fm Hs F H (putω ω i u r) vs rs
  | [], [], _, _ => trivial
  | v :: vs, s :: rs, hd, ⟨a, b, c⟩ => by
    refine ⟨?_, RvsOk.put (fun h w hw => hd h w (by cases s <;> simp [ownVs, hw])) b, c⟩
    cases s with
    | fz d => exact a
    | own xs =>
      obtain ⟨p, ws, rfl, h1, h2, h3, h4, h5⟩ := a
      refine ⟨p, ws, rfl, h1, ?_, h3, h4, h5⟩
      cases r with
      | fz d => exact dropω_none h2
      | own ys =>
        show (if u = V.ref p then some i else dropω ω i p) = none
        rw [if_neg fun z => hd rfl (.ref p) (by simp [ownVs]) z.symm]
        exact dropω_none h2
  | [], _ :: _, _, h => h.elim
  | _ :: _, [], _, h => h.elim
/-- stored one behind another -/
theorem setAll_ok : ∀ {is : List Nat} {vs : List V} {rs : List RV} {ω1 : Om} {σ : L2.St} {ρ1 : Rho}, Ext fm F H ω F1 H1 ω1 → Sta fm F1 H1 ω1 σ ρ1 → (∀ a, H a = none → fm.H0 a = none) → RvsOk fm H F1 H1 ω1 vs rs → setAll ρ1 is rs = some ρ2 →
    ∃ ω', Ext fm F H ω F1 H1 ω' ∧ Sta fm F1 H1 ω' (setVs σ is vs) ρ2
  | [], [], [], ω1, σ, ρ1, E, S, _, _, e => by simp only [setAll] at e; cases e; exact ⟨ω1, E, S⟩
  | i :: is, v :: vs, r :: rs, ω1, σ, ρ1, E, S, h0, ⟨a, b, c⟩, e => by
    simp only [setAll, Option.bind_eq_some_iff] at e
    obtain ⟨ρ3, e1, e2⟩ := e
    have q : RvOk fm F1 H1 ω1 v r := by
      cases r with
      | fz d => exact a
      | own xs => obtain ⟨p, ws, rfl, h1, h2, h3, h4, h5⟩ := a; exact ⟨p, ws, rfl, h1, h2, h0 p h3, h4, h5⟩
    obtain ⟨S', k1, k2⟩ := S.setSlot q e1
    show ∃ ω', Ext fm F H ω F1 H1 ω' ∧ Sta fm F1 H1 ω' (setVs (σ.set i (some v)) is vs) ρ2
    refine setAll_ok (σ := σ.set i (some v)) (vs := vs) ⟨E.inc, E.pres, E.fr, fun p hp => ?_, fun p j hp hl => k1 p j (E.lk p j hp hl) hl, E.there⟩ S' h0 (RvsOk.put c b) e2
    rcases k2 p hp with z | ⟨z, xs, hx⟩
    · exact E.om p z
    · subst hx
      obtain ⟨p', ws, e3, _, _, h3, _⟩ := a
      rw [z] at e3; cases e3
      exact .inr h3
  | [], _, _ :: _, _, _, _, _, _, _, _, e => by simp only [setAll] at e; cases e
  | _ :: _, _, [], _, _, _, _, _, _, _, e => by simp only [setAll] at e; cases e
  | [], _ :: _, [], _, _, _, _, _, _, h, _ => h.elim
  | _ :: _, [], _ :: _, _, _, _, _, _, _, h, _ => h.elim
end
end DL
namespace DL
open PySem PySem.Spec PyProof.Rows L2

/-! ### targets of for: names, tuples of names -/
inductive Tgt where
  | nm (i : Nat) | tup (is : List Nat)
def Tgt.slots : Tgt → List Nat
  | .nm i => [i]
  | .tup is => is
def setFzs : Rho → List Nat → List D → Option Rho
  | ρ, [], [] => some ρ
  | ρ, i :: is, d :: ds => (setSlot ρ i (.fz d)).bind fun ρ => setFzs ρ is ds
  | _, _, _ => none
def bindT : Tgt → D → Rho → Option Rho
  | .nm i, d, ρ => setSlot ρ i (.fz d)
  | .tup is, .tup ds, ρ => setFzs ρ is ds
  | _, _, _ => none
def gNames : List Nat → TGs
  | [] => gNil
  | i :: is => gCons (gName i) (gNames is)
def gT (K : PySem.W.Frag) : Tgt → TG
  | .nm i => gName i
  | .tup is => gTup K is.length (gNames is)
section
variable {fm : Fm} {F H F1 H1 : Hp} {ω ω1 : Om} {σ σ' : L2.St} {ρ ρ' : Rho} {i : Nat} {v : V} {d : D}
theorem wipe_set {i : Nat} {x : Option V} : ∀ {vs : List Nat} {σ : L2.St}, i ∈ vs → wipe (σ.set i x) vs = wipe σ vs
  | [], _, h => by simp at h
  | w :: vs, σ, h => by
    unfold wipe
    by_cases e : i ∈ vs
    · rw [wipe_set e]
    · have ew : i = w := by simpa [e] using h
      subst ew
      have key : ∀ (us : List Nat) (σ : L2.St), i ∉ us → wipe (σ.set i x) us = (wipe σ us).set i x := by
        intro us
        induction us with
        | nil => intro σ _; rfl
        | cons u us ih =>
          intro σ hu
          simp only [List.mem_cons, not_or] at hu
          unfold wipe
          rw [ih σ hu.2, List.set_comm _ _ hu.1]
      rw [key vs σ e, List.set_set]
/-- what a store into names does: the state behind it -/
structure After (fm : Fm) (F H : Hp) (ω : Om) (σ : L2.St) (is : List Nat) (ω' : Om) (σ' : L2.St) (ρ' : Rho) : Prop where
  S : Sta fm F H ω' σ' ρ'
  E : Ext fm F H ω F H ω'
  w : ∀ vs, (∀ i ∈ is, i ∈ vs) → wipe σ' vs = wipe σ vs
theorem Sta.setFz (S : Sta fm F H ω σ ρ) (r : Rep fm.K fm.mg F v d) (h : DL.setSlot ρ i (.fz d) = some ρ') : After fm F H ω σ [i] (dropω ω i) (σ.set i (some v)) ρ' := by
  obtain ⟨S', k1, k2⟩ := S.setSlot (v := v) (r := .fz d) r h
  refine ⟨S', ⟨Sub.refl, fun _ _ q _ => q, fun _ _ q => .inl q, fun a q => ?_, k1, fun _ q => q⟩, fun vs hv => wipe_set (hv i (by simp))⟩
  rcases k2 a q with z | ⟨_, xs, z⟩
  · exact .inl z
  · cases z
theorem Sta.setFzs : ∀ {is : List Nat} {vs : List V} {ds : List D} {ω : Om} {σ : L2.St} {ρ : Rho}, Sta fm F H ω σ ρ → RepL fm.K fm.mg F vs ds → DL.setFzs ρ is ds = some ρ' → ∃ ω', After fm F H ω σ is ω' (setVs σ is vs) ρ'
  | [], [], [], ω, σ, ρ, S, _, h => by simp only [DL.setFzs] at h; cases h; exact ⟨ω, S, .refl, fun _ _ => rfl⟩
  | i :: is, v :: vs, d :: ds, ω, σ, ρ, S, .cons r rs, h => by
    simp only [DL.setFzs, Option.bind_eq_some_iff] at h
    obtain ⟨ρ1, h1, h2⟩ := h
    have A := S.setFz (v := v) r h1
    obtain ⟨ω', B⟩ := Sta.setFzs A.S rs h2
    refine ⟨ω', B.S, A.E.trans B.E, fun us hu => ?_⟩
    show wipe (setVs (σ.set i (some v)) is vs) us = _
    rw [B.w us fun j hj => hu j (by simp [hj]), A.w us fun j hj => hu j (by simp at hj; simp [hj])]
  | [], _, _ :: _, _, _, _, _, _, h => by simp only [DL.setFzs] at h; cases h
  | _ :: _, _, [], _, _, _, _, _, h => by simp only [DL.setFzs] at h; cases h
  | [], _ :: _, [], _, _, _, _, h, _ => by cases h
  | _ :: _, [], _ :: _, _, _, _, _, h, _ => by cases h
theorem gNames_ok {Q : L2.St → Hp → Prop} : ∀ {is : List Nat} {vs : List V} {σ : L2.St}, is.length = vs.length → Q (setVs σ is vs) H → gNames is vs σ H Q
  | [], [], _, _, h => ⟨rfl, h⟩
  | i :: is, v :: vs, σ, hl, h => ⟨v, vs, rfl, gNames_ok (by simpa using hl) h⟩
  | [], _ :: _, _, hl, _ => by simp at hl
  | _ :: _, [], _, hl, _ => by simp at hl
theorem setFzs_len : ∀ {is : List Nat} {ds : List D} {ρ : Rho}, setFzs ρ is ds = some ρ' → is.length = ds.length
  | [], [], _, _ => rfl
  | i :: is, d :: ds, ρ, h => by
    simp only [setFzs, Option.bind_eq_some_iff] at h
    obtain ⟨_, _, h2⟩ := h
    simp [setFzs_len h2]
  | [], _ :: _, _, h => by simp only [setFzs] at h; cases h
  | _ :: _, [], _, h => by simp only [setFzs] at h; cases h
/-- a target takes a value -/
theorem gT_ok {t : Tgt} {Q : L2.St → Hp → Prop} (S : Sta fm F H ω σ ρ) (r : Rep fm.K fm.mg F v d) (h : bindT t d ρ = some ρ') (k : ∀ ω' σ', After fm F H ω σ t.slots ω' σ' ρ' → Q σ' H) : gT fm.K t v σ H Q := by
  cases t with
  | nm i => exact k _ _ (S.setFz r h)
  | tup is =>
    cases d with
    | tup ds =>
      cases r with
      | tup hf rs =>
        obtain ⟨ω', A⟩ := S.setFzs rs h
        have hl := setFzs_len h
        exact ⟨_, _, rfl, SqT.of (S.sub _ _ hf), by rw [rs.length, hl], gNames_ok (by rw [rs.length, hl]) (k _ _ A)⟩
    | _ => simp only [bindT] at h; cases h
end

/-! ### list comprehensions -/
def ownOk (ρ : Rho) (vs : List Nat) : Bool := vs.all fun j => match ρ[j]? with
  | some s => !s.mine
  | none => true
def wipeR (ρ : Rho) : List Nat → Rho
  | [] => ρ
  | v :: vs => (wipeR ρ vs).set v .un
def restR (ρ1 ρe : Rho) : List Nat → Rho
  | [] => ρe
  | v :: vs => (restR ρ1 ρe vs).set v (ρ1.getD v .un)
open Classical in
noncomputable def compLoop (src : Src) (own : List Nat) (t : Tgt) (test : M Bool) (elt : M D) (all : List D) : List D → List D → Rho → R (List D)
  | [], acc, ρ => if src.items ρ = some all then .ok acc ρ else .no
  | d :: rest, acc, ρ => if src.items ρ = some all then
      match bindT t d ρ with
      | none => .no
      | some ρ1 => match test ρ1 with
        | .ok true ρ2 => match elt ρ2 with
          | .ok y ρ3 => if ownOk ρ3 own = true ∧ acc.length < 1000000 then compLoop src own t test elt all rest (acc ++ [y]) (wipeR ρ3 own) else .no
          | _ => .no
        | .ok false ρ2 => if ownOk ρ2 own = true then compLoop src own t test elt all rest acc (wipeR ρ2 own) else .no
        | _ => .no
    else .no
noncomputable def mComp (ms : M Src) (own : List Nat) (t : Tgt) (test : M Bool) (elt : M D) : M Opd := fun ρ => (ms ρ).bind fun src ρ1 =>
  if ownOk ρ1 own = true then
    match src.items (wipeR ρ1 own) with
    | some ds => match compLoop src own t test elt ds ds [] (wipeR ρ1 own) with
      | .ok ys ρe => .ok (.tmp ys) (restR ρ1 ρe own)
      | _ => .no
    | none => .no
  else .no
def mYes : M Bool := fun ρ => .ok true ρ

section
variable {fm : Fm} {F H F1 H1 : Hp} {ω ω1 : Om} {σ σ' : L2.St} {ρ ρ' ρ1 ρe : Rho} {i : Nat} {v : V} {d : D}
theorem wipeR_get : ∀ {vs : List Nat} {ρ : Rho} {j : Nat} {s : Slot}, (wipeR ρ vs)[j]? = some s → (j ∈ vs ∧ s = .un) ∨ (j ∉ vs ∧ ρ[j]? = some s)
  | [], _, _, _, h => .inr ⟨by simp, h⟩
  | w :: vs, ρ, j, s, h => by
    unfold wipeR at h
    rcases get_set h with ⟨rfl, rfl⟩ | ⟨ne, h⟩
    · exact .inl ⟨by simp, rfl⟩
    · rcases wipeR_get h with ⟨h1, h2⟩ | ⟨h1, h2⟩
      · exact .inl ⟨by simp [h1], h2⟩
      · exact .inr ⟨by simp [h1, ne], h2⟩
theorem wipeR_len : ∀ {vs : List Nat} {ρ : Rho}, (wipeR ρ vs).length = ρ.length
  | [], _ => rfl
  | w :: vs, ρ => by unfold wipeR; rw [List.length_set, wipeR_len]
theorem restR_len : ∀ {vs : List Nat} {ρ1 ρe : Rho}, (restR ρ1 ρe vs).length = ρe.length
  | [], _, _ => rfl
  | w :: vs, ρ1, ρe => by unfold restR; rw [List.length_set, restR_len]
theorem restR_in : ∀ {vs : List Nat} {ρ1 ρe : Rho} {j : Nat}, j ∈ vs → j < ρe.length → (restR ρ1 ρe vs)[j]? = some (ρ1.getD j .un)
  | [], _, _, _, h, _ => by simp at h
  | w :: vs, ρ1, ρe, j, h, hl => by
    unfold restR
    by_cases e : j = w
    · subst e; rw [List.getElem?_set_self (by rw [restR_len]; exact hl)]
    · rw [List.getElem?_set_ne (Ne.symm e)]
      exact restR_in (by simpa [e] using h) hl
theorem restR_out : ∀ {vs : List Nat} {ρ1 ρe : Rho} {j : Nat}, j ∉ vs → (restR ρ1 ρe vs)[j]? = ρe[j]?
  | [], _, _, _, _ => rfl
  | w :: vs, ρ1, ρe, j, h => by
    simp only [List.mem_cons, not_or] at h
    unfold restR
    rw [List.getElem?_set_ne (Ne.symm h.1)]
    exact restR_out h.2
theorem ownOk_get {vs : List Nat} (h : ownOk ρ vs = true) {j : Nat} (hj : j ∈ vs) {s : Slot} (e : ρ[j]? = some s) : s.mine = false := by
  unfold ownOk at h
  have q := List.all_eq_true.mp h j hj
  rw [e] at q
  simpa using q
theorem wipe_in : ∀ {vs : List Nat} {σ : L2.St} {j : Nat}, j ∈ vs → ∀ x, (wipe σ vs)[j]? ≠ some (some x) := fun {vs σ j} h x e => (wipe_some e).2 h
theorem wipe_out : ∀ {vs : List Nat} {σ : L2.St} {j : Nat}, j ∉ vs → (wipe σ vs)[j]? = σ[j]?
  | [], _, _, _ => rfl
  | w :: vs, σ, j, h => by
    simp only [List.mem_cons, not_or] at h
    unfold wipe
    rw [List.getElem?_set_ne (Ne.symm h.1)]
    exact wipe_out h.2
/-- the slots vs forgotten -/
theorem Sta.wiped (S : Sta fm F H ω σ ρ) {vs : List Nat} (h : ownOk ρ vs = true) : Sta fm F H ω (wipe σ vs) (wipeR ρ vs) where
  sub := S.sub
  sep := S.sep
  dom := S.dom
  len := by rw [wipeR_len, wipe_length]; exact S.len
  own := fun a j w => by
    obtain ⟨h1, s, h2, h3⟩ := S.own a j w
    have hj : j ∉ vs := fun hj => by rw [ownOk_get h hj h2] at h3; cases h3
    refine ⟨by rw [wipe_out hj]; exact h1, ?_⟩
    have hl : j < (wipeR ρ vs).length := by rw [wipeR_len]; exact (List.getElem?_eq_some_iff.mp h2).1
    obtain ⟨t, ht⟩ : ∃ t, (wipeR ρ vs)[j]? = some t := ⟨_, List.getElem?_eq_getElem hl⟩
    rcases wipeR_get ht with ⟨q, _⟩ | ⟨_, q⟩
    · exact absurd q hj
    · rw [h2] at q; cases q; exact ⟨s, ht, h3⟩
  slot := fun j s hs => by
    rcases wipeR_get hs with ⟨_, rfl⟩ | ⟨hj, hs⟩
    · trivial
    · have q := S.slot j s hs
      have e := wipe_out (σ := σ) hj
      cases s with
      | un => trivial
      | fz d => obtain ⟨v, h1, h2⟩ := q; exact ⟨v, by rw [e]; exact h1, h2⟩
      | own xs => obtain ⟨a, vs, h1, h2⟩ := q; exact ⟨a, vs, by rw [e]; exact h1, h2⟩
      | ref xs => obtain ⟨a, vs, h1, h2⟩ := q; exact ⟨a, vs, by rw [e]; exact h1, h2⟩
      | obj c fs => obtain ⟨a, C, dx, vs, h1, h2⟩ := q; exact ⟨a, C, dx, vs, by rw [e]; exact h1, h2⟩
/-- back from the block -/
theorem Sta.unwipe (S : Sta fm F1 H1 ω1 σ ρ1) (E : Sub F1 F) {vs : List Nat} (h : ownOk ρ1 vs = true) (T : Sta fm F H ω (wipe σ vs) ρe) : Sta fm F H ω σ (restR ρ1 ρe vs) where
  sub := T.sub
  sep := T.sep
  dom := T.dom
  len := by rw [restR_len, T.len, wipe_length]
  own := fun a j w => by
    obtain ⟨h1, s, h2, h3⟩ := T.own a j w
    have hj : j ∉ vs := fun hj => wipe_in hj _ h1
    exact ⟨by rw [← wipe_out hj]; exact h1, s, by rw [restR_out hj]; exact h2, h3⟩
  slot := fun j s hs => by
    by_cases hj : j ∈ vs
    · have hl : j < ρe.length := by rw [← restR_len (vs := vs) (ρ1 := ρ1)]; exact (List.getElem?_eq_some_iff.mp hs).1
      rw [restR_in hj hl] at hs
      cases hs
      by_cases hl1 : j < ρ1.length
      · have e : ρ1[j]? = some (ρ1.getD j .un) := by simp [List.getD, hl1]
        have hm := ownOk_get h hj e
        have q := S.slot j _ e
        revert q hm
        cases ρ1.getD j .un with
        | un => exact fun _ _ => trivial
        | fz d => exact fun _ ⟨v, h1, h2⟩ => ⟨v, h1, h2.mono E⟩
        | own xs => exact fun hm => by cases hm
        | ref xs => exact fun hm => by cases hm
        | obj c fs => exact fun hm => by cases hm
      · have e : ρ1.getD j .un = .un := by simp [List.getD, Nat.le_of_not_lt hl1]
        rw [e]; trivial
    · rw [restR_out hj] at hs
      have q := T.slot j s hs
      have e := wipe_out (σ := σ) hj
      cases s with
      | un => trivial
      | fz d => obtain ⟨v, h1, h2⟩ := q; exact ⟨v, by rw [← e]; exact h1, h2⟩
      | own xs => obtain ⟨a, vs, h1, h2⟩ := q; exact ⟨a, vs, by rw [← e]; exact h1, h2⟩
      | ref xs => obtain ⟨a, vs, h1, h2⟩ := q; exact ⟨a, vs, by rw [← e]; exact h1, h2⟩
      | obj c fs => obtain ⟨a, C, dx, vs, h1, h2⟩ := q; exact ⟨a, C, dx, vs, by rw [← e]; exact h1, h2⟩
/-- a list that none owns and that is not shared changes -/
theorem Sta.other {p : Addr} {us ws : List V} (S : Sta fm F H ω σ ρ) (hp : H p = some (.lst us)) (hf : F p = none) (hw : ω p = none) : Sta fm F (upd H p (.lst ws)) ω σ ρ where
  sub := fun a o q => by rw [upd_ne (ne_of_none q hf)]; exact S.sub a o q
  sep := S.sep
  dom := fun a q => by
    by_cases z : a = p
    · subst z; rw [upd_same] at q; cases q
    · rw [upd_ne z] at q; exact S.dom a q
  len := S.len
  own := S.own
  slot := fun j s hs => by
    have q := S.slot j s hs
    have ne : ∀ a k, ω a = some k → a ≠ p := fun a k w z => by subst z; rw [hw] at w; cases w
    cases s with
    | un => trivial
    | fz d => exact q
    | own xs => obtain ⟨a, vs, h1, h2, h3, h4, h5⟩ := q; exact ⟨a, vs, h1, h2, h3, by rw [upd_ne (ne a j h2)]; exact h4, h5⟩
    | ref xs => obtain ⟨a, vs, h1, h2, h4, h5⟩ := q; exact ⟨a, vs, h1, h2, by rw [upd_ne (ne a j h2)]; exact h4, h5⟩
    | obj c fs =>
      obtain ⟨a, C, dx, vs, h1, h2, h3, h4, h5, h6, h7⟩ := q
      exact ⟨a, C, dx, vs, h1, h2, h3, by rw [upd_ne (ne a j h2)]; exact h4, by rw [upd_ne fun z => by subst z; rw [hp] at h5; cases h5]; exact h5, h6, h7⟩
theorem Ext.other {p : Addr} {ws : List V} {Hs Fs : Hp} {ωs : Om} (E : Ext fm Fs Hs ωs F H ω) (h0 : Hs p = none) : Ext fm Fs Hs ωs F (upd H p (.lst ws)) ω :=
  ⟨E.inc, fun a o q w => by rw [upd_ne fun z => by subst z; rw [h0] at q; cases q]; exact E.pres a o q w, E.fr, E.om, E.lk, fun a q => by
    by_cases z : a = p
    · subst z; exact h0
    · rw [upd_ne z] at q; exact E.there a q⟩
end
end DL
namespace DL
open PySem PySem.Spec PyProof.Rows L2

abbrev W0 : WX := fun _ _ _ _ => False
section
variable {X : Cx} {fm : Fm} {W : WX} {F H F' H' F1 H1 : Hp} {ω ω' ω1 : Om} {σ σ' : L2.St} {ρ ρ' ρ1 ρe : Rho} {i : Nat} {v : V} {d : D}
theorem Ext.pend {p : Addr} {o : HO} (E : Ext fm F H ω F' H' ω') (hf : F p = none) (hh : H p = some o) (hw : ω p = none) : F' p = none ∧ H' p = some o ∧ ω' p = none := by
  refine ⟨?_, E.pres p o hh hw, ?_⟩
  · cases q : F' p with
    | none => rfl
    | some u =>
      rcases E.fr p u q with z | z | z
      · rw [hf] at z; cases z
      · rw [hh] at z; cases z
      · exact absurd hw z
  · cases q : ω' p with
    | none => rfl
    | some u =>
      rcases E.om p (by rw [q]; simp) with z | z
      · exact absurd hw z
      · rw [hh] at z; cases z
theorem wipe_wipe {vs : List Nat} {σ : L2.St} : wipe (wipe σ vs) vs = wipe σ vs := by
  apply List.ext_getElem?
  intro j
  by_cases hj : j ∈ vs
  · have key : ∀ (us : List Nat) (σ : L2.St), j ∈ us → (wipe σ us)[j]? = if j < σ.length then some none else none := by
      intro us
      induction us with
      | nil => intro _ h; simp at h
      | cons u us ih =>
        intro σ h
        unfold wipe
        by_cases e : u = j
        · subst e
          by_cases hl : u < σ.length
          · rw [List.getElem?_set_self (by rw [wipe_length]; exact hl), if_pos hl]
          · rw [List.getElem?_eq_none (by rw [List.length_set, wipe_length]; omega), if_neg hl]
        · rw [List.getElem?_set_ne e]
          refine ih σ ?_
          rcases List.mem_cons.mp h with z | z
          · exact absurd z.symm e
          · exact z
    rw [key vs _ hj, key vs σ hj, wipe_length]
  · rw [wipe_out hj]
theorem comp_imp {own : List Nat} {t : Tgt} {ms : M Src} {test : M Bool} {elt : M D} (ht : ∀ i ∈ t.slots, i ∈ own) {Q : VK} (h : tO fm W (mComp ms own t test elt) σ H Q) :
    tLc (tI fm W ms) (gT fm.K t) (tT fm W0 test) (tV fm W0 elt) own σ H Q := by
  obtain ⟨F0, ω0, ρ0, S0, h⟩ := h
  refine ⟨F0, ω0, ρ0, S0, h.bind.imp fun F1 H1 ω1 ρ1 src E1 S1 ⟨_, q, _⟩ J hJ D hD => ?_⟩
  split at q
  rotate_left
  · exact q.elim
  rename_i hown
  split at q
  rotate_left
  · exact q.elim
  rename_i ds hds
  split at q
  rotate_left
  · exact q.elim
  rename_i ys ρe hys
  refine ⟨fun i m H => m = ds.length - i ∧ i ≤ ds.length ∧ ∃ F ω ρ acc accD, Ext fm F1 H1 ω1 F H ω ∧ Sta fm F H ω (wipe σ own) ρ ∧ F D = none ∧ ω D = none ∧ H D = some (.lst acc) ∧ RepL fm.K fm.mg F acc accD ∧ compLoop src own t test elt ds (ds.drop i) accD ρ = .ok ys ρe,
    ⟨ds.length, by simp, Nat.zero_le _, F1, ω1, wipeR ρ1 own, [], [], Ext.new hD, (S1.wiped hown).new hD, S1.fnone hD, S1.onone hD, upd_same, .nil, by rw [List.drop_zero]; exact hys⟩, ?_⟩
  rintro i m H2 ⟨rfl, hi, F2, ω2, ρ2, acc, accD, E2, S2, hf, hw, hh, hr, hl⟩
  have und : Under σ (wipe σ own) := fun j w e => (wipe_some e).1
  by_cases hlt : i < ds.length
  · obtain ⟨d, hd⟩ : ∃ d, ds[i]? = some d := ⟨ds[i], by simp [hlt]⟩
    have hdrop : ds.drop i = d :: ds.drop (i + 1) := by
      rw [List.drop_eq_getElem_cons hlt]
      congr 1
      rw [List.getElem?_eq_getElem hlt] at hd
      exact Option.some.inj hd
    rw [hdrop] at hl
    unfold compLoop at hl
    split at hl
    rotate_left
    · cases hl
    rename_i hit
    split at hl
    · cases hl
    rename_i ρb hb
    obtain ⟨_, hgo⟩ := hJ F2 H2 ω2 (wipe σ own) ρ2 ds E2 (.inl und) S2 hit
    obtain ⟨go, hy⟩ := hgo i d hd
    refine .inr ⟨go, fun H' => ∃ F ω ρ acc accD, Ext fm F1 H1 ω1 F H' ω ∧ Sta fm F H' ω (wipe σ own) ρ ∧ F D = none ∧ ω D = none ∧ H' D = some (.lst acc) ∧ RepL fm.K fm.mg F acc accD ∧ compLoop src own t test elt ds (ds.drop (i + 1)) accD ρ = .ok ys ρe,
      fun H' p' => ⟨ds.length - (i + 1), by omega, rfl, hlt, p'⟩, fun x H3 y3 => ?_⟩
    obtain ⟨F3, E3, S3, r3⟩ := hy x H3 y3
    refine gT_ok S3 r3 hb fun ω4 σ4 A => ⟨by rw [A.w own ht, wipe_wipe], F3, ω4, ρb, A.S, ?_⟩
    have hw4 : wipe σ4 own = wipe σ own := by rw [A.w own ht, wipe_wipe]
    have E4 := (E2.trans E3).trans A.E
    obtain ⟨p1, p2, p3⟩ := (E3.trans A.E).pend hf hh hw
    have r4 : RepL fm.K fm.mg F3 acc accD := hr.mono E3.inc
    split at hl
    · rename_i ρc hc
      rw [hc]
      intro F5 H5 ω5 E5 S5
      show (if true = true then _ else _)
      rw [if_pos rfl]
      refine ⟨F5, ω5, ρc, S5, ?_⟩
      split at hl
      · rename_i y ρd hy
        rw [hy]
        split at hl
        · rename_i hz
          intro F6 H6 ω6 E6 S6 u hu
          obtain ⟨p4, p5, p6⟩ := (E5.trans E6).pend p1 p2 p3
          have r6 : RepL fm.K fm.mg F6 acc accD := r4.mono (E5.inc.trans E6.inc)
          refine ⟨acc, p5, line_lt (by rw [r6.length]; exact hz.2), F6, ω6, wipeR ρd own, _, _, ((E4.trans E5).trans E6).other hD, ?_, p4, p6, upd_same, r6.app (.cons hu .nil), hl⟩
          have := (S6.wiped hz.1).other (ws := acc ++ [u]) p5 p4 p6
          rw [hw4] at this
          exact this
        · cases hl
      · cases hl
    · rename_i ρc hc
      rw [hc]
      split at hl
      · rename_i hz
        intro F5 H5 ω5 E5 S5
        show (if false = true then _ else _)
        rw [if_neg Bool.false_ne_true]
        obtain ⟨p4, p5, p6⟩ := E5.pend p1 p2 p3
        have := S5.wiped hz
        rw [hw4] at this
        exact ⟨F5, ω5, wipeR ρc own, acc, accD, E4.trans E5, this, p4, p6, p5, r4.mono E5.inc, hl⟩
      · cases hl
    · cases hl
  · have e : i = ds.length := by omega
    subst e
    rw [List.drop_length] at hl
    unfold compLoop at hl
    split at hl
    · rename_i hit
      cases hl
      obtain ⟨stop, _⟩ := hJ F2 H2 ω2 (wipe σ own) _ ds E2 (.inl und) S2 hit
      exact .inl ⟨stop, q F2 H2 ω2 E2 (S1.unwipe E2.inc hown S2) (.ref D) ⟨D, acc, rfl, hf, hw, E1.there D hD, hh, hr⟩⟩
    · cases hl
theorem On.blk {s : Shared} {H : Hp} {scope : Scope} {cenv : Env} {fp : List Addr} (n : On X fm) : On (X.blk s H scope cenv fp) fm := ⟨n.K, n.mg, n.calm, n.nd, n.un⟩
variable {elt tg iter a : Expr} {ifs : List Expr} {scope : Scope} {own : List (Str × Nat)} {pos : Pos} {ms : M Src} {mt : M Bool} {me : M D} {t : Tgt}
theorem PTs.imp {X : Cx} {e : List Expr} {t t' : TT} (h : PTs X e t) (w : ∀ σ H Q, t' σ H Q → t σ H Q) : PTs X e t' := ⟨fun pins s σ H Q I q => h.run pins s σ H Q I (w σ H Q q)⟩
theorem ts_nil : PTs X [] (tT fm W mYes) := PTs.imp pts_nil fun σ H Q ⟨F, ω, ρ, S, q⟩ => q F H ω .refl S
theorem ts_one {c : Expr} {t : M Bool} (h : PT X c (tT fm W t)) : PTs X [c] (tT fm W t) := pts_one h
theorem o_comp (n : On X fm) (t : Tgt) (hi : PI X tg iter (tI fm W ms)) (ok : BlkOk X.N X.env.scope scope own) (ht : ∀ i ∈ t.slots, i ∈ own.map (·.2))
    (hg : ∀ (s : Shared) (H : Hp) (C : Addr) (cl : List (Str × Addr)) (fp : List Addr), PG (X.blk s H scope (compEnvC scope cl C X.env) fp) tg (gT fm.K t))
    (htt : ∀ (s : Shared) (H : Hp) (C : Addr) (cl : List (Str × Addr)) (fp : List Addr), On (X.blk s H scope (compEnvC scope cl C X.env) fp) fm → PTs (X.blk s H scope (compEnvC scope cl C X.env) fp) ifs (tT fm W0 mt))
    (he : ∀ (s : Shared) (H : Hp) (C : Addr) (cl : List (Str × Addr)) (fp : List Addr), On (X.blk s H scope (compEnvC scope cl C X.env) fp) fm → PE (X.blk s H scope (compEnvC scope cl C X.env) fp) elt (tV fm W0 me))
    (hs : ∀ x, foldedSetIterable iter X.env x = pure x := by intro _; rfl) : PE X (.ListComp elt [⟨tg, iter, ifs, 0⟩] scope pos) (tO fm W (mComp ms (own.map (·.2)) t mt me)) :=
  PE.imp (pe_lc n.calm n.nd hi ok hg (fun s H C cl fp => htt s H C cl fp n.blk) (fun s H C cl fp => he s H C cl fp n.blk) hs) fun σ H Q q => comp_imp ht q
end
end DL
namespace DL
open PySem PySem.Spec PyProof.Rows L2

/-! ### statements -/
inductive Fl where
  | nx (ρ : Rho) | rt (r : RV) (ρ : Rho) | bk (ρ : Rho) | ct (ρ : Rho) | ex (c : Str) (ds : List D) (ρ : Rho) | no
abbrev G := Rho → Fl
/-- what is given back -/
def RetOk (fm : Fm) (F H : Hp) (v : V) : RV → Prop
  | .fz d => Rep fm.K fm.mg F v d
  | .own xs => ∃ a vs, v = .ref a ∧ F a = none ∧ fm.H0 a = none ∧ H a = some (.lst vs) ∧ RepL fm.K fm.mg F vs xs
def FinS (fm : Fm) (W : WX) (D : Ends) (F H : Hp) (ω : Om) : Fl → Prop
  | .nx ρ => ∀ F' H' ω' σ', Ext fm F H ω F' H' ω' → Sta fm F' H' ω' σ' ρ → D.nx σ' H'
  | .rt r ρ => ∀ F' H' ω' σ' v, Ext fm F H ω F' H' ω' → Sta fm F' H' ω' σ' ρ → RetOk fm F' H' v r → D.rt v H'
  | .bk ρ => ∀ F' H' ω' σ', Ext fm F H ω F' H' ω' → Sta fm F' H' ω' σ' ρ → D.bk σ' H'
  | .ct ρ => ∀ F' H' ω' σ', Ext fm F H ω F' H' ω' → Sta fm F' H' ω' σ' ρ → D.ct σ' H'
  | .ex c ds ρ => ∀ F' H' ω' σ', Ext fm F H ω F' H' ω' → Sta fm F' H' ω' σ' ρ → Exc fm W σ' F' H' c ds
  | .no => False
def tS (fm : Fm) (W : WX) (g : G) : TS := fun D σ H => ∃ F ω ρ, Sta fm F H ω σ ρ ∧ FinS fm W D F H ω (g ρ)
theorem PS.imp {X : Cx} {e : Stmt} {t t' : TS} (h : PS X e t) (w : ∀ D σ H, t' D σ H → t D σ H) : PS X e t' := ⟨fun pins s σ H D I q => h.run pins s σ H D I (w D σ H q)⟩
theorem PSs.imp {X : Cx} {e : List Stmt} {t t' : TS} (h : PSs X e t) (w : ∀ D σ H, t' D σ H → t D σ H) : PSs X e t' := ⟨fun pins s σ H D I q => h.run pins s σ H D I (w D σ H q)⟩

/-! ### the words -/
def R.fl {α : Type} (r : R α) (g : α → Rho → Fl) : Fl := match r with
  | .ok a ρ1 => g a ρ1
  | .ex c ds ρ1 => .ex c ds ρ1
  | .no => .no
def gNext : G := .nx
def gSeq (g1 g2 : G) : G := fun ρ => match g1 ρ with
  | .nx ρ1 => g2 ρ1
  | r => r
def gIf (t : M Bool) (g1 g2 : G) : G := fun ρ => (t ρ).fl fun b ρ1 => match b with
  | true => g1 ρ1
  | false => g2 ρ1
def gExpr (f : M Opd) : G := fun ρ => (f ρ).fl fun _ ρ1 => .nx ρ1
def put (ms : List Bool) (is : List Nat) (os : List Opd) : G := fun ρ => match convs ms os ρ with
  | .ok rs ρ1 => match setAll ρ1 is rs with
    | some ρ2 => .nx ρ2
    | none => .no
  | _ => .no
def gPar (ms : List Bool) (is : List Nat) (f : M (List Opd)) : G := fun ρ => (f ρ).fl fun os ρ1 => put ms is os ρ1
def gSet (m : Bool) (i : Nat) (f : M Opd) : G := fun ρ => (f ρ).fl fun o ρ1 => put [m] [i] [o] ρ1
/-- a tuple that comes as one value is told apart -/
def gUn (is : List Nat) (f : M D) : G := fun ρ => (f ρ).fl fun d ρ1 => match bindT (.tup is) d ρ1 with
  | some ρ2 => .nx ρ2
  | none => .no
def retO (o : Opd) (ρ : Rho) : Fl := match o with
  | .tmp xs => .rt (.own xs) ρ
  | .val d => .rt (.fz d) ρ
  | .nm i => match ρ[i]? with
    | some (.fz d) => .rt (.fz d) ρ
    | some (.own xs) => .rt (.own xs) ρ
    | _ => .no
def gRet (f : M Opd) : G := fun ρ => (f ρ).fl retO
def forLoop (t : Tgt) (g : G) : List D → G
  | [], ρ => .nx ρ
  | d :: ds, ρ => match bindT t d ρ with
    | none => .no
    | some ρ1 => match g ρ1 with
      | .nx ρ2 => forLoop t g ds ρ2
      | .ct ρ2 => forLoop t g ds ρ2
      | .bk ρ2 => .nx ρ2
      | .rt r ρ2 => .rt r ρ2
      | .ex c as ρ2 => .ex c as ρ2
      | .no => .no
def gFor (ms : M Src) (t : Tgt) (g : G) : G := fun ρ => (ms ρ).fl fun src ρ1 => if src.fixed = true then match src.items ρ1 with
    | some ds => forLoop t g ds ρ1
    | none => .no
  else .no
def whileLoop (t : M Bool) (g : G) : Nat → G
  | 0, _ => .no
  | n + 1, ρ => (t ρ).fl fun b ρ1 => match b with
    | true => match g ρ1 with
      | .nx ρ2 => whileLoop t g n ρ2
      | .ct ρ2 => whileLoop t g n ρ2
      | .bk ρ2 => .nx ρ2
      | .rt r ρ2 => .rt r ρ2
      | .ex c as ρ2 => .ex c as ρ2
      | .no => .no
    | false => .nx ρ1
open Classical in
noncomputable def gWhile (t : M Bool) (g : G) : G := fun ρ => if h : ∃ n, whileLoop t g n ρ ≠ .no then whileLoop t g (Classical.choose h) ρ else .no
theorem whileLoop_mono {t : M Bool} {g : G} : ∀ {n m : Nat} {ρ : Rho}, n ≤ m → whileLoop t g n ρ ≠ .no → whileLoop t g m ρ = whileLoop t g n ρ
  | 0, _, _, _, h => absurd rfl h
  | n + 1, 0, _, hl, _ => absurd hl (by omega)
  | n + 1, m + 1, ρ, hl, h => by
    have ih : ∀ ρ, whileLoop t g n ρ ≠ .no → whileLoop t g m ρ = whileLoop t g n ρ := fun ρ => whileLoop_mono (by omega)
    unfold whileLoop R.fl at h ⊢
    revert h
    cases t ρ with
    | ok b ρ1 =>
      cases b with
      | true =>
        dsimp only
        cases g ρ1 with
        | nx ρ2 => exact ih ρ2
        | ct ρ2 => exact ih ρ2
        | _ => intros; rfl
      | false => intro _; rfl
    | ex c ds ρ1 => intro _; rfl
    | no => intro _; rfl
theorem gWhile_eq {t : M Bool} {g : G} {n : Nat} {ρ : Rho} (h : whileLoop t g n ρ ≠ .no) : gWhile t g ρ = whileLoop t g n ρ := by
  have hx : ∃ n, whileLoop t g n ρ ≠ .no := ⟨n, h⟩
  unfold gWhile
  rw [dif_pos hx]
  rcases Nat.le_total n (Classical.choose hx) with z | z
  · exact whileLoop_mono z h
  · exact (whileLoop_mono z (Classical.choose_spec hx)).symm
/-- fixed: what lies in a slot is taken as it is now -/
def fixO : Opd → M Opd
  | .nm i => fun ρ => ((Opd.nm i).toV ρ).bind fun d ρ => .ok (.val d) ρ
  | o => fun ρ => .ok o ρ
def mFix (f : M Opd) : M Opd := fun ρ => (f ρ).bind fixO

section
variable {X : Cx} {fm : Fm} {W : WX} {D : Ends} {F H F' H' F1 H1 : Hp} {ω ω' ω1 : Om} {σ σ' : L2.St} {ρ ρ' ρ1 ρ2 : Rho} {i : Nat} {v : V}
theorem FinS.shift {r : Fl} (E : Ext fm F H ω F1 H1 ω1) (h : FinS fm W D F H ω r) : FinS fm W D F1 H1 ω1 r := by
  cases r with
  | nx ρ => exact fun F' H' ω' σ' E' S => h F' H' ω' σ' (E.trans E') S
  | rt r ρ => exact fun F' H' ω' σ' v E' S q => h F' H' ω' σ' v (E.trans E') S q
  | bk ρ => exact fun F' H' ω' σ' E' S => h F' H' ω' σ' (E.trans E') S
  | ct ρ => exact fun F' H' ω' σ' E' S => h F' H' ω' σ' (E.trans E') S
  | ex c ds ρ => exact fun F' H' ω' σ' E' S => h F' H' ω' σ' (E.trans E') S
  | no => exact h
/-- an expression ahead of the rest of a statement -/
theorem fin_fl {α : Type} {r : R α} {k : Hp → Hp → Om → Rho → α → Prop} (g : α → Rho → Fl)
    (h : FinS fm W D F H ω (r.fl g))
    (hk : ∀ F1 H1 ω1 ρ1 a, Ext fm F H ω F1 H1 ω1 → Sta fm F1 H1 ω1 σ ρ1 → FinS fm W D F H ω (g a ρ1) → k F1 H1 ω1 ρ1 a) : Fin fm W σ F H ω r k := by
  cases r with
  | ok a ρ1 => exact fun F1 H1 ω1 E1 S1 => hk F1 H1 ω1 ρ1 a E1 S1 h
  | ex c ds ρ1 => exact fun F1 H1 ω1 E1 S1 => h F1 H1 ω1 σ E1 S1
  | no => exact h
theorem seq_imp {g1 g2 : G} (h : tS fm W (gSeq g1 g2) D σ H) : tS fm W g1 { D with nx := tS fm W g2 D } σ H := by
  obtain ⟨F, ω, ρ, S, h⟩ := h
  refine ⟨F, ω, ρ, S, ?_⟩
  unfold gSeq at h
  revert h
  cases g1 ρ with
  | nx ρ1 => exact fun h F1 H1 ω1 σ1 E1 S1 => ⟨F1, ω1, ρ1, S1, h.shift E1⟩
  | rt r ρ1 => exact fun h => h
  | bk ρ1 => exact fun h => h
  | ct ρ1 => exact fun h => h
  | ex c ds ρ1 => exact fun h => h
  | no => exact fun h => h
variable {st : Stmt} {sts rest : List Stmt} {g g1 g2 : G}
theorem s_nil : PSs X [] (tS fm W gNext) := PSs.imp pss_nil fun D σ H ⟨F, ω, ρ, S, h⟩ => h F H ω σ .refl S
theorem s_cons (h1 : PS X st (tS fm W g1)) (h2 : PSs X rest (tS fm W g2)) : PSs X (st :: rest) (tS fm W (gSeq g1 g2)) := PSs.imp (pss_cons h1 h2) fun D σ H q => seq_imp q
theorem s_one (h : PS X st (tS fm W g)) : PSs X [st] (tS fm W g) := pss_one h
variable {pos pos' : Pos} {e a b c : Expr} {f : M Opd} {fs : M (List Opd)} {t : M Bool}
theorem s_pass : PS X (.Pass pos) (tS fm W gNext) := PS.imp ps_pass fun D σ H ⟨F, ω, ρ, S, h⟩ => h F H ω σ .refl S
theorem s_break : PS X (.Break pos) (tS fm W .bk) := PS.imp ps_break fun D σ H ⟨F, ω, ρ, S, h⟩ => h F H ω σ .refl S
theorem s_continue : PS X (.Continue pos) (tS fm W .ct) := PS.imp ps_continue fun D σ H ⟨F, ω, ρ, S, h⟩ => h F H ω σ .refl S
theorem s_never : PS X st (tS fm W fun _ => .no) := PS.imp ps_never fun D σ H ⟨F, ω, ρ, S, h⟩ => h
theorem ss_never : PSs X sts (tS fm W fun _ => .no) := PSs.imp pss_never fun D σ H ⟨F, ω, ρ, S, h⟩ => h
theorem s_expr (h : PE X e (tO fm W f)) (hs : swapsWith e none pos.line X.env = pure false := by rfl) : PS X (.Expr e pos) (tS fm W (gExpr f)) := PS.imp (ps_expr h hs) fun D σ H ⟨F, ω, ρ, S, q⟩ =>
  ⟨F, ω, ρ, S, fin_fl _ q fun F1 H1 ω1 ρ1 o E1 S1 q1 v hv => q1 F1 H1 ω1 σ E1 S1⟩
theorem s_if (h : PT X c (tT fm W t)) (h1 : PSs X sts (tS fm W g1)) (h2 : PSs X rest (tS fm W g2)) : PS X (.If c sts rest pos) (tS fm W (gIf t g1 g2)) := PS.imp (ps_if h h1 h2) fun D σ H ⟨F, ω, ρ, S, q⟩ => by
  refine ⟨F, ω, ρ, S, fin_fl _ q fun F1 H1 ω1 ρ1 b E1 S1 q1 => ?_⟩
  cases b with
  | true =>
    show (if true = true then _ else _)
    rw [if_pos rfl]
    exact ⟨F1, ω1, ρ1, S1, q1.shift E1⟩
  | false =>
    show (if false = true then _ else _)
    rw [if_neg Bool.false_ne_true]
    exact ⟨F1, ω1, ρ1, S1, q1.shift E1⟩
theorem ret_ok {o : Opd} (E : Ext fm F H ω F1 H1 ω1) (S : Sta fm F1 H1 ω1 σ ρ1) (h0 : ∀ a, H a = none → fm.H0 a = none) (hv : OpdOk fm H F1 H1 ω1 σ v o) (q : FinS fm W D F H ω (retO o ρ1)) : D.rt v H1 := by
  cases o with
  | val d => exact q F1 H1 ω1 σ v E S hv
  | tmp xs =>
    obtain ⟨a, vs, rfl, h1, h2, h3, h4, h5⟩ := hv
    exact q F1 H1 ω1 σ _ E S ⟨a, vs, rfl, h1, h0 a h3, h4, h5⟩
  | nm i =>
    have hv : σ[i]? = some (some v) := hv
    unfold retO at q
    simp only at q
    split at q
    · rename_i d hd
      obtain ⟨u, h1, h2⟩ := S.slot i _ hd
      rw [hv] at h1; cases h1
      exact q F1 H1 ω1 σ v E S h2
    · rename_i xs hd
      obtain ⟨a, vs, h1, h2, h3, h4, h5⟩ := S.slot i _ hd
      rw [hv] at h1; cases h1
      exact q F1 H1 ω1 σ _ E S ⟨a, vs, rfl, S.sep a i h2, h3, h4, h5⟩
    · exact q.elim
theorem s_ret (h : PE X e (tO fm W f)) : PS X (.Return (some e) pos) (tS fm W (gRet f)) := PS.imp (ps_ret h) fun D σ H ⟨F, ω, ρ, S, q⟩ =>
  ⟨F, ω, ρ, S, fin_fl _ q fun F1 H1 ω1 ρ1 o E1 S1 q1 v hv => ret_ok E1 S1 S.dom hv q1⟩
theorem put_ok {ms : List Bool} {is : List Nat} {os : List Opd} {vs : List V} (E : Ext fm F H ω F1 H1 ω1) (S : Sta fm F1 H1 ω1 σ ρ1) (h0 : ∀ a, H a = none → fm.H0 a = none) (hv : OpdsOk fm H F1 H1 ω1 σ vs os) (q : FinS fm W D F H ω (put ms is os ρ1)) : D.nx (setVs σ is vs) H1 := by
  unfold put at q
  split at q
  · rename_i rs ρ2 e2
    split at q
    · rename_i ρ3 e3
      obtain ⟨F2, ω2, E2, S2, r2, _⟩ := convs_ok E S hv e2
      obtain ⟨ω3, E3, S3⟩ := setAll_ok E2 S2 h0 r2 e3
      exact q F2 H1 ω3 _ E3 S3
    · exact q.elim
  · exact q.elim
theorem convs_len : ∀ {ms : List Bool} {os : List Opd} {rs : List RV} {ρ ρ' : Rho}, convs ms os ρ = .ok rs ρ' → os.length = ms.length
  | [], [], _, _, _, _ => rfl
  | true :: ms, .tmp xs :: os, _, _, _, e => by
    simp only [convs] at e
    obtain ⟨_, _, e1, _⟩ := bind_ok e
    simp [convs_len e1]
  | false :: ms, o :: os, _, _, _, e => by
    simp only [convs] at e
    obtain ⟨_, _, _, e2⟩ := bind_ok e
    obtain ⟨_, _, e1, _⟩ := bind_ok e2
    simp [convs_len e1]
  | true :: _, .val _ :: _, _, _, _, e => by simp only [convs] at e; cases e
  | true :: _, .nm _ :: _, _, _, _, e => by simp only [convs] at e; cases e
  | [], _ :: _, _, _, _, e => by simp only [convs] at e; cases e
  | true :: _, [], _, _, _, e => by simp only [convs] at e; cases e
  | false :: _, [], _, _, _, e => by simp only [convs] at e; cases e
theorem put_len {ms : List Bool} {is : List Nat} {os : List Opd} (q : FinS fm W D F H ω (put ms is os ρ1)) : os.length = ms.length := by
  unfold put at q
  split at q
  · rename_i rs ρ2 e2; exact convs_len e2
  · exact q.elim
theorem OpdsOk.len {Hs : Hp} : ∀ {vs : List V} {os : List Opd}, OpdsOk fm Hs F H ω σ vs os → vs.length = os.length
  | [], [], _ => rfl
  | _ :: _, _ :: _, ⟨_, b, _⟩ => by simp [OpdsOk.len b]
  | [], _ :: _, h => h.elim
  | _ :: _, [], h => h.elim
theorem set_imp {m : Bool} (h : tS fm W (gSet m i f) D σ H) : tAsg (tO fm W f) (gName i) D σ H := by
  obtain ⟨F, ω, ρ, S, q⟩ := h
  exact ⟨F, ω, ρ, S, fin_fl _ q fun F1 H1 ω1 ρ1 o E1 S1 q1 v hv => put_ok E1 S1 S.dom (vs := [v]) (os := [o]) ⟨hv, trivial, fun _ w hw => by simp [tmpVs] at hw⟩ q1⟩
variable {x y z : Str} {j k : Nat} {px py pz pt : Pos}
theorem s_set (n : On X fm) (m : Bool) (i : Nat) (h : PE X e (tO fm W f)) (hi : X.N[i]? = some x := by rfl) (hx : Loc X.env.scope x := by first | exact Or.inl rfl | exact Or.inr rfl)
    (hs : swapsWith e (some (.Name x pos')) pos.line X.env = pure false := by rfl) (hf : X.fn x = true ∨ X.env.scope.names.lookup x = some .local := by first | exact .inr rfl | exact .inl rfl) : PS X (.Assign [.Name x pos'] e pos) (tS fm W (gSet m i f)) :=
  PS.imp (ps_set n.nd hi hx h hs hf) fun D σ H q => set_imp q

section
variable {elt tg iter : Expr} {ifs : List Expr} {scope : Scope} {own : List (Str × Nat)} {cpos spos : Pos} {ms : M Src} {mt : M Bool} {me : M DL.D} {tt : Tgt}
/-- one line: x = [... for ...] -/
theorem s_setLc (n : On X fm) (m : Bool) (i : Nat) (tt : Tgt) (hI : PI X tg iter (tI fm W ms)) (ok : BlkOk X.N X.env.scope scope own) (ht : ∀ i ∈ tt.slots, i ∈ own.map (·.2))
    (hg : ∀ (s : Shared) (H : Hp) (C : Addr) (cl : List (Str × Addr)) (fp : List Addr), PG (X.blk s H scope (compEnvC scope cl C X.env) fp) tg (gT fm.K tt))
    (htt : ∀ (s : Shared) (H : Hp) (C : Addr) (cl : List (Str × Addr)) (fp : List Addr), On (X.blk s H scope (compEnvC scope cl C X.env) fp) fm → PTs (X.blk s H scope (compEnvC scope cl C X.env) fp) ifs (tT fm W0 mt))
    (he : ∀ (s : Shared) (H : Hp) (C : Addr) (cl : List (Str × Addr)) (fp : List Addr), On (X.blk s H scope (compEnvC scope cl C X.env) fp) fm → PE (X.blk s H scope (compEnvC scope cl C X.env) fp) elt (tV fm W0 me))
    (hi : X.N[i]? = some x := by rfl) (hx : X.env.scope.names.lookup x = some .local := by rfl)
    (hsw : swapsWith (.ListComp elt [⟨tg, iter, ifs, 0⟩] scope cpos) (some (.Name x pos')) spos.line X.env = pure true := by rfl)
    (hs : ∀ x, foldedSetIterable iter X.env x = pure x := by intro _; rfl) : PS X (.Assign [.Name x pos'] (.ListComp elt [⟨tg, iter, ifs, 0⟩] scope cpos) spos) (tS fm W (gSet m i (mComp ms (own.map (·.2)) tt mt me))) :=
  PS.imp (ps_setLc n.calm n.nd hi hx hsw hI ok hg (fun s H C cl fp => htt s H C cl fp n.blk) (fun s H C cl fp => he s H C cl fp n.blk) hs) fun D σ H q => comp_imp ht (set_imp q)
end
theorem s_par (n : On X fm) (m1 m2 : Bool) (i j : Nat) (h : PA X [a, b] (tOs fm W fs)) {kt k2 : _} {pt2 : Pos} (hi : X.N[i]? = some x := by rfl) (hj : X.N[j]? = some y := by rfl) (hij : i ≠ j := by decide)
    (hx : X.env.scope.names.lookup x = some .local := by rfl) (hy : X.env.scope.names.lookup y = some .local := by rfl)
    (hw : swappedStores [.Tuple [.Name x px, .Name y py] kt pt] (.Tuple [a, b] k2 pt2) X.env = pure (some [x, y]) := by rfl)
    (hs : swapsWithSole [.Tuple [.Name x px, .Name y py] kt pt] (.Tuple [a, b] k2 pt2) pos.line X.env = pure false := by rfl) :
    PS X (.Assign [.Tuple [.Name x px, .Name y py] kt pt] (.Tuple [a, b] k2 pt2) pos) (tS fm W (gPar [m1, m2] [i, j] fs)) :=
  PS.imp (ps_par n.calm n.nd hi hj hij hx hy h hw hs) fun D σ H ⟨F, ω, ρ, S, q⟩ =>
    ⟨F, ω, ρ, S, fin_fl _ q fun F1 H1 ω1 ρ1 os E1 S1 q1 vs hv => by
      have hl := put_len q1
      have hv' := hv.len
      obtain ⟨v, u, rfl⟩ : ∃ v u, vs = [v, u] := by
        match vs, hv'.trans hl with
        | [v, u], _ => exact ⟨v, u, rfl⟩
      exact ⟨v, u, rfl, put_ok (is := [i, j]) E1 S1 S.dom hv q1⟩⟩
end
end DL
namespace DL
open PySem PySem.Spec PyProof.Rows L2
def gSetIx (i : Nat) (fi : M Opd) (fv : M D) : G := fun ρ => (fv ρ).fl fun d ρ1 => match itemsAt ρ1 i with
  | none => .no
  | some _ => (fi ρ1).fl fun o ρ2 => match itemsAt ρ2 i, o.get ρ2 with
    | some xs, some (.int k) => if 0 ≤ k ∧ k.toNat < xs.length then .nx (putAt ρ2 i (xs.set k.toNat d)) else .no
    | _, _ => .no
/-- xs[k], y = pair -/
def gPot (i k j : Nat) (fv : M D) : G := fun ρ => (fv ρ).fl fun d ρ1 => match d with
  | .tup [x, y] => match itemsAt ρ1 i with
    | some xs => if k < xs.length then match setSlot (putAt ρ1 i (xs.set k x)) j (.fz y) with
        | some ρ2 => .nx ρ2
        | none => .no
      else .no
    | none => .no
  | _ => .no
section
variable {X : Cx} {fm : Fm} {W : WX} {D : Ends} {F H F' H' F1 H1 : Hp} {ω ω' ω1 : Om} {σ σ' : L2.St} {ρ ρ' ρ1 ρ2 : Rho} {i : Nat} {v : V}
variable {st : Stmt} {sts rest : List Stmt} {g g1 g2 : G} {pos pos' : Pos} {e a b c : Expr} {es : List Expr} {f : M Opd} {fs : M (List Opd)} {t : M Bool} {x y z : Str} {j k : Nat} {px py pz pt p0 p1 p2 p3 : Pos}
/-! ### targets -/
theorem g_nm (n : On X fm) (i : Nat) (hi : X.N[i]? = some x := by rfl) (hx : Loc X.env.scope x := by first | exact Or.inl rfl | exact Or.inr rfl)
    (hf : X.fn x = true ∨ X.env.scope.names.lookup x = some .local := by first | exact .inr rfl | exact .inl rfl) : PG X (.Name x pos) (gT fm.K (.nm i)) := pg_name n.nd hi hx hf
theorem gs_nil : PGs X [] (gNames []) := pgs_nil
theorem gs_cons (n : On X fm) (i : Nat) {is : List Nat} (h : PGs X es (gNames is)) (hi : X.N[i]? = some x := by rfl) (hx : Loc X.env.scope x := by first | exact Or.inl rfl | exact Or.inr rfl)
    (hf : X.fn x = true ∨ X.env.scope.names.lookup x = some .local := by first | exact .inr rfl | exact .inl rfl)
    (hs : (assignEach (.Name x pos :: es) X.env).map (·.2) = assign (.Name x pos) X.env :: (assignEach es X.env).map (·.2) := by rfl) : PGs X (.Name x pos :: es) (gNames (i :: is)) := pgs_cons (pg_name n.nd hi hx hf) h hs
theorem g_tup (n : On X fm) {is : List Nat} {k : Nat} (h : PGs X es (gNames is)) (hn : (assignEach es X.env).length = is.length := by rfl) (hst : (assignEach es X.env).findIdx? (·.1) = none := by rfl) : PG X (.Tuple es k pos) (gT fm.K (.tup is)) := by
  rw [n.K]
  exact pg_tup n.calm h hn hst
theorem rep_tup {F : Hp} {fm : Fm} {v : V} {ds : List DL.D} (r : Rep fm.K fm.mg F v (.tup ds)) : ∃ a vs, v = .ref a ∧ F a = some (.tup vs) ∧ RepL fm.K fm.mg F vs ds := by
  cases r with
  | tup h r => exact ⟨_, _, rfl, h, r⟩
/-- a, b = one value -/
theorem s_un (n : On X fm) {fv : M DL.D} {tg : Expr} (is : List Nat) (h : PE X e (tV fm W fv)) (hg : PG X tg (gT fm.K (.tup is))) (hs : swapsWithSole [tg] e pos.line X.env = pure false := by rfl) (hw : swappedStores [tg] e X.env = pure none := by rfl)
    (h1 : (assignEach [tg] X.env).map (·.2) = [assign tg X.env] := by rfl) : PS X (.Assign [tg] e pos) (tS fm W (gUn is fv)) :=
  PS.imp (ps_asg h hg hs hw h1) fun D σ H ⟨F, ω, ρ, S, q⟩ =>
    ⟨F, ω, ρ, S, fin_fl _ q fun F1 H1 ω1 ρ1 d E1 S1 q1 v hv => by
      split at q1
      · rename_i ρ2 e2
        exact gT_ok S1 hv e2 fun ω' σ' A => q1 F1 H1 ω' σ' (E1.trans A.E) A.S
      · exact q1.elim⟩
theorem setAll_len : ∀ {is : List Nat} {rs : List RV} {ρ ρ' : Rho}, setAll ρ is rs = some ρ' → is.length = rs.length
  | [], [], _, _, _ => rfl
  | i :: is, r :: rs, _, _, e => by
    simp only [setAll, Option.bind_eq_some_iff] at e
    obtain ⟨_, _, e2⟩ := e
    simp [setAll_len e2]
  | [], _ :: _, _, _, e => by simp only [setAll] at e; cases e
  | _ :: _, [], _, _, e => by simp only [setAll] at e; cases e
theorem convs_len2 : ∀ {ms : List Bool} {os : List Opd} {rs : List RV} {ρ ρ' : Rho}, convs ms os ρ = .ok rs ρ' → rs.length = os.length
  | [], [], rs, _, _, e => by simp only [convs] at e; cases e; rfl
  | true :: ms, .tmp xs :: os, rs, _, _, e => by
    simp only [convs] at e
    obtain ⟨_, _, e1, e2⟩ := bind_ok e
    cases e2
    simp [convs_len2 e1]
  | false :: ms, o :: os, rs, _, _, e => by
    simp only [convs] at e
    obtain ⟨_, _, _, e2⟩ := bind_ok e
    obtain ⟨_, _, e1, e3⟩ := bind_ok e2
    cases e3
    simp [convs_len2 e1]
  | true :: _, .val _ :: _, _, _, _, e => by simp only [convs] at e; cases e
  | true :: _, .nm _ :: _, _, _, _, e => by simp only [convs] at e; cases e
  | [], _ :: _, _, _, _, e => by simp only [convs] at e; cases e
  | true :: _, [], _, _, _, e => by simp only [convs] at e; cases e
  | false :: _, [], _, _, _, e => by simp only [convs] at e; cases e
theorem put_len2 {ms : List Bool} {is : List Nat} {os : List Opd} (q : FinS fm W D F H ω (put ms is os ρ1)) : is.length = os.length := by
  unfold put at q
  split at q
  · rename_i rs ρ2 e2
    split at q
    · rename_i e3; rw [setAll_len e3, convs_len2 e2]
    · exact q.elim
  · exact q.elim
/-- a tuple of four and more names -/
theorem s_parN (n : On X fm) {tg : Expr} {k2 : _} (ms : List Bool) (is : List Nat) (h : PA X es (tOs fm W fs)) (hg : PG X tg (gT fm.K (.tup is))) (hl : (is.length < 100) = true := by simp) (hs : swapsWithSole [tg] (.Tuple es k2 p2) pos.line X.env = pure false := by rfl) (hw : swappedStores [tg] (.Tuple es k2 p2) X.env = pure none := by rfl)
    (h1 : (assignEach [tg] X.env).map (·.2) = [assign tg X.env] := by rfl) : PS X (.Assign [tg] (.Tuple es k2 p2) pos) (tS fm W (gPar ms is fs)) :=
  PS.imp (ps_asg (pe_tup h) hg hs hw h1) fun D σ H ⟨F, ω, ρ, S, q⟩ =>
    ⟨F, ω, ρ, S, fin_fl _ q fun F1 H1 ω1 ρ1 os E1 S1 q1 vs hv => by
      have l1 := put_len2 q1
      have l2 := hv.len
      have l3 : is.length < 100 := by simpa using hl
      refine ⟨Nat.le_of_lt (line_lt (by omega)), fun p hp => ⟨p, vs, rfl, SqT.of upd_same, by omega, gNames_ok (by omega) ?_⟩⟩
      have E2 : Ext fm F1 H1 ω1 F1 (upd H1 p (.tup vs)) ω1 := Ext.new hp
      exact put_ok (E1.trans E2) (S1.new hp) S.dom (hv.ext E2) q1⟩
/-! ### loops -/
theorem opd_fixed {o : Opd} (h : o.fixed = true) : o.get ρ = o.get ρ' := by cases o <;> first | rfl | cases h
theorem items_fixed {src : Src} (h : src.fixed = true) : src.items ρ = src.items ρ' := by
  cases src with
  | seqL o => simp only [Src.items]; rw [opd_fixed (ρ := ρ) (ρ' := ρ') h]
  | seqT o => simp only [Src.items]; rw [opd_fixed (ρ := ρ) (ρ' := ρ') h]
  | rng lo n => rfl
  | zipL a b =>
    simp only [Src.fixed, Bool.and_eq_true] at h
    simp only [Src.items]; rw [opd_fixed (ρ := ρ) (ρ' := ρ') h.1, opd_fixed (o := b) (ρ := ρ) (ρ' := ρ') h.2]
  | zipT a b =>
    simp only [Src.fixed, Bool.and_eq_true] at h
    simp only [Src.items]; rw [opd_fixed (ρ := ρ) (ρ' := ρ') h.1, opd_fixed (o := b) (ρ := ρ) (ρ' := ρ') h.2]
  | enumL o => simp only [Src.items]; rw [opd_fixed (ρ := ρ) (ρ' := ρ') h]
theorem s_for (n : On X fm) (hp : PassesOwn (model X.prog X.w) X.A X.env X.xe) {tg iter : Expr} {ms : M Src} (t : Tgt) (hi : PI X tg iter (tI fm W ms)) (hg : PG X tg (gT fm.K t)) (hb : PSs X sts (tS fm W g))
    (hs : ∀ x, foldedSetIterable iter X.env x = pure x := by intro _; rfl) : PS X (.For tg iter sts [] pos) (tS fm W (gFor ms t g)) :=
  PS.imp (ps_for hp n.calm hi hg hb hs) fun D σ H ⟨F, ω, ρ, S, q⟩ =>
    ⟨F, ω, ρ, S, fin_fl _ q fun F1 H1 ω1 ρ1 src E1 S1 q1 J hJ => by
      split at q1
      rotate_left
      · exact q1.elim
      rename_i hfx
      split at q1
      rotate_left
      · exact q1.elim
      rename_i ds hds
      refine ⟨fun i m σ H => m = ds.length - i ∧ i ≤ ds.length ∧ ∃ F ω ρ, Ext fm F1 H1 ω1 F H ω ∧ Sta fm F H ω σ ρ ∧ FinS fm W D F H ω (forLoop t g (ds.drop i) ρ),
        ⟨ds.length, by simp, Nat.zero_le _, F1, ω1, ρ1, .refl, S1, by rw [List.drop_zero]; exact q1.shift E1⟩, ?_⟩
      rintro i m σ2 H2 ⟨rfl, hi, F2, ω2, ρ2, E2, S2, q2⟩
      have hit : src.items ρ2 = some ds := by rw [items_fixed (ρ' := ρ1) hfx]; exact hds
      obtain ⟨stop, hgo⟩ := hJ F2 H2 ω2 σ2 ρ2 ds E2 (.inr hfx) S2 hit
      by_cases hlt : i < ds.length
      · have hd : ds[i]? = some ds[i] := by simp [hlt]
        rw [List.drop_eq_getElem_cons hlt] at q2
        unfold forLoop at q2
        split at q2
        · exact q2.elim
        rename_i ρ3 hb
        obtain ⟨go, hy⟩ := hgo i _ hd
        refine .inr ⟨go, fun σ H => ∃ F ω ρ, Ext fm F1 H1 ω1 F H ω ∧ Sta fm F H ω σ ρ ∧ FinS fm W D F H ω (forLoop t g (ds.drop (i + 1)) ρ),
          fun σ' H' p' => ⟨ds.length - (i + 1), by omega, rfl, hlt, p'⟩, fun x H3 y3 => ?_⟩
        obtain ⟨F3, E3, S3, r3⟩ := hy x H3 y3
        refine gT_ok S3 r3 hb fun ω4 σ4 A => ⟨F3, ω4, ρ3, A.S, ?_⟩
        have E4 := (E2.trans E3).trans A.E
        have E5 := E3.trans A.E
        revert q2
        cases g ρ3 with
        | nx ρ5 => exact fun q2 F5 H5 ω5 σ5 E6 S5 => ⟨F5, ω5, ρ5, E4.trans E6, S5, q2.shift (E5.trans E6)⟩
        | ct ρ5 => exact fun q2 F5 H5 ω5 σ5 E6 S5 => ⟨F5, ω5, ρ5, E4.trans E6, S5, q2.shift (E5.trans E6)⟩
        | bk ρ5 => exact fun q2 => q2.shift E5
        | rt r ρ5 => exact fun q2 => q2.shift E5
        | ex c as ρ5 => exact fun q2 => q2.shift E5
        | no => exact fun q2 => q2
      · have e : i = ds.length := by omega
        subst e
        rw [List.drop_length] at q2
        exact .inl ⟨stop, q2 F2 H2 ω2 σ2 .refl S2⟩⟩
theorem s_while (n : On X fm) (hp : PassesOwn (model X.prog X.w) X.A X.env X.xe) (hc : PT X c (tT fm W t)) (hb : PSs X sts (tS fm W g)) : PS X (.While c sts [] pos) (tS fm W (gWhile t g)) :=
  PS.imp (ps_while hp hc hb) fun D σ H ⟨F, ω, ρ, S, q⟩ => by
    have hx : ∃ n, whileLoop t g n ρ ≠ .no := by
      refine Classical.byContradiction fun z => ?_
      unfold gWhile at q
      rw [dif_neg z] at q
      exact q
    obtain ⟨n0, hn⟩ := hx
    rw [gWhile_eq hn] at q
    refine ⟨fun m σ H => ∃ F ω ρ, Sta fm F H ω σ ρ ∧ FinS fm W D F H ω (whileLoop t g m ρ), ⟨n0, F, ω, ρ, S, q⟩, ?_⟩
    rintro m σ2 H2 ⟨F2, ω2, ρ2, S2, q2⟩
    cases m with
    | zero => exact q2.elim
    | succ m =>
      unfold whileLoop at q2
      refine ⟨F2, ω2, ρ2, S2, fin_fl _ q2 fun F3 H3 ω3 ρ3 b E3 S3 q3 => ?_⟩
      cases b with
      | false =>
        show (if false = true then _ else _)
        rw [if_neg Bool.false_ne_true]
        exact q3 F3 H3 ω3 σ2 E3 S3
      | true =>
        show (if true = true then _ else _)
        rw [if_pos rfl]
        refine ⟨fun σ H => ∃ F ω ρ, Sta fm F H ω σ ρ ∧ FinS fm W D F H ω (whileLoop t g m ρ), fun σ' H' p' => ⟨m, Nat.lt_succ_self m, p'⟩, F3, ω3, ρ3, S3, ?_⟩
        revert q3
        show FinS fm W D F2 H2 ω2 (match g ρ3 with | .nx ρ2 => whileLoop t g m ρ2 | .ct ρ2 => whileLoop t g m ρ2 | .bk ρ2 => .nx ρ2 | .rt r ρ2 => .rt r ρ2 | .ex c as ρ2 => .ex c as ρ2 | .no => .no) → _
        cases g ρ3 with
        | nx ρ5 => exact fun q2 F5 H5 ω5 σ5 E6 S5 => ⟨F5, ω5, ρ5, S5, q2.shift (E3.trans E6)⟩
        | ct ρ5 => exact fun q2 F5 H5 ω5 σ5 E6 S5 => ⟨F5, ω5, ρ5, S5, q2.shift (E3.trans E6)⟩
        | bk ρ5 => exact fun q2 => q2.shift E3
        | rt r ρ5 => exact fun q2 => q2.shift E3
        | ex c as ρ5 => exact fun q2 => q2.shift E3
        | no => exact fun q2 => q2
/-! ### stores into own lists -/
theorem ixn_nat {n : Nat} {k : Int} (h0 : 0 ≤ k) (h1 : k.toNat < n) : ixN n k = some k.toNat := by
  unfold ixN
  rw [if_pos h0, if_pos (by omega)]
theorem s_setIx (n : On X fm) (i : Nat) {o ix : Expr} {fi : M Opd} {fv : M DL.D} (hv : PE X e (tV fm W fv)) (ho : PE X o (tVar i)) (hi : PE X ix (tO fm W fi))
    (ha : ∀ v, assign (.Subscript o ix p1) X.env v = (do
      let ov ← holding [v] (eval o X.env)
      let iv ← holding [v, ov] (eval ix X.env)
      standAt p1
      holding [v, ov, iv] (setItem ov iv v)
      release [v, ov, iv] []) := by intro _; rfl) (hs : swapsWithSole [.Subscript o ix p1] e pos.line X.env = pure false := by rfl) (hw : swappedStores [.Subscript o ix p1] e X.env = pure none := by rfl)
    (h1 : (assignEach [.Subscript o ix p1] X.env).map (·.2) = [assign (.Subscript o ix p1) X.env] := by rfl) : PS X (.Assign [.Subscript o ix p1] e pos) (tS fm W (gSetIx i fi fv)) :=
  PS.imp (ps_asg hv (pg_sub ho hi set_list ha) hs hw h1) fun D σ H ⟨F, ω, ρ, S, q⟩ =>
    ⟨F, ω, ρ, S, fin_fl _ q fun F1 H1 ω1 ρ1 d E1 S1 q1 v hv => by
      split at q1
      · exact q1.elim
      rename_i xs0 h0
      obtain ⟨a, us, e1, _, ha, _⟩ := S1.lstAt h0
      refine ⟨_, e1, F1, ω1, ρ1, S1, fin_fl _ (q1.shift E1) fun F2 H2 ω2 ρ2 o E2 S2 q2 u hu => ?_⟩
      split at q2
      · rename_i xs k h2 h3
        split at q2
        · rename_i hz
          obtain ⟨a', ws, e2, w2, ha2, r2⟩ := S2.lstAt h2
          rw [e1] at e2; cases e2
          refine ⟨a, ws, k, k.toNat, rfl, repT_int (hu.get S2 h3), ha2, ?_, ?_⟩
          · exact ixn_nat hz.1 (by rw [r2.length]; exact hz.2)
          · obtain ⟨S3, E3⟩ := S2.putAt h2 e1 (RepL.set (Rep.mono E2.inc hv) _ r2)
            exact q2 _ _ _ _ (E2.trans E3) S3
        · exact q2.elim
      · exact q2.elim⟩
/-- xs[k], y = pair -/
theorem s_pot (n : On X fm) (i k j : Nat) {o : Expr} {fv : M DL.D} {kt kk : _} (hv : PE X e (tV fm W fv)) (ho : PE X o (tVar i)) (hi : PE X (.Constant (.int (k : Int)) kk p3) (tC (.int (k : Int)))) (hj : X.N[j]? = some y := by rfl) (hy : Loc X.env.scope y := by first | exact Or.inl rfl | exact Or.inr rfl)
    (hf : X.fn y = true ∨ X.env.scope.names.lookup y = some .local := by first | exact .inr rfl | exact .inl rfl)
    (ha : ∀ v, assign (.Subscript o (.Constant (.int (k : Int)) kk p3) p1) X.env v = (do
      let ov ← holding [v] (eval o X.env)
      let iv ← holding [v, ov] (eval (.Constant (.int (k : Int)) kk p3) X.env)
      standAt p1
      holding [v, ov, iv] (setItem ov iv v)
      release [v, ov, iv] []) := by intro _; rfl)
    (hs : swapsWithSole [.Tuple [.Subscript o (.Constant (.int (k : Int)) kk p3) p1, .Name y py] kt pt] e pos.line X.env = pure false := by rfl)
    (hw : swappedStores [.Tuple [.Subscript o (.Constant (.int (k : Int)) kk p3) p1, .Name y py] kt pt] e X.env = pure none := by rfl)
    (h1 : (assignEach [.Tuple [.Subscript o (.Constant (.int (k : Int)) kk p3) p1, .Name y py] kt pt] X.env).map (·.2) = [assign (.Tuple [.Subscript o (.Constant (.int (k : Int)) kk p3) p1, .Name y py] kt pt) X.env] := by rfl)
    (hn : (assignEach [.Subscript o (.Constant (.int (k : Int)) kk p3) p1, .Name y py] X.env).length = 2 := by rfl) (hst : (assignEach [.Subscript o (.Constant (.int (k : Int)) kk p3) p1, .Name y py] X.env).findIdx? (·.1) = none := by rfl)
    (hs1 : (assignEach [.Subscript o (.Constant (.int (k : Int)) kk p3) p1, .Name y py] X.env).map (·.2) = assign (.Subscript o (.Constant (.int (k : Int)) kk p3) p1) X.env :: (assignEach [.Name y py] X.env).map (·.2) := by rfl)
    (hs2 : (assignEach [.Name y py] X.env).map (·.2) = assign (.Name y py) X.env :: (assignEach [] X.env).map (·.2) := by rfl) :
    PS X (.Assign [.Tuple [.Subscript o (.Constant (.int (k : Int)) kk p3) p1, .Name y py] kt pt] e pos) (tS fm W (gPot i k j fv)) :=
  PS.imp (ps_asg hv (pg_tup n.calm (pgs_cons (pg_sub ho hi set_list ha) (pgs_cons (pg_name n.nd hj hy hf) pgs_nil hs2) hs1) hn hst) hs hw h1) fun D σ H ⟨F, ω, ρ, S, q⟩ =>
    ⟨F, ω, ρ, S, fin_fl _ q fun F1 H1 ω1 ρ1 d E1 S1 q1 v hv => by
      split at q1
      rotate_left
      · exact q1.elim
      rename_i dx dy
      split at q1
      rotate_left
      · exact q1.elim
      rename_i xs h2
      split at q1
      rotate_left
      · exact q1.elim
      rename_i hz
      split at q1
      rotate_left
      · exact q1.elim
      rename_i ρ3 h3
      obtain ⟨T, vs, rfl, hT, r⟩ := rep_tup hv
      cases r with
      | cons rx r =>
        cases r with
        | cons ry r =>
          cases r
          rename_i vx vy
          obtain ⟨a', ws, e2, w2, ha2, r2⟩ := S1.lstAt h2
          obtain ⟨S3, E3⟩ := S1.putAt h2 e2 (RepL.set rx k r2)
          have A := S3.setFz (v := vy) ry h3
          refine ⟨T, [vx, vy], rfl, SqT.of (S1.sub _ _ hT), rfl, vx, [vy], rfl, _, e2, a', ws, (k : Int), k, rfl, rfl, ha2, ?_, vy, [], rfl, rfl, ?_⟩
          · have := ixn_nat (n := ws.length) (k := (k : Int)) (by omega) (by rw [r2.length]; simpa using hz)
            simpa using this
          · exact q1 _ _ _ _ ((E1.trans E3).trans A.E) A.S⟩
/-- what lies in a slot, taken as it is now -/
theorem o_fix (h : PE X e (tO fm W f)) : PE X e (tO fm W (mFix f)) :=
  PE.imp h fun σ H Q ⟨F, ω, ρ, S, h⟩ => by
    refine ⟨F, ω, ρ, S, ?_⟩
    unfold mFix at h
    revert h
    cases f ρ with
    | ex c d ρ2 => exact fun h => h
    | no => exact fun h => h
    | ok o ρ1 =>
      intro h F1 H1 ω1 E1 S1 v hv
      cases o with
      | val d => exact h F1 H1 ω1 E1 S1 v hv
      | tmp xs => exact h F1 H1 ω1 E1 S1 v hv
      | nm i =>
        have h : Fin fm W σ F H ω (((Opd.nm i).toV ρ1).bind fun d ρ => R.ok (Opd.val d) ρ) _ := h
        cases q : (Opd.nm i).toV ρ1 with
        | ok d ρ2 =>
          rw [q] at h
          obtain ⟨F', ω', E', S', r', _⟩ := toV_ok E1 S1 hv q
          exact h F' H1 ω' E' S' v r'
        | ex c d ρ2 => exact absurd q (by unfold Opd.toV; dsimp only; split <;> simp)
        | no => rw [q] at h; exact h.elim
end
end DL
namespace DL
open PySem PySem.Spec PyProof.Rows L2

/-! ### defs that may be called where no repr is under way -/
structure FnG (P : Program) (w : World) (K : PySem.W.Frag) (mg : Str → Option Value) (base : Heap) (CX : CXT) (k : Nat) (f : Addr) (fd : FuncData) (ps : List Str) (sp : Sp) : Prop where
  len : ∀ vs H Q E, sp vs H Q E → vs.length = ps.length
  run : ∀ (A : Around) (out : List Env) (s : Shared) (H : Hp) (args : Args) (us : List Value) (vs : List V) (Q : VK) (E : XK),
    A.guards = some [] → Room k A → Env0 P w K mg base A out s H → BindsTo s fd args (ps.zip us) → Vals vs us → sp vs H Q E →
      codeAny (model P w) A (.call (.ref f) args) (CR CX out P w H s Q E) s
theorem FnG.mono {P : Program} {w : World} {K : PySem.W.Frag} {mg : Str → Option Value} {base : Heap} {CX : CXT} {j k : Nat} {f : Addr} {fd : FuncData} {ps : List Str} {sp : Sp} (F : FnG P w K mg base CX j f fd ps sp) (h : j ≤ k) : FnG P w K mg base CX k f fd ps sp :=
  ⟨F.len, fun A out s H args us vs Q E hg hr => F.run A out s H args us vs Q E hg (hr.mono h)⟩
section
variable {X : Cx} {CX : CXT} {k n : Nat} {f C : Addr} {fd : FuncData} {ps ks : List Str} {sp : Sp} {E : XK} {x m : Str} {p pos apos : Pos} {e o : Expr} {es : List Expr} {kws : List Keyword} {ta : TE} {t tk : TA} {pins : List (Addr × Obj)} {σ : L2.St} {H : Hp} {s : Shared} {Q : VK} {us ws : List Value} {vs zs : List V}
/-- behind a callee's end -/
theorem call_end {r : Result} {s' : Shared} (hx : Passes CX X E) (I : Inv X pins σ H s) (hq : CR CX X.stack X.prog X.w H s Q E r s') :
    match r with
    | .ok (.ret u) => EP X pins σ Q u s'
    | .ok _ => False
    | .error e => X.xe e s' := by
  cases r with
  | error e => exact hx pins σ H s e s' I hq
  | ok fl => cases fl <;> first | exact I.after hq | exact hq
theorem g_run {args : Args} {all : List V} {vals : List Value} (F : FnG X.prog X.w X.K X.mg X.base CX k f fd ps sp) (hgd : X.A.guards = some []) (hr : Room k X.A) (hx : Passes CX X E) (I : Inv X pins σ H s) (hb : BindsTo s fd args (ps.zip vals)) (r : Vals all vals) (h : sp all H Q E) :
    wpAny (model X.prog X.w) X.A (call (.ref f) args.pos args.kw) (EP X pins σ Q) X.xe s :=
  wpAny_call (codeAny_mono (F.run X.A X.stack s H args vals all Q E hgd hr I.env0 hb r h) fun r s' hq => by
    have z := call_end hx I hq
    revert z
    cases r with
    | error e => exact fun z => z
    | ok fl => cases fl <;> exact fun z => z)
/-- f(..), no defaults -/
theorem g_call (F : FnG X.prog X.w X.K X.mg X.base CX k f fd ps sp) (hgd : X.A.guards = some []) (hr : Room k X.A) (hg : Gl X x) (hm : X.mg x = some (.ref f)) (hk : PySem.W.keepIn X.K (.ref f) = true) (hb : Binds X.K fd ps []) (hx : Passes CX X E) (ha : PA X (e :: es) t)
    (hdb : (x == ("__debug__" : Str)) = false := by decide)
    (he : starEach (e :: es) X.env = (false, eval e X.env) :: starEach es X.env := by rfl)
    (hpl : (backTo pos (starEach es X.env)).any (·.1) = false := by rfl) :
    PE X (.Call (.Name x p) (e :: es) [] pos) (tCall sp [] E t) := by
  refine ⟨fun pins s σ H Q I h => wpAny_Call_Name_kw (ld_glob I hg hm ?_ hdb)⟩
  refine PySem.W.callWith_K (h₀ := X.base) I.ok.mod.kin hk ?_ he hpl
  refine thn (ha.run pos pins s σ H _ I h) fun vals s1 ⟨all, H1, I1, r, q⟩ => ⟨I1.kIn, ?_⟩
  have q' : sp all H1 Q E := by simpa using q
  have hl : (vals ++ []).length = ps.length := by rw [List.append_nil, ← r.length]; exact F.len _ _ _ _ q'
  have hbt := hb s1 vals I1.kIn hl
  rw [List.append_nil] at hbt
  exact g_run (args := ⟨vals, []⟩) F hgd hr hx I1 hbt r q'
/-- f(.., k = v, ..), some positional -/
theorem g_callN {g : List Value → List Value → List Value} {gV : List V → List V → List V} (F : FnG X.prog X.w X.K X.mg X.base CX k f fd ps sp) (hgd : X.A.guards = some []) (hr : Room k X.A) (hg : Gl X x) (hm : X.mg x = some (.ref f)) (hk : PySem.W.keepIn X.K (.ref f) = true) (hb : KBn X.K fd ps n ks g gV) (hx : Passes CX X E)
    (ha : PA X (e :: es) t) (hkw : PK X kws tk) (hall : (backToKw pos (keywordEach kws X.env)).all (·.1.isSome) = true := by rfl)
    (hks : (backToKw pos (keywordEach kws X.env)).filterMap (·.1) = ks := by rfl) (hdb : (x == ("__debug__" : Str)) = false := by decide)
    (he : starEach (e :: es) X.env = (false, eval e X.env) :: starEach es X.env := by rfl)
    (hpl : ((backTo pos (starEach (e :: es) X.env)).any (·.1) || (backToKw pos (keywordEach kws X.env)).any (·.1.isNone)) = false := by rfl) : PE X (.Call (.Name x p) (e :: es) kws pos) (tCallN n ks.length sp gV E t tk) := by
  refine ⟨fun pins s σ H Q I h => wpAny_Call_Name_kw (ld_glob I hg hm ?_ hdb)⟩
  refine PySem.W.callWith_KW (h₀ := X.base) I.ok.mod.kin hk hall ?_ hpl he
  refine thn (ha.run pos pins s σ H _ I h) fun vals s1 ⟨all, H1, I1, r, q⟩ => ?_
  refine thn (hkw.run pos pins s1 σ H1 _ I1 q) fun wals s2 ⟨zll, H2, I2, rz, l1, l2, q2⟩ => ⟨I2.kIn, ?_⟩
  rw [hks]
  exact g_run (args := ⟨vals, ks.zip wals⟩) F hgd hr hx I2 (hb.to s2 vals wals I2.kIn (r.length.symm.trans l1) (rz.length.symm.trans l2)) (hb.rel r rz) q2
end
/-- a def by its body -/
theorem g_of {P : Program} {w : World} {K : PySem.W.Frag} {mg : Str → Option Value} {base : Heap} {x qual : Str} {st : Stmt} {f : Addr} {fd : FuncData} {N ps : List Str} {k : Nat} {sp : Sp} {dvs : List V} (F : FunD K x qual (defArgs st) (defBody st) (defScope st) dvs [] f fd) (S : FnScope N ps (defScope st))
    (len : ∀ vs H Q E, sp vs H Q E → vs.length = ps.length)
    (hbody : ∀ (cdv : Value) (A : Around) (out : List Env) (s : Shared) (H : Hp) (vs : List V) (Q : VK) (E : XK), A.guards = some [] → Room k (A.deeper (envOfC qual (defScope st) s.heap.objs.size f cdv)) → sp vs H Q E →
      ∃ t, PSs (cxOf CX0 P w K mg base N qual (defScope st) f cdv A out s H E).nox (defBody st) t ∧
        t { nx := fun _ H' => Q .non H', rt := Q } (start N vs) H) : FnG P w K mg base CX0 (k + 1) f fd ps sp := by
  obtain ⟨oc, od, dV, kV, doc, pm, an, cdv, ct, osl, rfl, lk, hcd, _, _⟩ := F.ex
  refine ⟨len, fun A out s H args us vs Q E hgd hr e0 hb r hsp => ?_⟩
  have hl := len _ _ _ _ hsp
  have kin : K.In s.heap := e0.mod.kin.keeps fun b o e => (e0.bs b o e).1
  have free : s.heap.NoLimit := e0.mod.nolimit.keeps fun b o e => (e0.bs b o e).1
  have kinds : ∀ y ∈ ps.zip us, (defScope st).names.lookup y.1 = some .local ∨
      ((defScope st).names.lookup y.1 = some .cell ∧ ((cellsFrom (s.heap.objs.size + 1) (defScope st).names []).lookup y.1).isSome = true) := fun ⟨z, v⟩ hy => by
    rcases S.par z (List.of_mem_zip hy).1 with q | q
    · exact .inl q
    · exact .inr ⟨q, PySem.W.cellsFrom_some _ _ _ (.inl q)⟩
  refine codeAny_call_function hr.depth (kin _ _ lk) rfl S.co S.gen rfl (PySem.W.codeRec_of kin hcd) (hb _ _ _ _ ?_)
  refine wpAny_newFunctionEnv_cells S.kind kinds fun env he s1 x1 => ?_
  subst he
  refine ⟨free.keeps x1.toInCall.keep, codeAny_func ?_⟩
  obtain ⟨t, ht, hq⟩ := hbody cdv A out s H vs Q E hgd (hr.deeper _) hsp
  have I := inv_start (CX := CX0) (E := E) (f := f) (cd := cdv) (qual := qual) S hr.hd e0 hl r x1
  refine wpAny_mono (ht.nox.run [] s1 (start N vs) H _ I hq) (fun fl s' hs => ?_) fun e s' hs => hs
  cases fl with
  | ret u => obtain ⟨v, σ', H', J, rv, q⟩ := hs; exact ⟨v, H', J.os, J.bare, J.base, J.hok, rv, q⟩
  | next => obtain ⟨σ', H', J, q⟩ := hs; exact ⟨V.non, H', J.os, J.bare, J.base, J.hok, rfl, q⟩
  | brk => obtain ⟨_, _, _, q⟩ := hs; exact q.elim
  | cont => obtain ⟨_, _, _, q⟩ := hs; exact q.elim
end DL
namespace DL
open PySem PySem.Spec PyProof.Rows L2

/-! ### defs by meanings -/
/-- a call's outcome: what comes back, and the first parameter's slot at the end -/
inductive Fo where
  | ok (r : RV) (s : Slot) | ex (c : Str) (ds : List D) (s : Slot) | no
/-- a def: the first argument's slot, the other arguments' values -/
abbrev Df := Slot → List D → Fo
def slot0 (ρ : Rho) : Slot := ρ.getD 0 .un
def Fl.out : Fl → Fo
  | .rt r ρ => .ok r (slot0 ρ)
  | .nx ρ => .ok (.fz .non) (slot0 ρ)
  | .ex c ds ρ => .ex c ds (slot0 ρ)
  | _ => .no
def fzs : List D → List Slot
  | [] => []
  | d :: r => .fz d :: fzs r
def frame (n : Nat) (s : Slot) (ds : List D) : Rho := s :: (fzs ds ++ List.replicate (n - (ds.length + 1)) .un)
/-- the body g, n names -/
def runG (n : Nat) (g : G) : Df := fun s ds => (g (frame n s ds)).out
section
variable (K : PySem.W.Frag) (mg : Str → Option Value)
/-- the first argument -/
def Arg0 (F H : Hp) (v : V) : Slot → Prop
  | .fz d => Rep K mg F v d
  | .ref xs => ∃ p vs, v = .ref p ∧ F p = none ∧ H p = some (.lst vs) ∧ RepL K mg F vs xs
  | .obj c fs => ∃ p C dx vs, v = .ref p ∧ F p = none ∧ mg c = some (.ref C) ∧ H p = some (.ins C dx vs) ∧ H dx = some (.own p) ∧ dx ≠ p ∧ RepF K mg F vs fs
  | _ => False
/-- whose object may change -/
def byRef (v : V) (s : Slot) (a : Addr) : Prop := v = .ref a ∧ s.mine = true
/-- what a def by the meaning m promises -/
def spG (m : Df) : Sp := fun vs H Q E => ∃ F v us s ds, vs = v :: us ∧ Sub F H ∧ Arg0 K mg F H v s ∧ RepL K mg F us ds ∧
  match m s ds with
  | .ok r s' => ∀ u F' H', Sub F F' → Sub F' H' → (∀ a o, H a = some o → ¬ byRef v s a → H' a = some o) → (∀ a o, F' a = some o → F a = some o ∨ H a = none) → (∀ a, H' a = none → H a = none) →
      (s.mine = true → Arg0 K mg F' H' v s' ∧ s'.mine = true) → RetOk ⟨K, mg, H⟩ F' H' u r → Q u H'
  | _ => False
end
section
variable {P : Program} {w : World} {K : PySem.W.Frag} {mg : Str → Option Value} {base : Heap} {x qual : Str} {st : Stmt} {f : Addr} {fd : FuncData} {N ps : List Str} {k : Nat} {m : Df} {g : G}
theorem start_cons {v : V} {us : List V} : start N (v :: us) = some v :: (us.map some ++ List.replicate (N.length - (us.length + 1)) none) := rfl
theorem fzs_get : ∀ {ds : List D} {i : Nat}, (fzs ds)[i]? = (ds[i]?).map Slot.fz
  | [], _ => rfl
  | d :: r, 0 => rfl
  | d :: r, i + 1 => by simp only [fzs, List.getElem?_cons_succ]; exact fzs_get
theorem fzs_len : ∀ {ds : List D}, (fzs ds).length = ds.length
  | [] => rfl
  | d :: r => by simp only [fzs, List.length_cons, fzs_len (ds := r)]
theorem frame_get {n : Nat} {s t : Slot} {ds : List D} {i : Nat} (h : (frame n s ds)[i]? = some t) : (i = 0 ∧ t = s) ∨ (∃ j d, i = j + 1 ∧ ds[j]? = some d ∧ t = .fz d) ∨ t = .un := by
  unfold frame at h
  cases i with
  | zero => cases h; exact .inl ⟨rfl, rfl⟩
  | succ j =>
    simp only [List.getElem?_cons_succ] at h
    by_cases hj : j < (fzs ds).length
    · rw [List.getElem?_append_left hj, fzs_get] at h
      cases e : ds[j]? with
      | none => rw [e] at h; cases h
      | some d => rw [e] at h; cases h; exact .inr (.inl ⟨j, d, rfl, e, rfl⟩)
    · rw [List.getElem?_append_right (by omega), List.getElem?_replicate] at h
      split at h
      · cases h; exact .inr (.inr rfl)
      · cases h
/-- the state at a def's entry -/
theorem Sta.entry {F H : Hp} {v : V} {us : List V} {s : Slot} {ds : List D} (hs : Sub F H) (h0 : Arg0 K mg F H v s) (r : RepL K mg F us ds) (hl : us.length + 1 ≤ N.length) :
    ∃ ω, Sta ⟨K, mg, H⟩ F H ω (start N (v :: us)) (frame N.length s ds) ∧ ∀ a, ω a ≠ none ↔ byRef v s a := by
  classical
  refine ⟨fun a => if byRef v s a then some 0 else none, ⟨hs, fun a i w => ?_, fun _ h => h, ?_, fun a i w => ?_, fun i t ht => ?_⟩, fun a => ?_⟩
  · try dsimp only at w
    split at w
    · rename_i h
      obtain ⟨rfl, hm⟩ := h
      cases s with
      | ref xs => obtain ⟨p, vs, e, h1, _⟩ := h0; cases e; exact h1
      | obj c fs => obtain ⟨p, C, dx, vs, e, h1, _⟩ := h0; cases e; exact h1
      | own xs => exact h0.elim
      | un => exact h0.elim
      | fz d => cases hm
    · cases w
  · rw [start_cons]
    simp only [frame, List.length_cons, List.length_append, fzs_len, List.length_replicate, List.length_map, r.length]
  · try dsimp only at w
    split at w
    · rename_i h
      cases w
      exact ⟨by rw [start_cons, h.1]; rfl, s, rfl, h.2⟩
    · cases w
  · rcases frame_get ht with ⟨rfl, rfl⟩ | ⟨j, d, rfl, hd, rfl⟩ | rfl
    · cases t with
      | fz d => exact ⟨v, rfl, h0⟩
      | ref xs =>
        obtain ⟨p, vs, rfl, h1, h2, h3⟩ := h0
        exact ⟨p, vs, rfl, if_pos ⟨rfl, rfl⟩, h2, h3⟩
      | obj c fs =>
        obtain ⟨p, C, dx, vs, rfl, h1, h2, h3, h4, h5, h6⟩ := h0
        exact ⟨p, C, dx, vs, rfl, if_pos ⟨rfl, rfl⟩, h2, h3, h4, if_neg (fun z => by have := z.1; cases this; exact h5 rfl), h6⟩
      | own xs => exact h0.elim
      | un => exact h0.elim
    · obtain ⟨u, hu, ru⟩ := r.getD hd
      refine ⟨u, ?_, ru⟩
      rw [start_cons, List.getElem?_cons_succ, List.getElem?_append_left (by simpa using (List.getElem?_eq_some_iff.mp hu).1), List.getElem?_map, hu]
      rfl
    · trivial
  · dsimp only
    split
    · rename_i h; simp [h]
    · rename_i h; simp [h]
theorem RetOk.to {K : PySem.W.Frag} {mg : Str → Option Value} {F H : Hp} {v : V} {r : RV} (h : RetOk ⟨K, mg, H⟩ F H v r) : RetOk ⟨K, mg, H⟩ F H v r := h
/-- THE RULE for a def -/
theorem fn_mean {dvs : List V} (F : FunD K x qual (defArgs st) (defBody st) (defScope st) dvs [] f fd) (S : FnScope N ps (defScope st)) (hN : ps.length ≤ N.length)
    (hlen : ∀ s ds, m s ds ≠ .no → ds.length + 1 = ps.length) (hm : ∀ s ds, ds.length + 1 = ps.length → m s ds = runG N.length g s ds)
    (hbody : ∀ (cdv : Value) (A : Around) (out : List Env) (s : Shared) (H : Hp), A.guards = some [] → Room k (A.deeper (envOfC qual (defScope st) s.heap.objs.size f cdv)) →
      PSs (cxOf CX0 P w K mg base N qual (defScope st) f cdv A out s H E0).nox (defBody st) (tS ⟨K, mg, H⟩ W0 g)) : FnG P w K mg base CX0 (k + 1) f fd ps (spG K mg m) := by
  have hlen' : ∀ vs H Q E, spG K mg m vs H Q E → vs.length = ps.length := by
    rintro vs H Q E ⟨F1, v, us, s, ds, rfl, _, _, r, q⟩
    have : m s ds ≠ .no := fun z => by rw [z] at q; exact q
    rw [List.length_cons, r.length]
    exact hlen s ds this
  refine g_of F S hlen' fun cdv A out s H vs Q E hgd hr hsp => ⟨_, hbody cdv A out s H hgd hr, ?_⟩
  have hl := hlen' _ _ _ _ hsp
  obtain ⟨F1, v, us, s0, ds, rfl, hs, h0, r, q⟩ := hsp
  have hl1 : us.length + 1 = ps.length := by simpa using hl
  obtain ⟨ω, S0, hω⟩ := Sta.entry (N := N) hs h0 r (by omega)
  refine ⟨F1, ω, _, S0, ?_⟩
  rw [hm s0 ds (by rw [← r.length]; exact hl1)] at q
  unfold runG at q
  have fin : ∀ {ρ' : Rho} {rv : RV} {u : V} {F' H' : Hp} {ω' : Om} {σ' : L2.St}, Ext ⟨K, mg, H⟩ F1 H ω F' H' ω' → Sta ⟨K, mg, H⟩ F' H' ω' σ' ρ' → RetOk ⟨K, mg, H⟩ F' H' u rv →
      (∀ u F' H', Sub F1 F' → Sub F' H' → (∀ a o, H a = some o → ¬ byRef v s0 a → H' a = some o) → (∀ a o, F' a = some o → F1 a = some o ∨ H a = none) → (∀ a, H' a = none → H a = none) →
        (s0.mine = true → Arg0 K mg F' H' v (slot0 ρ') ∧ (slot0 ρ').mine = true) → RetOk ⟨K, mg, H⟩ F' H' u rv → Q u H') → Q u H' := by
    intro ρ' rv u F' H' ω' σ' E' S' hr' hq
    have own0 : ∀ a, byRef v s0 a → ω' a = some 0 ∧ H a ≠ none := fun a ha => by
      have hne : ω a ≠ none := (hω a).mpr ha
      obtain ⟨i, wi⟩ := Option.ne_none_iff_exists'.mp hne
      obtain ⟨o, ho⟩ := S0.hsome wi
      have h2 : H a ≠ none := by rw [ho]; simp
      have hi : i = 0 := by
        obtain ⟨_, t, ht, hm⟩ := S0.own a i wi
        rcases frame_get ht with ⟨rfl, _⟩ | ⟨j, d, _, _, rfl⟩ | rfl
        · rfl
        · cases hm
        · cases hm
      subst hi
      exact ⟨E'.lk a 0 wi h2, h2⟩
    refine hq u F' H' E'.inc S'.sub (fun a o ho hn => E'.pres a o ho ?_) (fun a o ho => ?_) E'.there (fun hm0 => ?_) hr'
    · cases e : ω a with
      | none => rfl
      | some i => exact absurd ((hω a).mp (by rw [e]; simp)) hn
    · rcases E'.fr a o ho with z | z | z
      · exact .inl z
      · exact .inr z
      · have := own0 a ((hω a).mp z)
        rw [S'.sep a 0 this.1] at ho; cases ho
    · have hp : ∃ p, v = .ref p := by
        cases s0 with
        | ref xs => obtain ⟨p, vs, e, _⟩ := h0; exact ⟨p, e⟩
        | obj c fs => obtain ⟨p, C, dx, vs, e, _⟩ := h0; exact ⟨p, e⟩
        | own xs => exact h0.elim
        | un => exact h0.elim
        | fz d => cases hm0
      obtain ⟨p, rfl⟩ := hp
      obtain ⟨wp, hp0⟩ := own0 p ⟨rfl, hm0⟩
      obtain ⟨e1, t, ht, htm⟩ := S'.own p 0 wp
      have es : slot0 ρ' = t := by
        unfold slot0
        rw [List.getD_eq_getElem?_getD, ht]
        rfl
      rw [es]
      refine ⟨?_, htm⟩
      have sl := S'.slot 0 t ht
      cases t with
      | un => cases htm
      | fz d => cases htm
      | own xs =>
        obtain ⟨a, vs, q1, _, q2, _⟩ := sl
        rw [e1] at q1; cases q1
        exact absurd q2 hp0
      | ref xs =>
        obtain ⟨a, vs, q1, q2, q3, q4⟩ := sl
        rw [e1] at q1; cases q1
        exact ⟨p, vs, rfl, S'.sep p 0 wp, q3, q4⟩
      | obj c fs =>
        obtain ⟨a, C, dx, vs, q1, q2, q3, q4, q5, q6, q7⟩ := sl
        rw [e1] at q1; cases q1
        exact ⟨p, C, dx, vs, rfl, S'.sep p 0 wp, q3, q4, q5, (fun z => by subst z; rw [wp] at q6; cases q6), q7⟩
  revert q
  cases g (frame N.length s0 ds) with
  | nx ρ' => exact fun q F' H' ω' σ' E' S' => fin (rv := .fz .non) E' S' (show Rep K mg F' .non .non from .non) q
  | rt rv ρ' => exact fun q F' H' ω' σ' u E' S' hr' => fin E' S' hr' q
  | bk ρ' => exact fun q => False.elim q
  | ct ρ' => exact fun q => False.elim q
  | ex c as ρ' => exact fun q => q.elim
  | no => exact fun q => q
end
end DL
namespace DL
open PySem PySem.Spec PyProof.Rows L2

/-! ### calls of defs -/
def RV.opd : RV → Opd
  | .fz d => .val d
  | .own xs => .tmp xs
def mCall (m : Df) (fs : M (List D)) : M Opd := fun ρ => (fs ρ).bind fun ds ρ1 => match ds with
  | d :: r => match m (.fz d) r with
    | .ok x _ => .ok x.opd ρ1
    | _ => .no
  | [] => .no
/-- the first argument is the list of the slot i, by reference -/
def mCallR (m : Df) (i : Nat) (fs : M (List D)) : M Opd := fun ρ => match itemsAt ρ i with
  | none => .no
  | some _ => (fs ρ).bind fun ds ρ1 => match itemsAt ρ1 i with
    | none => .no
    | some xs => match m (.ref xs) ds with
      | .ok x (.ref ys) => .ok x.opd (putAt ρ1 i ys)
      | _ => .no
/-- where a call may stand -/
structure In (X : Cx) (k : Nat) : Prop where
  gd : X.A.guards = some []
  rm : Room k X.A
/-- a def of the text, known by its meaning -/
structure Kn (P : Program) (w : World) (K : PySem.W.Frag) (mg : Str → Option Value) (base : Heap) (x : Str) (k : Nat) (m : Df) : Prop where
  ex : ∃ f fd ps, mg x = some (.ref f) ∧ PySem.W.keepIn K (.ref f) = true ∧ Binds K fd ps [] ∧ FnG P w K mg base CX0 k f fd ps (spG K mg m)
section
variable {X : Cx} {fm : Fm} {W : WX} {F H F1 H1 F' H' : Hp} {ω ω1 : Om} {σ : L2.St} {ρ ρ1 : Rho} {i k : Nat} {v : V} {m : Df} {r : RV} {s s' : Slot}
theorem ret_opd {Hs : Hp} (S : Sta fm F1 H1 ω1 σ ρ1) (hs : ∀ a, H1 a = none → Hs a = none) (h : RetOk ⟨fm.K, fm.mg, H1⟩ F' H' v r) : OpdOk fm Hs F' H' ω1 σ v r.opd := by
  cases r with
  | fz d => exact h
  | own xs =>
    obtain ⟨a, vs, rfl, h1, h2, h3, h4⟩ := h
    exact ⟨a, vs, rfl, h1, S.onone h2, hs a h2, h3, h4⟩
/-- the state behind a call whose arguments are all shared -/
theorem call_sta (S : Sta fm F1 H1 ω1 σ ρ1) (h1 : Sub F1 F') (h2 : Sub F' H') (h3 : ∀ a o, H1 a = some o → H' a = some o) (h4 : ∀ a o, F' a = some o → F1 a = some o ∨ H1 a = none) (h5 : ∀ a, H' a = none → H1 a = none) : Sta fm F' H' ω1 σ ρ1 ∧ Ext fm F1 H1 ω1 F' H' ω1 := by
  refine ⟨S.grow h1 h2 h3 fun a i w => ?_, ⟨h1, fun a o ho _ => h3 a o ho, fun a o ho => (h4 a o ho).elim .inl fun z => .inr (.inl z), fun a h => .inl h, fun _ _ h _ => h, h5⟩⟩
  cases e : F' a with
  | none => rfl
  | some o =>
    rcases h4 a o e with z | z
    · rw [S.sep a i w] at z; cases z
    · obtain ⟨u, hu⟩ := S.hsome w; rw [hu] at z; cases z
theorem call_imp {fs : M (List D)} {E : XK} {Q : VK} (h : tO fm W (mCall m fs) σ H Q) : tCall (spG fm.K fm.mg m) [] E (tVs fm W fs) σ H Q := by
  obtain ⟨F, ω, ρ, S, h⟩ := h
  refine ⟨F, ω, ρ, S, h.bind.imp fun F1 H1 ω1 ρ1 ds E1 S1 ⟨_, q, _⟩ vs hv => ?_⟩
  cases hv with
  | nil => exact q.elim
  | @cons v us d ds r0 rr =>
    rw [List.append_nil]
    refine ⟨F1, v, us, .fz d, ds, rfl, S1.sub, r0, rr, ?_⟩
    revert q
    show Fin fm W σ F1 H1 ω1 (match m (.fz d) ds with | .ok x _ => .ok x.opd ρ1 | _ => .no) _ → _
    cases m (.fz d) ds with
    | ok x s' =>
      intro q u F' H' g1 g2 g3 g4 g5 _ g6
      obtain ⟨S2, E2⟩ := call_sta S1 g1 g2 (fun a o ho => g3 a o ho fun z => by cases z.2) g4 g5
      exact q F' H' ω1 E2 S2 u (ret_opd S1 E1.there g6)
    | ex c ds s' => exact fun q => False.elim q
    | no => exact fun q => False.elim q
theorem upd_back {H : Hp} {p : Addr} {o o' : HO} (h : H p = some o) : upd (upd H p o') p o = H := by
  funext a
  by_cases e : a = p
  · subst e; rw [upd_same, h]
  · rw [upd_ne e, upd_ne e]
theorem callR_imp {fs : M (List D)} {E : XK} {Q : VK} (h : tO fm W (mCallR m i fs) σ H Q) : tCall (spG fm.K fm.mg m) [] E (tCons (tVar i) (tVs fm W fs)) σ H Q := by
  obtain ⟨F, ω, ρ, S, h⟩ := h
  unfold mCallR at h
  split at h
  · exact h.elim
  rename_i xs0 h0
  obtain ⟨p, _, e1, w1, _⟩ := S.lstAt h0
  refine ⟨_, e1, F, ω, ρ, S, h.bind.imp fun F1 H1 ω1 ρ1 ds E1 S1 ⟨_, q, _⟩ us hv => ?_⟩
  split at q
  · exact q.elim
  rename_i xs hxs
  obtain ⟨p', vs, e2, w2, hp, rv⟩ := S1.lstAt hxs
  rw [e1] at e2; cases e2
  rw [List.append_nil]
  refine ⟨F1, .ref p, us, .ref xs, ds, rfl, S1.sub, ⟨p, vs, rfl, S1.sep p i w2, hp, rv⟩, hv, ?_⟩
  revert q
  cases m (.ref xs) ds with
  | ok x s' =>
    intro q u F' H' g1 g2 g3 g4 g5 g7 g6
    have z := g7 rfl
    cases s' with
    | ref ys =>
      obtain ⟨p', ws, e3, hf, hp', rw'⟩ := z.1
      cases e3
      have q : Fin fm W σ F1 H1 ω1 (.ok x.opd (putAt ρ1 i ys)) _ := q
      have hs2 : Sub F' (upd H' p (.lst vs)) := fun a o ho => by rw [upd_ne (ne_of_none ho hf)]; exact g2 a o ho
      obtain ⟨S2, E2⟩ := call_sta S1 g1 hs2 (fun a o ho => by
        by_cases e : a = p
        · subst e; rw [hp] at ho; cases ho; exact upd_same
        · rw [upd_ne e]; exact g3 a o ho fun z => by have := z.1; cases this; exact e rfl) g4 (fun a ha => by
        by_cases e : a = p
        · subst e; rw [upd_same] at ha; cases ha
        · rw [upd_ne e] at ha; exact g5 a ha)
      obtain ⟨S3, E3⟩ := S2.putAt hxs e1 rw'
      rw [upd_back hp'] at S3 E3
      exact q F' H' ω1 (E2.trans E3) S3 u (ret_opd S1 E1.there g6)
    | un => cases z.2
    | fz d => cases z.2
    | own ys => exact z.1.elim
    | obj c fs => exact q.elim
  | ex c ds s' => exact fun q => False.elim q
  | no => exact fun q => False.elim q
variable {x : Str} {p pos : Pos} {e : Expr} {es : List Expr} {fs : M (List D)}
theorem vs_of {es : List Expr} (h : PA X es (tVs fm W fs)) : PA X es (tVs fm W fs) := h
theorem o_callD (n : On X fm) (c : In X k) (C : Kn X.prog X.w X.K X.mg X.base x k m) (ha : PA X (e :: es) (tVs fm W fs)) (hg : Gl X x := by rfl) (hdb : (x == ("__debug__" : Str)) = false := by decide)
    (he : starEach (e :: es) X.env = (false, eval e X.env) :: starEach es X.env := by rfl) (hpl : (backTo pos (starEach es X.env)).any (·.1) = false := by rfl) : PE X (.Call (.Name x p) (e :: es) [] pos) (tO fm W (mCall m fs)) := by
  obtain ⟨f, fd, ps, h1, h2, h3, h4⟩ := C.ex
  exact PE.imp (g_call h4 c.gd c.rm hg h1 h2 h3 pass0 ha hdb he hpl) fun σ H Q q => by
    have := call_imp (E := E0) q
    rwa [n.K, n.mg] at this
theorem o_callR (n : On X fm) (c : In X k) (i : Nat) (C : Kn X.prog X.w X.K X.mg X.base x k m) (hr : PE X e (tVar i)) (ha : PA X es (tVs fm W fs)) (hg : Gl X x := by rfl) (hdb : (x == ("__debug__" : Str)) = false := by decide)
    (he : starEach (e :: es) X.env = (false, eval e X.env) :: starEach es X.env := by rfl) (hpl : (backTo pos (starEach es X.env)).any (·.1) = false := by rfl) : PE X (.Call (.Name x p) (e :: es) [] pos) (tO fm W (mCallR m i fs)) := by
  obtain ⟨f, fd, ps, h1, h2, h3, h4⟩ := C.ex
  exact PE.imp (g_call h4 c.gd c.rm hg h1 h2 h3 pass0 (pa_cons hr ha he) hdb he hpl) fun σ H Q q => by
    have := callR_imp (E := E0) q
    rwa [n.K, n.mg] at this
end
end DL
namespace DL
open PySem PySem.Calls PyProof.Rows PySem.W
section
variable {prog : Program} {w : World} {A : Around} {E : Value → Shared → Prop} {s : Shared}
/-- a list or a tuple is collected -/
theorem collect_seq {l : Addr} {o : Obj} {T : String} {n : Nat} {vs : List Value} {Q : List Value → Shared → Prop} (ho : s.heap.get? l = some o) (hc : o.cls = .type T) (hT : T = "list" ∨ T = "tuple") (hd : o.data = .seq vs.toArray n) (hz : vs.length ≤ sizeLine)
    (h : Q vs { s with heap := (s.heap.push (seqObj "list" #[] 0)).update s.heap.objs.size (Obj.mapSeq (· ++ vs.toArray)) }) : wpAny (model prog w) A (collect (.ref l)) Q E s := by
  unfold collect
  refine wpAny_bind (wpAny_runValue (codeAny_builtin entry_proto_collect' ?_))
  show wpAny _ _ (do again (.builtin "list.__iadd__" ⟨[← newList [], .ref l], []⟩)) _ _ s
  refine wpAny_bind (wpAny_newList
    (wpAny_pure ⟨Code.quiet_builtin _ (by decide +kernel), codeAny_builtin entry_list_iadd' ?_⟩))
  show wpAny _ _ (Builtin.List.listExtendWith (.ref s.heap.objs.size) (.ref l) (.ref s.heap.objs.size)) _ _
    { s with heap := s.heap.push (seqObj "list" #[] 0) }
  unfold Builtin.List.listExtendWith
  have ho1 : (s.heap.push (seqObj "list" #[] 0)).get? l = some o := Heap.get?_push_of_some _ ho
  refine wpAny_bind (wpAny_typeOf (T := T) ⟨o, ho1, hc⟩ ?_)
  rw [if_pos (by rcases hT with rfl | rfl <;> simp)]
  refine wpAny_bind (listItems_at ho1 hd ?_)
  refine wpAny_bind (listItems_at (xs := #[]) (n := 0)
    (Heap.get?_push_size _ rfl) rfl ?_)
  rw [if_neg (by simp)]
  refine wpAny_bind (listUpdate_at (xs := #[]) (n := 0) (Heap.get?_push_size _ rfl) rfl ?_ (Nat.zero_le _)
    (by show (#[] ++ vs.toArray).size ≤ sizeLine + 1; simp only [Array.size_append, List.size_toArray, List.length_nil]; omega))
  refine wpAny_pure ?_
  show wpAny (model prog w) A (do let o ← load s.heap.objs.size; match o.data with | .seq xs _ => pure xs.toList | _ => unsupported "internal:collect") Q E
    { s with heap := (s.heap.push (seqObj "list" #[] 0)).update s.heap.objs.size (Obj.mapSeq (· ++ vs.toArray)) }
  refine wpAny_bind (wpAny_load
    (get?_update_seq (Heap.get?_push_size _ rfl) _) ?_)
  show wpAny _ _ (pure ((#[] : Array Value) ++ vs.toArray).toList) Q E _
  have e : ((#[] : Array Value) ++ vs.toArray).toList = vs := by simp
  rw [e]; exact wpAny_pure h
theorem sorted_seq {β : Type} {bs : List β} {enc : β → PyData} {R : Value → β → Prop} {l : Addr} {o : Obj} {T : String} {n : Nat} {vs : List Value} {Q : Value → Shared → Prop} (ho : s.heap.get? l = some o) (hc : o.cls = .type T) (hT : T = "list" ∨ T = "tuple") (hd : o.data = .seq vs.toArray n) (e : EachIs R vs bs)
    (er : EachIs (fun v b => ∃ as, Reads s.heap v (enc b) as) vs bs) (hal : AllAlike (bs.map enc)) (hk : Sortable (bs.map enc)) (hL : bs.length ≤ sizeLine) (hu : ∀ b, b ∈ bs → A.units + 2 + (enc b).depth < cLine)
    (h : ∀ out, out.length = bs.length → EachIs R out (bs.mergeSort (dataLe false enc)) → Q (.ref (s.heap.objs.size + 1)) { s with heap := sortedAll s.heap vs (List.toArray out) }) :
    wpAny (model prog w) A (call (.builtin "sorted") [.ref l]) Q E s := by
  have hL' : vs.length ≤ sizeLine := by rw [e.length]; exact hL
  refine call_function_entry_kw kind_sorted plain_sorted entry_sorted (args_sorted1 _) ?_
  unfold Builtin.«sorted»
  refine wpAny_bind (m := checkCount "sorted" 1 1 _) (wpAny_pure ?_)
  refine wpAny_bind (collect_seq ho hc hT hd hL' ?_)
  refine wpAny_bind (wpAny_newList ?_ hL')
  have hsz : ((s.heap.push (seqObj "list" #[] 0)).update s.heap.objs.size (Obj.mapSeq (· ++ vs.toArray))).objs.size
      = s.heap.objs.size + 1 := by rw [Heap.size_update, size_push']
  show wpAny _ _ _ _ _ { s with heap := copyHeap s.heap vs }
  rw [hsz]
  refine wpAny_bind (wpAny_holding (wpAny_call_entry_kw slot_list_sort ⟨_, copyHeap_at s.heap vs, rfl⟩ entry_list_sort ?body (args_list_sort _)))
  case body =>
    show wpAny (model prog w) A.in1.in1 (Builtin.«list.sort» ⟨[.ref (s.heap.objs.size + 1)], []⟩) _ _ _
    have er' : EachIs (fun v b => ∃ as, Reads (sortingHeap (copyHeap s.heap vs) (s.heap.objs.size + 1) vs) v (enc b) as) vs bs :=
      er.mono fun _ _ ⟨as, r⟩ => ⟨as, PyProof.Rows.Reads.keeps (fun _ _ => sorting_copy_old) r⟩
    refine list_sort_vals (s := { s with heap := copyHeap s.heap vs }) (copyHeap_at s.heap vs)
      (SortsAt.data (s := { s with heap := sortingHeap (copyHeap s.heap vs) (s.heap.objs.size + 1) vs }) (each_map (R := fun v d => ∃ as, Reads (sortingHeap (copyHeap s.heap vs) (s.heap.objs.size + 1) vs) v d as) enc er') hal hk (bound_map hu)) hL' ?_
    exact ⟨_, rfl, wpAny_pure ⟨_, rfl, h _ (by rw [sortVals_length false rfl]; exact e.length) (sortVals_data false e er' hal)⟩⟩
end
open PySem.Spec L2
/-! ### sorted -/
def encD (d : D) : PyData := (toPy d).getD .none
/-- what may be sorted -/
def SortOk (xs : List D) : Prop := (∀ x ∈ xs, (toPy x).isSome = true) ∧ AllAlike (xs.map encD) ∧ Sortable (xs.map encD) ∧ (∀ x ∈ xs, (encD x).depth < 40) ∧ xs.length ≤ 1000000
open Classical in
noncomputable def bSorted : List D → Option Opd
  | [.lst xs] => if SortOk xs then some (.tmp (xs.mergeSort (dataLe false encD))) else none
  | [.tup xs] => if SortOk xs then some (.tmp (xs.mergeSort (dataLe false encD))) else none
  | _ => none
def rSortD (fm : Fm) : List V → Hp → VK → Prop := fun vs H Q => ∃ (F : Hp) (a : Addr) (us : List V) (xs : List D), vs = [V.ref a] ∧ (SqL fm.K H a us ∨ SqT fm.K H a us) ∧ Sub F H ∧ RepL fm.K fm.mg F us xs ∧ SortOk xs ∧
  ∀ (ws : List V) (p : Addr), RepL fm.K fm.mg F ws (xs.mergeSort (dataLe false encD)) → H p = none → Q (.ref p) (upd H p (.lst ws))
section
variable {X : Cx} {fm : Fm} {W : WX}
/-- the value u stands for v, and v for d -/
def Both (fm : Fm) (F : Hp) (u : Value) (d : D) : Prop := ∃ v, RelV v u ∧ Rep fm.K fm.mg F v d
theorem both_of {F : Hp} : ∀ {vs : List V} {us : List Value} {ds : List D}, Vals vs us → RepL fm.K fm.mg F vs ds → EachIs (Both fm F) us ds
  | _, _, _, .nil, .nil => .nil
  | _, _, _, .cons r rs, .cons q qs => .cons ⟨_, r, q⟩ (both_of rs qs)
theorem of_both {F : Hp} : ∀ {us : List Value} {ds : List D}, EachIs (Both fm F) us ds → ∃ vs, Vals vs us ∧ RepL fm.K fm.mg F vs ds
  | _, _, .nil => ⟨[], .nil, .nil⟩
  | _, _, .cons ⟨v, r, q⟩ rest => by
    obtain ⟨vs, h1, h2⟩ := of_both rest
    exact ⟨v :: vs, .cons r h1, .cons q h2⟩
theorem both_reads {pins : List (Addr × Obj)} {σ : L2.St} {H F : Hp} {s : Shared} (n : On X fm) (I : Inv X pins σ H s) (hs : Sub F H) : ∀ {vs : List V} {us : List Value} {ds : List D}, Vals vs us → RepL fm.K fm.mg F vs ds → (∀ x ∈ ds, (toPy x).isSome = true) → EachIs (fun u d => ∃ as, Reads s.heap u (encD d) as) us ds
  | _, _, _, .nil, .nil, _ => .nil
  | _, _, _, .cons r rs, .cons (d := d) q qs, hd => by
    refine .cons ?_ (both_reads n I hs rs qs fun x hx => hd x (List.mem_cons_of_mem _ hx))
    obtain ⟨p, hp⟩ := Option.isSome_iff_exists.mp (hd d List.mem_cons_self)
    have e : encD d = p := by unfold encD; rw [hp]; rfl
    rw [e]
    have := rep_dp hs q hp
    rw [n.K] at this
    exact Dp.reads I p _ _ this r
theorem cr_sortD (n : On X fm) : CallR X (.builtin "sorted") (rSortD fm) := by
  intro pins s σ H vs us Q I r h
  obtain ⟨F, a, ws, xs, rfl, hq, hs, hr, hok, q⟩ := h
  obtain ⟨h1, h2, h3, h4, h5⟩ := hok
  rw [Vals.ref1 r]
  have fin : ∀ (its : List Value), Vals ws its → (∃ o T k, s.heap.get? a = some o ∧ o.cls = .type T ∧ (T = "list" ∨ T = "tuple") ∧ o.data = .seq its.toArray k) → wpAny (model X.prog X.w) X.A (call (.builtin "sorted") [.ref a]) (EP X pins σ Q) X.xe s := by
    rintro its rv ⟨o, T, k, ho, hc, hT, hd⟩
    refine sorted_seq ho hc hT hd (both_of rv hr) (both_reads n I hs rv hr h1) h2 h3 (Nat.le_trans h5 (by decide)) (fun b hb => ?_) fun out hl he => ?_
    · have := h4 b hb; have := n.un; omega
    · obtain ⟨vs', v1, v2⟩ := of_both he
      obtain ⟨ep, he'⟩ := PyProof.Rows.sortedAll_at s.heap its out.toArray
      have hlen : vs'.length ≤ sizeLine := by
        rw [v2.length, List.length_mergeSort]
        exact Nat.le_trans h5 (by decide)
      exact ⟨.ref _, upd H (s.heap.objs.size + 1) (.lst vs'), I.laid (t' := s.toks) (fun _ _ => PyProof.Rows.sortedAll_old) (Nat.le_succ _) ⟨hlen, out, ep, v1, he'⟩, rfl, q _ _ v2 (I.hok.fresh (Nat.le_succ _))⟩
  rcases hq with hq | hq
  · rw [n.K] at hq
    obtain ⟨its, rv, hl, hz⟩ := I.list hq
    obtain ⟨o, ho, hc, k, hd⟩ := hl.isList
    exact fin its rv ⟨o, _, k, ho, hc, .inl rfl, hd⟩
  · rw [n.K] at hq
    obtain ⟨its, rv, hl, hz⟩ := I.tuple hq
    obtain ⟨o, ho, hc, k, hd⟩ := show s.heap.IsTuple a its.toArray from hl
    exact fin its rv ⟨o, _, k, ho, hc, .inr rfl, hd⟩
end
end DL
namespace DL
open PySem PySem.Spec PyProof.Rows L2
section
variable {X : Cx} {fm : Fm} {W : WX} {e a b c o : Expr} {es : List Expr} {f g h : M Opd} {fs : M (List Opd)} {t u : M Bool} {pos p pos' : Pos} {i : Nat} {x : Str} {st : Stmt}
/-! ### sorted -/
theorem o_sorted (n : On X fm) (hm : X.mg "sorted" = none) (ha : PA X (a :: es) (tOs fm W fs)) (hg : Gl X "sorted" := by rfl)
    (he : starEach (a :: es) X.env = (false, eval a X.env) :: starEach es X.env := by rfl)
    (hpl : (backTo pos (starEach es X.env)).any (·.1) = false := by rfl) :
    PE X (.Call (.Name "sorted" p) (a :: es) [] pos) (tO fm W (mB bSorted fs)) := o_call (fun ha => pe_callB (cr_sortD n) hg hm (by decide +kernel) ha (he := he) (hpl := hpl)) (fun F H ω σ ρ vs ds o Q S hv e k => by
  unfold bSorted at e
  have fin : ∀ {xs : List D} {a : Addr} {us : List V}, vs = [V.ref a] → (SqL fm.K H a us ∨ SqT fm.K H a us) → RepL fm.K fm.mg F us xs → SortOk xs → o = .tmp (xs.mergeSort (PySem.W.dataLe false encD)) → rSortD fm vs H Q := by
    rintro xs a us rfl h1 h2 h3 rfl
    exact ⟨F, a, us, xs, rfl, h1, S.sub, h2, h3, fun ws p hw hp => k F _ _ (Ext.new hp) (S.new hp) ⟨p, ws, rfl, S.fnone hp, S.onone hp, hp, upd_same, hw⟩⟩
  split at e
  · split at e
    · rename_i hok
      cases e
      cases hv with
      | cons h1 h2 =>
        cases h2
        obtain ⟨a, us, rfl, h1, h2⟩ := repT_lst S h1
        exact fin rfl (.inl (SqL.of h1)) h2 hok rfl
    · cases e
  · split at e
    · rename_i hok
      cases e
      cases hv with
      | cons h1 h2 =>
        cases h2
        obtain ⟨a, us, rfl, _, h1, h2⟩ := repT_tup S h1
        exact fin rfl (.inr (SqT.of h1)) h2 hok rfl
    · cases e
  · cases e) ha
/-! ### a < b < c -/
theorem chain_imp {op op' : D → D → Option Opd} {r r' : R2} (hd : OpD fm op r) (hd' : OpD fm op' r') {σ : L2.St} {H : Hp} {Q : VK} (q : tO fm W (mChain op op' f g h) σ H Q) : tChain r r' (tO fm W f) (tO fm W g) (tO fm W h) σ H Q := by
  obtain ⟨F, ω, ρ, S, q⟩ := q
  refine ⟨F, ω, ρ, S, q.bind.imp fun F1 H1 ω1 ρ1 oa E1 S1 ⟨_, h1, _⟩ v hv => ?_⟩
  refine ⟨F1, ω1, ρ1, S1, h1.bind.imp fun F2 H2 ω2 ρ2 ob E2 S2 ⟨_, h2, _⟩ u hu => ?_⟩
  obtain ⟨k, eo, h3⟩ := of_some (show Fin fm W σ F2 H2 ω2 (R.of _ ρ2) _ from h2.bind)
  simp only [Option.bind_eq_some_iff] at eo
  obtain ⟨x, ex, y, ey, o, eo, d, ed, ek⟩ := eo
  refine hd F2 H2 ω2 σ ρ2 v u x y o _ S2 ((hv.ext E2).get S2 ex) (hu.get S2 ey) eo fun F3 H3 w E3 S3 hw => ?_
  obtain ⟨_, h4, _⟩ := h3 F3 H3 ω2 E3 S3
  have hu3 := hu.ext E3
  cases d <;> cases ek
  refine ⟨_, repT_bl (hw.get S3 ed), ?_⟩
  cases k with
  | false =>
    show (if false = true then _ else _)
    rw [if_neg Bool.false_ne_true]
    exact h4 F3 H3 ω2 .refl S3 _ (.bl false)
  | true =>
    show (if true = true then _ else _)
    rw [if_pos rfl]
    refine ⟨F3, ω2, ρ2, S3, Fin.imp (Fin.bind h4) fun F4 H4 ω4 ρ4 oc E4 S4 ⟨_, h5, _⟩ z hz => ?_⟩
    obtain ⟨o2, eo2, h6⟩ := of_some h5
    simp only [Option.bind_eq_some_iff] at eo2
    obtain ⟨y', ey', z', ez', eo2⟩ := eo2
    exact hd' F4 H4 ω4 σ ρ4 u z y' z' o2 Q S4 ((hu3.ext E4).get S4 ey') (hz.get S4 ez') eo2 fun F' H' w' E' S' hw' => h6 F' H' ω4 E' S' w' (hw'.back (((E1.trans E2).trans E3).trans E4).there)
theorem o_chain {op op' : D → D → Option Opd} {r r' : R2} {c1 c2 : CmpOp} (ho : OpR X (compareOp c1) r) (ho' : OpR X (compareOp c2) r') (hd : OpD fm op r) (hd' : OpD fm op' r') (ha : PE X a (tO fm W f)) (hb : PE X b (tO fm W g)) (hc : PE X c (tO fm W h))
    (hm : lastMarks [c1, c2] [b, c] = false := by with_unfolding_all rfl) : PE X (.Compare a [c1, c2] [b, c] pos) (tO fm W (mChain op op' f g h)) :=
  PE.imp (pe_chain ho ho' ha hb hc hm) fun _ _ _ q => chain_imp hd hd' q
theorem o_chLeLt (ha : PE X a (tO fm W f)) (hb : PE X b (tO fm W g)) (hc : PE X c (tO fm W h)) (hm : lastMarks [.LtE, .Lt] [b, c] = false := by with_unfolding_all rfl) : PE X (.Compare a [.LtE, .Lt] [b, c] pos) (tO fm W (mChain sLe sLt f g h)) := o_chain op_le op_lt od_le od_lt ha hb hc hm
end
/-! ### the object that __init__ fills -/
def mFldO (i : Nat) (c f : Str) : M Opd := fun ρ => match ρ[i]? with
  | some (.obj c' fs) => if c' = c then match fs.lookup f with
      | some d => .ok (.val d) ρ
      | none => .no
    else .no
  | _ => .no
def putD (f : Str) (d : D) : List (Str × D) → List (Str × D)
  | [] => [(f, d)]
  | (g, x) :: r => if g = f then (g, d) :: r else (g, x) :: putD f d r
def gFldO (i : Nat) (c f : Str) (fv : M D) : G := fun ρ => (fv ρ).fl fun d ρ1 => match ρ1[i]? with
  | some (.obj c' fs) => if c' = c ∧ fs.length < 100 then .nx (ρ1.set i (.obj c (putD f d fs))) else .no
  | _ => .no
section
variable {X : Cx} {fm : Fm} {W : WX} {e a b c o : Expr} {es : List Expr} {f g h : M Opd} {fv : M DL.D} {t u : M Bool} {pos p pos' : Pos} {i : Nat} {x : Str} {F H : Hp} {ω : Om} {σ : L2.St} {ρ : Rho}
theorem o_fldO (n : On X fm) (i : Nat) (c fN : Str) (hc : ∀ C, X.mg c = some (.ref C) → Cls X.K C ∧ NoAttr X.K C fN) (hr : PE X a (tVar i)) (hb : attributeBase a fN X.env (eval a X.env) = eval a X.env := by rfl) :
    PE X (.Attribute a fN pos) (tO fm W (mFldO i c fN)) :=
  PE.imp (pe_fld hr hb) fun σ H Q ⟨F, ω, ρ, S, q⟩ => by
    unfold mFldO at q
    split at q
    · rename_i c' fs h1
      split at q
      · rename_i hc'; subst hc'
        split at q
        · rename_i d h2
          obtain ⟨a, C, dx, vs, e1, _, e2, e3, _, _, e4⟩ := S.slot i _ h1
          rw [n.mg] at e2
          obtain ⟨v, h4, h5⟩ := e4.look h2
          exact ⟨_, e1, a, C, dx, vs, v, rfl, e3, (hc C e2).1, (hc C e2).2, h4, q F H ω .refl S v h5⟩
        · exact q.elim
      · exact q.elim
    · exact q.elim
theorem RepF.put {K : PySem.W.Frag} {mg : Str → Option Value} {F : Hp} {f : Str} {v : V} {d : DL.D} (r : Rep K mg F v d) : ∀ {vs : List (Str × V)} {ds : List (Str × DL.D)}, RepF K mg F vs ds → RepF K mg F (putF f v vs) (putD f d ds)
  | _, _, .nil => .cons r .nil
  | (g, x) :: vs, (_, y) :: ds, .cons q qs => by
    unfold putF putD
    by_cases e : g = f
    · rw [if_pos e, if_pos e]; exact .cons r qs
    · rw [if_neg e, if_neg e]; exact .cons q (RepF.put r qs)
theorem RepF.length {K : PySem.W.Frag} {mg : Str → Option Value} {F : Hp} : ∀ {vs : List (Str × V)} {ds : List (Str × DL.D)}, RepF K mg F vs ds → vs.length = ds.length
  | _, _, .nil => rfl
  | _, _, .cons _ qs => congrArg (· + 1) (RepF.length qs)
theorem Sta.putObj {c : Str} {fs gs : List (Str × DL.D)} {a C dx : Addr} {vs ws : List (Str × V)} (S : Sta fm F H ω σ ρ) (hi : ρ[i]? = some (.obj c fs)) (hs : σ[i]? = some (some (.ref a))) (hH : H a = some (.ins C dx vs)) (r : RepF fm.K fm.mg F ws gs) :
    Sta fm F (upd H a (.ins C dx ws)) ω σ (ρ.set i (.obj c gs)) ∧ Ext fm F H ω F (upd H a (.ins C dx ws)) ω := by
  obtain ⟨a', C', dx', vs', e1, w, e2, e3, e4, e5, e6⟩ := S.slot i _ hi
  rw [hs] at e1; cases e1
  rw [hH] at e3; cases e3
  have fn := S.sep a i w
  have il := (List.getElem?_eq_some_iff.mp hi).1
  refine ⟨⟨fun b u q => ?_, S.sep, fun b hb => ?_, by rw [List.length_set]; exact S.len, fun b j wb => ?_, fun j t hj => ?_⟩, ⟨Sub.refl, fun b u q wb => ?_, fun b u q => .inl q, fun b q => .inl q, fun b j q _ => q, fun b q => ?_⟩⟩
  · rw [upd_ne (ne_of_none q fn)]; exact S.sub b u q
  · by_cases z : b = a
    · subst z; rw [upd_same] at hb; cases hb
    · rw [upd_ne z] at hb; exact S.dom b hb
  · obtain ⟨q1, t, q2, q3⟩ := S.own b j wb
    refine ⟨q1, ?_⟩
    by_cases z : j = i
    · subst z
      exact ⟨_, List.getElem?_set_self il, rfl⟩
    · exact ⟨t, by rw [List.getElem?_set_ne (Ne.symm z)]; exact q2, q3⟩
  · rcases get_set hj with ⟨rfl, rfl⟩ | ⟨ne, hj⟩
    · exact ⟨a, C, dx, ws, hs, w, e2, upd_same, by rw [upd_ne fun z => by subst z; rw [hH] at e4; cases e4]; exact e4, e5, r⟩
    · refine (S.slot j t hj).mono Sub.refl (fun b wb => upd_ne fun z => by subst z; rw [w] at wb; cases wb; exact ne rfl) fun b u q wb => ?_
      rw [upd_ne fun z => by subst z; rw [w] at wb; cases wb]; exact q
  · rw [upd_ne fun z => by subst z; rw [w] at wb; cases wb]; exact q
  · by_cases z : b = a
    · subst z; rw [upd_same] at q; cases q
    · rw [upd_ne z] at q; exact q
theorem s_fldO (n : On X fm) (i : Nat) (c fN : Str) (hc : ∀ C, X.mg c = some (.ref C) → Cls X.K C ∧ NoAttr X.K C fN) (hr : PE X o (tVar i)) (hv : PE X e (tV fm W fv)) (hs : swapsWith e (some (.Attribute o fN pos')) pos.line X.env = pure false := by rfl) :
    PS X (.Assign [.Attribute o fN pos'] e pos) (tS fm W (gFldO i c fN fv)) :=
  PS.imp (ps_fld hr hv hs) fun D σ H ⟨F, ω, ρ, S, q⟩ =>
    ⟨F, ω, ρ, S, fin_fl _ q fun F1 H1 ω1 ρ1 d E1 S1 q1 v hv => by
      split at q1
      · rename_i c' fs h1
        split at q1
        · rename_i hz
          obtain ⟨rfl, hz⟩ := hz
          obtain ⟨a, C, dx, vs, e1, _, e2, e3, _, _, e4⟩ := S1.slot i _ h1
          obtain ⟨S2, E2⟩ := S1.putObj h1 e1 e3 (RepF.put (f := fN) hv e4)
          rw [n.mg] at e2
          exact ⟨_, e1, a, C, dx, vs, rfl, e3, (hc C e2).1, (hc C e2).2, by rw [e4.length]; omega, q1 _ _ _ _ (E1.trans E2) S2⟩
        · exact q1.elim
      · exact q1.elim⟩
end
/-! ### C(..) -/
def mMake (c : Str) (m : Df) (fs : M (List D)) : M Opd := fun ρ => (fs ρ).bind fun ds ρ1 => match m (.obj c []) ds with
  | .ok (.fz .non) (.obj c' gs) => if c' = c then .ok (.val (.ins c gs)) ρ1 else .no
  | _ => .no
theorem make_guards {A : Around} {C : Addr} {us : List Value} {kw : List (Str × Value)} (h : A.guards = some []) : (A.under (.builtin "type.__call__" ⟨.ref C :: us, kw⟩)).guards = some [] := by
  simp [Around.under, Code.guards, Code.isGuard, guardIds, pushGuards, h]
structure KnC (P : Program) (w : World) (K : PySem.W.Frag) (mg : Str → Option Value) (base : Heap) (c : Str) (k : Nat) (m : Df) : Prop where
  ex : ∃ C f fd ps, mg c = some (.ref C) ∧ Mk K C f ∧ Binds K fd ps [] ∧ FnG P w K mg base CX0 k f fd ps (spG K mg m)
section
variable {X : Cx} {fm : Fm} {W : WX} {e : Expr} {es : List Expr} {pos p : Pos} {k : Nat} {m : Df} {c : Str} {fs : M (List D)} {C f : Addr} {fd : FuncData} {ps : List Str} {sp : Sp} {t : TA} {E : XK}
theorem g_make (M : Mk X.K C f) (F : FnG X.prog X.w X.K X.mg X.base CX0 k f fd ps sp) (hgd : X.A.guards = some []) (hr : Room (k + 1) X.A) (hg : Gl X c) (hm : X.mg c = some (.ref C)) (hb : Binds X.K fd ps []) (ha : PA X (e :: es) t)
    (hdb : (c == ("__debug__" : Str)) = false := by decide)
    (he : starEach (e :: es) X.env = (false, eval e X.env) :: starEach es X.env := by rfl)
    (hpl : (backTo pos (starEach es X.env)).any (·.1) = false := by rfl) : PE X (.Call (.Name c p) (e :: es) [] pos) (tMake C sp [] E0 t) := by
  refine ⟨fun pins s σ H Q I h => wpAny_Call_Name_kw (ld_glob I hg hm ?_ hdb)⟩
  refine PySem.W.callWith_K (h₀ := X.base) I.ok.mod.kin M.kp ?_ he hpl
  refine thn (ha.run pos pins s σ H _ I h) fun us s1 ⟨vs, H1, I1, r, q⟩ => ⟨I1.kIn, ?_⟩
  have q1 := q (s1.heap.objs.size + 1) s1.heap.objs.size (I1.hok.fresh (Nat.le_succ _)) (I1.hok.fresh (Nat.le_refl _)) (Nat.ne_of_lt (Nat.lt_succ_self _))
  have I2 := Inv.made (C := C) I1
  rw [List.append_nil] at q1
  have r2 : Vals (V.ref (s1.heap.objs.size + 1) :: vs) (Value.ref (s1.heap.objs.size + 1) :: us) := .cons rfl r
  have hl : (Value.ref (s1.heap.objs.size + 1) :: us).length = ps.length := r2.length.symm.trans (F.len _ _ _ _ q1)
  have hbt := hb _ (Value.ref (s1.heap.objs.size + 1) :: us) I2.kIn (by rw [List.append_nil]; exact hl)
  rw [List.append_nil] at hbt
  refine wpAny_call (make_map (f := f) I1.kIn M.makes M.init (beq_iff_eq.mp M.fn) ?_)
  refine codeAny_mono (F.run _ X.stack _ _ ⟨Value.ref (s1.heap.objs.size + 1) :: us, []⟩ _ _ _ E0 (make_guards hgd) (hr.make C us []) (I2.env0.make C us []) hbt r2 q1) fun r s' hq => ?_
  cases r with
  | error e => exact hq.elim
  | ok fl =>
    cases fl with
    | ret u =>
      obtain ⟨v, H', I3, rv, ev, q3⟩ := I2.after hq
      subst ev
      exact ⟨rv, ⟨V.ref (s1.heap.objs.size + 1), H', I3, rfl, q3⟩⟩
    | next => exact False.elim hq
    | brk => exact False.elim hq
    | cont => exact False.elim hq
theorem make_imp {σ : L2.St} {H : Hp} {Q : VK} (hc : fm.mg c = some (.ref C)) (h : tO fm W (mMake c m fs) σ H Q) : tMake C (spG fm.K fm.mg m) [] E (tVs fm W fs) σ H Q := by
  obtain ⟨F, ω, ρ, S, h⟩ := h
  refine ⟨F, ω, ρ, S, h.bind.imp fun F1 H1 ω1 ρ1 ds E1 S1 ⟨_, q, _⟩ vs hv x dx hx hdx hne => ?_⟩
  rw [List.append_nil]
  have old : ∀ a o, H1 a = some o → (upd (upd H1 dx (.own x)) x (.ins C dx [])) a = some o := fun a o ho => by rw [upd_ne (ne_of_none ho hx), upd_ne (ne_of_none ho hdx)]; exact ho
  refine ⟨F1, .ref x, vs, .obj c [], ds, rfl, fun a o ho => old a o (S1.sub a o ho), ⟨x, C, dx, [], rfl, S1.fnone hx, hc, upd_same, by rw [upd_ne hne, upd_same], hne, .nil⟩, hv, ?_⟩
  revert q
  cases m (.obj c []) ds with
  | ex c ds s' => exact fun q => False.elim q
  | no => exact fun q => False.elim q
  | ok r s' =>
    intro q u F' H' g1 g2 g3 g4 g5 g7 g6
    cases s' with
    | obj c' gs =>
      cases r with
      | own xs => exact q.elim
      | fz d =>
        cases d with
        | non =>
          have q : Fin fm W σ F1 H1 ω1 (if c' = c then R.ok (Opd.val (D.ins c gs)) ρ1 else R.no) _ := q
          split at q
          rotate_left
          · exact q.elim
          rename_i hcc; subst hcc
          refine ⟨by cases g6; rfl, ?_⟩
          obtain ⟨p', C', dx', vs', e1, e2, e3, e4, _, _, e5⟩ := (g7 rfl).1
          cases e1
          have hold : ∀ a o, H1 a = some o → H' a = some o := fun a o ho => g3 a o (old a o ho) fun z => by
            have := z.1; cases this; rw [hx] at ho; cases ho
          have hnew : ∀ a, H' a = none → H1 a = none := fun a ha => by
            cases e : H1 a with
            | none => rfl
            | some o => rw [hold a o e] at ha; cases ha
          have hfr : ∀ a o, F' a = some o → F1 a = some o ∨ H1 a = none := fun a o ho => by
            rcases g4 a o ho with z | z
            · exact .inl z
            · refine .inr ?_
              cases e : H1 a with
              | none => rfl
              | some o => rw [old a o e] at z; cases z
          have hsub : Sub F' (upd F' x (.ins C' dx' vs')) := fun b u q => by rw [upd_ne (ne_of_none q e2)]; exact q
          obtain ⟨S2, E2⟩ := call_sta S1 (g1.trans hsub) (fun a o ho => by
            by_cases z : a = x
            · subst z; rw [upd_same] at ho; cases ho; exact e4
            · rw [upd_ne z] at ho; exact g2 a o ho) hold (fun a o ho => by
            by_cases z : a = x
            · subst z; exact .inr hx
            · rw [upd_ne z] at ho; exact hfr a o ho) hnew
          exact q _ H' ω1 E2 S2 (.ref x) (.ins e3 upd_same (e5.mono hsub))
        | _ => exact False.elim q
    | _ => cases r with
      | own xs => exact False.elim q
      | fz d => cases d <;> exact False.elim q
theorem o_make (n : On X fm) (i : In X (k + 1)) (C : KnC X.prog X.w X.K X.mg X.base c k m) (ha : PA X (e :: es) (tVs fm W fs)) (hg : Gl X c := by rfl) (hdb : (c == ("__debug__" : Str)) = false := by decide)
    (he : starEach (e :: es) X.env = (false, eval e X.env) :: starEach es X.env := by rfl) (hpl : (backTo pos (starEach es X.env)).any (·.1) = false := by rfl) : PE X (.Call (.Name c p) (e :: es) [] pos) (tO fm W (mMake c m fs)) := by
  obtain ⟨C, f, fd, ps, h1, h2, h3, h4⟩ := C.ex
  exact PE.imp (g_make h2 h4 i.gd i.rm hg h1 h3 ha hdb he hpl) fun σ H Q q => by
    have := make_imp (E := E0) (by rw [n.mg]; exact h1) q
    rwa [n.K, n.mg] at this
end
end DL
namespace DL
open PySem PySem.Spec PyProof.Rows L2
/-! ### keywords, no positional argument -/
def mCallK (m : Df) (g : List D → List D) (fs : M (List D)) : M Opd := fun ρ => (fs ρ).bind fun ds ρ1 => match g ds with
  | d :: r => match m (.fz d) r with
    | .ok x _ => .ok x.opd ρ1
    | _ => .no
  | [] => .no
section
variable {X : Cx} {fm : Fm} {W : WX} {e : Expr} {es : List Expr} {kws : List Keyword} {pos p kpos : Pos} {k : Nat} {m : Df} {x : Str} {fs : M (List D)} {f : M D} {nm : Option Str} {g : M (List D)} {fa : Addr} {fd : FuncData} {ps ks : List Str} {sp : Sp} {t tk : TA} {E : XK}
theorem PK.imp {t t' : TA} (h : PK X kws t) (w : ∀ σ H Q, t' σ H Q → t σ H Q) : PK X kws t' := ⟨fun pos pins s σ H Q I q => h.run pos pins s σ H Q I (w σ H Q q)⟩
theorem ks_nil : PK X [] (tVs fm W mNil) := PK.imp pk_nil fun σ H Q ⟨F, ω, ρ, S, h⟩ => h F H ω .refl S [] .nil
theorem ks_cons (ha : PE X e (tV fm W f)) (hr : PK X kws (tVs fm W g)) : PK X (⟨nm, e, kpos⟩ :: kws) (tVs fm W (mCons f g)) :=
  PK.imp (pk_cons ha hr) fun σ H Q ⟨F, ω, ρ, S, h⟩ => by
    refine ⟨F, ω, ρ, S, h.bind.imp fun F1 H1 ω1 ρ1 d E1 S1 ⟨_, h1, _⟩ v hv => ?_⟩
    refine ⟨F1, ω1, ρ1, S1, h1.bind.imp fun F2 H2 ω2 ρ2 ds E2 S2 ⟨_, h2, _⟩ vs hvs => ?_⟩
    exact h2 F2 H2 ω2 .refl S2 (v :: vs) (.cons (hv.mono E2.inc) hvs)
/-- f(k = v, ..) -/
theorem g_callN0 {g : List Value → List Value → List Value} {gV : List V → List V → List V} (F : FnG X.prog X.w X.K X.mg X.base CX0 k fa fd ps sp) (hgd : X.A.guards = some []) (hr : Room k X.A) (hg : Gl X x) (hm : X.mg x = some (.ref fa)) (hk : PySem.W.keepIn X.K (.ref fa) = true) (hb : KBn X.K fd ps 0 ks g gV)
    (hkw : PK X kws tk) (hall : (backToKw pos (keywordEach kws X.env)).all (·.1.isSome) = true := by rfl)
    (hks : (backToKw pos (keywordEach kws X.env)).filterMap (·.1) = ks := by rfl) (hdb : (x == ("__debug__" : Str)) = false := by decide)
    (hpl : ((backTo pos (starEach [] X.env)).any (·.1) || (backToKw pos (keywordEach kws X.env)).any (·.1.isNone)) = false := by rfl) : PE X (.Call (.Name x p) [] kws pos) (fun σ H Q => tk σ H fun zs H2 => zs.length = ks.length ∧ sp (gV [] zs) H2 Q E0) := by
  refine ⟨fun pins s σ H Q I h => wpAny_Call_Name_kw (ld_glob I hg hm ?_ hdb)⟩
  refine PySem.W.callWith_KW0 (h₀ := X.base) I.ok.mod.kin hk hall ?_ hpl
  refine thn (hkw.run pos pins s σ H _ I h) fun wals s2 ⟨zll, H2, I2, rz, l2, q2⟩ => ⟨I2.kIn, ?_⟩
  rw [hks]
  exact g_run (args := ⟨[], ks.zip wals⟩) F hgd hr pass0 I2 (hb.to s2 [] wals I2.kIn rfl (rz.length.symm.trans l2)) (hb.rel .nil rz) q2
/-- how a def of the text binds its keywords -/
structure KnK (P : Program) (w : World) (K : PySem.W.Frag) (mg : Str → Option Value) (base : Heap) (x : Str) (k : Nat) (m : Df) (ks : List Str) (gD : List D → List D) : Prop where
  ex : ∃ f fd ps g gV, mg x = some (.ref f) ∧ PySem.W.keepIn K (.ref f) = true ∧ KBn K fd ps 0 ks g gV ∧ (∀ F vs ds, RepL K mg F vs ds → RepL K mg F (gV [] vs) (gD ds)) ∧ FnG P w K mg base CX0 k f fd ps (spG K mg m)
theorem callK_imp {gD : List D → List D} {gV : List V → List V} {σ : L2.St} {H : Hp} {Q : VK} {n : Nat} (hn : ∀ ρ ds ρ', fs ρ = .ok ds ρ' → ds.length = n) (hgv : ∀ F vs ds, RepL fm.K fm.mg F vs ds → RepL fm.K fm.mg F (gV vs) (gD ds))
    (h : tO fm W (mCallK m gD fs) σ H Q) : tVs fm W fs σ H fun zs H2 => zs.length = n ∧ spG fm.K fm.mg m (gV zs) H2 Q E := by
  obtain ⟨F, ω, ρ, S, h⟩ := h
  refine ⟨F, ω, ρ, S, ?_⟩
  have hl : ∀ ds ρ', fs ρ = .ok ds ρ' → ds.length = n := fun ds ρ' e => hn ρ ds ρ' e
  revert h
  unfold mCallK
  cases e0 : fs ρ with
  | ex c d ρ1 => exact fun h => h
  | no => exact fun h => h
  | ok ds ρ1 =>
    intro h F1 H1 ω1 E1 S1 vs hv
    refine ⟨by rw [hv.length]; exact hl ds ρ1 e0, ?_⟩
    have hgd := hgv F1 vs ds hv
    have h : Fin fm W σ F H ω (match gD ds with | d :: r => (match m (.fz d) r with | .ok x _ => .ok x.opd ρ1 | _ => .no) | [] => .no) _ := h
    cases e1 : gD ds with
    | nil => rw [e1] at h; exact h.elim
    | cons d r =>
      rw [e1] at h hgd
      cases e2 : gV vs with
      | nil => rw [e2] at hgd; cases hgd
      | cons v us =>
        rw [e2] at hgd
        cases hgd with
        | cons r0 rr =>
          refine ⟨F1, v, us, .fz d, r, rfl, S1.sub, r0, rr, ?_⟩
          revert h
          dsimp only
          cases m (.fz d) r with
          | ok x s' =>
            intro q u F' H' g1 g2 g3 g4 g5 _ g6
            obtain ⟨S2, E2⟩ := call_sta S1 g1 g2 (fun a o ho => g3 a o ho fun z => by cases z.2) g4 g5
            exact q F' H' ω1 (E1.trans E2) S2 u (ret_opd S1 E1.there g6)
          | ex c ds s' => exact fun q => False.elim q
          | no => exact fun q => False.elim q
theorem o_callK (n : On X fm) (c : In X k) {gD : List D → List D} (C : KnK X.prog X.w X.K X.mg X.base x k m ks gD) (hkw : PK X kws (tVs fm W fs)) (hn : ∀ ρ ds ρ', fs ρ = .ok ds ρ' → ds.length = ks.length) (hg : Gl X x := by rfl) (hall : (backToKw pos (keywordEach kws X.env)).all (·.1.isSome) = true := by rfl)
    (hks : (backToKw pos (keywordEach kws X.env)).filterMap (·.1) = ks := by rfl) (hdb : (x == ("__debug__" : Str)) = false := by decide) (hpl : ((backTo pos (starEach [] X.env)).any (·.1) || (backToKw pos (keywordEach kws X.env)).any (·.1.isNone)) = false := by rfl) :
    PE X (.Call (.Name x p) [] kws pos) (tO fm W (mCallK m gD fs)) := by
  obtain ⟨f, fd, ps, g, gV, h1, h2, h3, h5, h4⟩ := C.ex
  exact PE.imp (g_callN0 h4 c.gd c.rm hg h1 h2 h3 hkw hall hks hdb hpl) fun σ H Q q => by
    have := callK_imp (E := E0) (gV := gV []) hn (by rw [n.K, n.mg]; exact h5) q
    rwa [n.K, n.mg] at this
end
/-! ### repr -/
/-- what is no container -/
def atomPy : D → Option PyData
  | .non => some .none
  | .bl b => some (.bool b)
  | .int i => some (.int i)
  | .str x => some (.str x)
  | _ => none
def keyPy : Key → PyData
  | .inl i => .int i
  | .inr x => .str x
def dicPy : List (Key × D) → Option (List (PyData × PyData))
  | [] => some []
  | (k, d) :: r => (atomPy d).bind fun p => (dicPy r).bind fun q => some ((keyPy k, p) :: q)
def toPyR : D → Option PyData
  | .dic kvs => (dicPy kvs).map .dict
  | d => toPy d
mutual
theorem toPy_nodict : ∀ {d : D} {p : PyData}, toPy d = some p → p.hasDict = false
  | .non, _, e => by simp only [toPy] at e; cases e; rfl
  | .bl b, _, e => by simp only [toPy] at e; cases e; rfl
  | .int b, _, e => by simp only [toPy] at e; cases e; rfl
  | .str b, _, e => by simp only [toPy] at e; cases e; rfl
  | .lst xs, _, e => by
    simp only [toPy, Option.map_eq_some_iff] at e
    obtain ⟨ps, e1, rfl⟩ := e
    simp only [PyData.hasDict]; exact toPys_nodict e1
  | .tup xs, _, e => by
    simp only [toPy, Option.map_eq_some_iff] at e
    obtain ⟨ps, e1, rfl⟩ := e
    simp only [PyData.hasDict]; exact toPys_nodict e1
  | .dic _, _, e => by simp only [toPy] at e; cases e
  | .ins _ _, _, e => by simp only [toPy] at e; cases e
  | .scr _, _, e => by simp only [toPy] at e; cases e
theorem toPys_nodict : ∀ {ds : List D} {ps : List PyData}, toPys ds = some ps → PyData.hasDictAll ps = false
  | [], _, e => by simp only [toPys] at e; cases e; rfl
  | d :: r, _, e => by
    simp only [toPys, Option.bind_eq_some_iff] at e
    obtain ⟨p, e1, ps, e2, e3⟩ := e
    cases e3
    simp only [PyData.hasDictAll, toPy_nodict e1, toPys_nodict e2, Bool.or_self]
end
def ReprOk (p : PyData) : Prop := p.showable = true ∧ p.shown.length ≤ 1000000 ∧ p.depth < 40
open Classical in
noncomputable def bRepr : List D → Option Opd
  | [d] => match toPyR d with
    | some p => if ReprOk p then some (.val (.str p.shown)) else none
    | none => none
  | _ => none
section
variable {X : Cx} {fm : Fm} {W : WX} {pins : List (Addr × Obj)} {σ : L2.St} {F H : Hp} {s : Shared} {ω : Om} {ρ : Rho}
theorem atom_reads {K : PySem.W.Frag} {mg : Str → Option Value} {h : Heap} {v : V} {d : D} {p : PyData} {u : Value} (q : Rep K mg F v d) (e : atomPy d = some p) (r : RelV v u) : Reads h u p [] := by
  cases q <;> simp only [atomPy] at e <;> cases e
  · cases r; exact .none
  · cases r; exact .bool _
  · obtain ⟨t, rfl⟩ := r; exact .int _ t
  · obtain ⟨t, rfl⟩ := r; exact .str _ t
theorem dic_reads {K : PySem.W.Frag} {mg : Str → Option Value} {P : Program} {w : World} {h : Heap} : ∀ {kvs : List (Key × V)} {ds : List (Key × D)} {ps : List (PyData × PyData)} {us : List (Key × Value)} {es : List DictEntry}, RepK K mg F kvs ds → dicPy ds = some ps → KV kvs us → Pairs (mixKind P w) es us →
    ReadsAll h (es.map (·.key)) (ps.map (·.1)) [] ∧ ReadsAll h (es.map (·.val)) (ps.map (·.2)) []
  | _, _, _, _, _, .nil, e, r, q => by
    cases e; cases r; cases q
    exact ⟨.nil, .nil⟩
  | _, _, _, _, _, .cons (k := k) a q, e, r, z => by
    simp only [dicPy, Option.bind_eq_some_iff] at e
    obtain ⟨p, e1, ps, e2, e3⟩ := e
    cases e3
    cases r with
    | cons r rr =>
      cases z with
      | @cons e0 kv0 es0 kvs0 z1 z2 z3 =>
        obtain ⟨h1, h2⟩ := dic_reads q e2 rr z3
        obtain ⟨rk, rv⟩ := r
        dsimp only at rk rv
        have hk : Reads h e0.key (keyPy k) [] := by
          rw [← rk] at z1
          rcases keyIs_shape z1 with ⟨i, t, rfl, e⟩ | ⟨x, t, rfl, e⟩
          · rw [e]; exact .int i t
          · rw [e]; exact .str x t
        refine ⟨.cons (as := []) hk h1, .cons (as := []) ?_ h2⟩
        show Reads h e0.val p []
        rw [z2]
        exact atom_reads a e1 rv
def rReprD (fm : Fm) : List V → Hp → VK → Prop := fun vs H Q => ∃ (F : Hp) (v : V) (d : D) (p : PyData), vs = [v] ∧ Sub F H ∧ (Rep fm.K fm.mg F v d ∨ ∃ a us xs, v = .ref a ∧ d = .lst xs ∧ H a = some (.lst us) ∧ RepL fm.K fm.mg F us xs) ∧ toPyR d = some p ∧ ReprOk p ∧ Q (.str p.shown) H
theorem cr_reprD (n : On X fm) (hgd : X.A.guards = some []) : CallR X (.builtin "repr") (rReprD fm) := by
  intro pins s σ H vs us Q I r h
  obtain ⟨F, v, d, p, rfl, hs, hr, hp, ⟨hok, hz, hd⟩, q⟩ := h
  cases r with
  | @cons _ u0 _ _ r0 rr =>
    cases rr
    have hz' : p.shown.length ≤ sizeLine := Nat.le_trans hz (by decide)
    have done : ∀ u tk, EP X pins σ Q (.str p.shown u) { s with toks := tk } := fun u tk => ⟨.str p.shown, H, I.tok _, ⟨_, rfl⟩, q⟩
    have byref : ∀ {a : Addr} {as : List Addr}, Reads s.heap (.ref a) p as → (p.hasDict = true → sysModules ∉ as) → wpAny (model X.prog X.w) X.A (call (.builtin "repr") [.ref a]) (EP X pins σ Q) X.xe s := fun {a as} ra hsm =>
      repr_of_reads' ra hok hsm hgd (by have := n.un; omega) (fun _ _ e => e) (fun h' u tk hk => ⟨.str p.shown, H, I.kept hk, ⟨_, rfl⟩, q⟩) hz'
    have viaPy : ∀ (p' : PyData), toPy d = some p' → Dp X.K H v p' → p' = p → wpAny (model X.prog X.w) X.A (call (.builtin "repr") [u0]) (EP X pins σ Q) X.xe s := fun p' e1 dp e2 => by
      subst e2
      obtain ⟨as, ra⟩ := Dp.reads I _ v _ dp r0
      have hno := toPy_nodict e1
      cases ra with
      | none => exact P.repr_of_none (done _ _)
      | bool b => exact P.repr_of_bool (done _ _)
      | int i t => exact P.repr_of_int (by simpa [PyData.showable] using hok) (done _ _)
      | str x t => exact P.repr_of_str (done _ _) hz'
      | list h1 h2 h3 h4 => exact byref (.list h1 h2 h3 h4) fun z => by rw [hno] at z; cases z
      | tuple h1 h2 h3 h4 => exact byref (.tuple h1 h2 h3 h4) fun z => by rw [hno] at z; cases z
      | dict h1 h2 h3 h4 h5 => simp [PyData.hasDict] at hno
    by_cases hdic : ∃ kvs, d = .dic kvs
    · obtain ⟨kvs, rfl⟩ := hdic
      rcases hr with hr | ⟨_, _, _, _, z, _⟩
      · cases hr with
        | dic h1 h2 =>
          simp only [toPyR, Option.map_eq_some_iff] at hp
          obtain ⟨ps, e1, rfl⟩ := hp
          cases r0
          obtain ⟨hz2, hne, us, rv, o, es, ep, ho, hx, hdat, hk, hpr, hnd⟩ := I.hok _ _ (hs _ _ h1)
          obtain ⟨g1, g2⟩ := dic_reads (h := s.heap) h2 e1 rv hpr
          exact byref (.dict ho hx.1 hdat g1 g2) fun _ => by
            simp only [List.append_nil, List.mem_cons, List.not_mem_nil, or_false]
            exact fun z => by rw [← z] at hne; simp at hne
      · cases z
    · have e1 : toPy d = some p := by
        cases d <;> first | exact hp | exact absurd ⟨_, rfl⟩ hdic
      refine viaPy p e1 ?_ rfl
      rw [← n.K]
      rcases hr with hr | ⟨a, us, xs, rfl, rfl, h3, h4⟩
      · exact rep_dp hs hr e1
      · simp only [toPy, Option.map_eq_some_iff] at e1
        obtain ⟨ps, e2, rfl⟩ := e1
        exact .lst (SqL.of h3) (reps_dp hs h4 e2)
variable {e a : Expr} {es : List Expr} {pos p : Pos} {fs : M (List Opd)}
theorem o_repr (n : On X fm) (hgd : X.A.guards = some []) (hm : X.mg "repr" = none) (ha : PA X (a :: es) (tOs fm W fs)) (hg : Gl X "repr" := by rfl)
    (he : starEach (a :: es) X.env = (false, eval a X.env) :: starEach es X.env := by rfl)
    (hpl : (backTo pos (starEach es X.env)).any (·.1) = false := by rfl) :
    PE X (.Call (.Name "repr" p) (a :: es) [] pos) (tO fm W (mB bRepr fs)) := o_call (fun ha => pe_callB (cr_reprD n hgd) hg hm (by decide +kernel) ha (he := he) (hpl := hpl)) (fun F H ω σ ρ vs ds o Q S hv e k => by
  unfold bRepr at e
  split at e
  · split at e
    · split at e
      · rename_i hp hok
        cases e
        cases hv with
        | cons h1 h2 =>
          cases h2
          exact ⟨F, _, _, _, rfl, S.sub, h1, hp, hok, k F H _ .refl S (.str _)⟩
      · cases e
    · cases e
  · cases e) ha
end
end DL
namespace DL
open PySem PySem.Spec PyProof.Rows L2
section
variable {X : Cx} {fm : Fm} {W : WX} {e a b c o : Expr} {es : List Expr} {f g h : M Opd} {fs : M (List D)} {t u : M Bool} {pos p pos' : Pos} {i k : Nat} {x : Str} {st : Stmt} {m : Df}
theorem t_w (h : PW X e (tT fm W t)) : PT X e (tT fm W t) := h.pt
/-- a name of the module -/
theorem o_gl {d : D} {v : V} (hg : Gl X x) (hm : ∃ u, X.mg x = some u ∧ RelV v u) (r : ∀ F, Rep fm.K fm.mg F v d) (hd : (x == ("__debug__" : Str)) = false := by decide) : PE X (.Name x pos) (tO fm W (mC d)) := by
  obtain ⟨u, h1, h2⟩ := hm
  exact o_c (pe_glob hg h1 h2 hd) r
theorem o_glI {z : Int} (hm : ∃ u, X.mg x = some u ∧ RelV (.int z) u) (hg : Gl X x := by rfl) (hd : (x == ("__debug__" : Str)) = false := by decide) : PE X (.Name x pos) (tO fm W (mC (.int z))) := o_gl hg hm (fun _ => .int z) hd
def sNeg : D → Option Opd
  | .int i => some (.val (.int (-i)))
  | _ => none
theorem o_neg (n : On X fm) (ha : PE X a (tO fm W f)) : PE X (.UnaryOp .USub a pos) (tO fm W (mUn sNeg f)) :=
  PE.imp (pe_un un_neg ha) fun σ H Q q => un_imp (r := rU fun i => .int (-i)) (ud_scal fun F H ω σ ρ v x o Q S hv e k => by
    unfold sNeg at e
    split at e
    · cases e; exact ⟨_, repT_int hv, k _ _ rfl (.int _)⟩
    · cases e) q
theorem o_dic0 : PE X (.Dict [] [] pos) (tO fm W (mC (.dic []))) :=
  PE.imp pe_dnewK fun σ H Q ⟨F, ω, ρ, S, q⟩ p hp => q _ _ ω (Ext.share (u := .dK []) (S.fnone hp) (S.onone hp) hp) (S.shareN hp) _ (.dic upd_same .nil)
theorem o_dic1 {kz vz : Int} {j1 j2 : Nat} {p1 p2 : Pos} : PE X (.Dict [some (.Constant (.int kz) j1 p1)] [.Constant (.int vz) j2 p2] pos) (tO fm W (mC (.dic [(.inl kz, .int vz)]))) :=
  PE.imp (pe_disp (pps_cons pe_int pe_int pps_nil) rfl rfl (by simp) (by simp)) fun σ H Q ⟨F, ω, ρ, S, q⟩ p hp => by
    refine ⟨upd_same, [(.inl kz, .int vz)], rfl, by simp, ?_⟩
    have e : upd (upd H p (.dK [])) p (.dK (mergeK [] [(Sum.inl kz, V.int vz)])) = upd H p (.dK [(Sum.inl kz, V.int vz)]) := by
      funext b
      by_cases z : b = p
      · subst z; rw [upd_same, upd_same]; rfl
      · rw [upd_ne z, upd_ne z, upd_ne z]
    show Q (.ref p) (upd (upd H p (.dK [])) p (.dK (mergeK [] [(Sum.inl kz, V.int vz)])))
    rw [e]
    exact q _ _ ω (Ext.share (u := .dK [(Sum.inl kz, V.int vz)]) (S.fnone hp) (S.onone hp) hp) (S.shareN hp) _ (.dic upd_same (.cons (.int _) .nil))
/-! ### the first argument is a new list, by reference -/
def mCallT (m : Df) (f : M Opd) (fs : M (List D)) : M Opd := fun ρ => (f ρ).bind fun o ρ1 => match o with
  | .tmp xs => (fs ρ1).bind fun ds ρ2 => match m (.ref xs) ds with
    | .ok x (.ref _) => .ok x.opd ρ2
    | _ => .no
  | _ => .no
theorem callT_imp {E : XK} {σ : L2.St} {H : Hp} {Q : VK} (h : tO fm W (mCallT m f fs) σ H Q) : tCall (spG fm.K fm.mg m) [] E (tCons (tO fm W f) (tVs fm W fs)) σ H Q := by
  obtain ⟨F, ω, ρ, S, h⟩ := h
  refine ⟨F, ω, ρ, S, ?_⟩
  unfold mCallT at h
  revert h
  cases f ρ with
  | ex c d ρ1 => exact fun h => h
  | no => exact fun h => h
  | ok o ρ1 =>
    intro h F1 H1 ω1 E1 S1 v hv
    cases o with
    | val d => exact h.elim
    | nm j => exact h.elim
    | tmp xs =>
      refine ⟨F1, ω1, ρ1, S1, ?_⟩
      have h : Fin fm W σ F H ω ((fs ρ1).bind fun ds ρ2 => match m (.ref xs) ds with | .ok x (.ref _) => .ok x.opd ρ2 | _ => .no) _ := h
      revert h
      cases fs ρ1 with
      | ex c d ρ2 => exact fun h F2 H2 ω2 E2 S2 => h F2 H2 ω2 (E1.trans E2) S2
      | no => exact fun h => h
      | ok ds ρ2 =>
        intro h F2 H2 ω2 E2 S2 us hus
        obtain ⟨p, vs, rfl, hf, hw, h0, hp, hr⟩ := hv.ext E2
        rw [List.append_nil]
        refine ⟨F2, .ref p, us, .ref xs, ds, rfl, S2.sub, ⟨p, vs, rfl, hf, hp, hr⟩, hus, ?_⟩
        have h : Fin fm W σ F H ω (match m (.ref xs) ds with | .ok x (.ref _) => R.ok x.opd ρ2 | _ => .no) _ := h
        revert h
        cases m (.ref xs) ds with
        | ex c ds s' => exact fun q => False.elim q
        | no => exact fun q => False.elim q
        | ok x s' =>
          intro q u F' H' g1 g2 g3 g4 g5 g7 g6
          cases s' with
          | ref ys =>
            have q : Fin fm W σ F H ω (.ok x.opd ρ2) _ := q
            obtain ⟨p', ws, e3, hf', hp', rw'⟩ := (g7 rfl).1
            cases e3
            have hs2 : Sub F' (upd H' p (.lst vs)) := fun a o ho => by rw [upd_ne (ne_of_none ho hf')]; exact g2 a o ho
            obtain ⟨S3, E3⟩ := call_sta S2 g1 hs2 (fun a o ho => by
              by_cases e : a = p
              · subst e; rw [hp] at ho; cases ho; exact upd_same
              · rw [upd_ne e]; exact g3 a o ho fun z => by have := z.1; cases this; exact e rfl) g4 (fun a ha => by
              by_cases e : a = p
              · subst e; rw [upd_same] at ha; cases ha
              · rw [upd_ne e] at ha; exact g5 a ha)
            have S4 := S3.other (p := p) (us := vs) (ws := ws) upd_same hf' hw
            have E4 := (((E1.trans E2).trans E3).other (p := p) (ws := ws) h0)
            rw [upd_back hp'] at S4 E4
            exact q F' H' ω2 E4 S4 u (ret_opd S2 (fun a z => E1.there a (E2.there a z)) g6)
          | un => exact False.elim q
          | fz d => exact False.elim q
          | own ys => exact False.elim q
          | obj c fs => exact False.elim q
theorem o_callT (n : On X fm) (c : In X k) (C : Kn X.prog X.w X.K X.mg X.base x k m) (hr : PE X e (tO fm W f)) (ha : PA X es (tVs fm W fs)) (hg : Gl X x := by rfl) (hdb : (x == ("__debug__" : Str)) = false := by decide)
    (he : starEach (e :: es) X.env = (false, eval e X.env) :: starEach es X.env := by rfl) (hpl : (backTo pos (starEach es X.env)).any (·.1) = false := by rfl) : PE X (.Call (.Name x p) (e :: es) [] pos) (tO fm W (mCallT m f fs)) := by
  obtain ⟨f, fd, ps, h1, h2, h3, h4⟩ := C.ex
  exact PE.imp (g_call h4 c.gd c.rm hg h1 h2 h3 pass0 (pa_cons hr ha he) hdb he hpl) fun σ H Q q => by
    have := callT_imp (E := E0) q
    rwa [n.K, n.mg] at this
theorem Kn.mono {P : Program} {w : World} {K : PySem.W.Frag} {mg : Str → Option Value} {base : Heap} {j k : Nat} (C : Kn P w K mg base x j m) (h : j ≤ k) : Kn P w K mg base x k m := by
  obtain ⟨f, fd, ps, h1, h2, h3, h4⟩ := C.ex
  exact ⟨f, fd, ps, h1, h2, h3, h4.mono h⟩
theorem KnC.mono {P : Program} {w : World} {K : PySem.W.Frag} {mg : Str → Option Value} {base : Heap} {j k : Nat} (C : KnC P w K mg base x j m) (h : j ≤ k) : KnC P w K mg base x k m := by
  obtain ⟨C, f, fd, ps, h1, h2, h3, h4⟩ := C.ex
  exact ⟨C, f, fd, ps, h1, h2, h3, h4.mono h⟩
theorem KnK.mono {P : Program} {w : World} {K : PySem.W.Frag} {mg : Str → Option Value} {base : Heap} {j k : Nat} {ks : List Str} {gD : List D → List D} (C : KnK P w K mg base x j m ks gD) (h : j ≤ k) : KnK P w K mg base x k m ks gD := by
  obtain ⟨f, fd, ps, g, gV, h1, h2, h3, h5, h4⟩ := C.ex
  exact ⟨f, fd, ps, g, gV, h1, h2, h3, h5, h4.mono h⟩
theorem In.blk {s : Shared} {H : Hp} {scope : Scope} {cenv : Env} {fp : List Addr} (n : In X k) : In (X.blk s H scope cenv fp) k := ⟨n.gd, n.rm⟩
end
def permD (is : List Nat) (ds : List D) : List D := is.filterMap fun i => ds[i]?
def LenD (f : M (List D)) (n : Nat) : Prop := ∀ ρ ds ρ', f ρ = .ok ds ρ' → ds.length = n
theorem len_nil : LenD mNil 0 := fun ρ ds ρ' e => by cases e; rfl
theorem len_cons {f : M D} {g : M (List D)} {n : Nat} (h : LenD g n) : LenD (mCons f g) (n + 1) := fun ρ ds ρ' e => by
  obtain ⟨d, ρ1, _, q⟩ := bind_ok e
  obtain ⟨ds', ρ2, q1, q⟩ := bind_ok q
  cases q
  rw [List.length_cons, h _ _ _ q1]
/-! ### a def of np parameters, nn names -/
noncomputable def mkDf (np nn : Nat) (g : G) : Df := fun s ds => if ds.length + 1 = np then runG nn g s ds else .no
section
variable {P : Program} {w : World} {K : PySem.W.Frag} {mg : Str → Option Value} {base : Heap} {x qual : Str} {st : Stmt} {f : Addr} {fd : FuncData} {N ps : List Str} {k : Nat} {g : G} {dvs : List V}
theorem fn_df (F : FunD K x qual (defArgs st) (defBody st) (defScope st) dvs [] f fd) (S : FnScope N ps (defScope st)) (hN : ps.length ≤ N.length)
    (hbody : ∀ (cdv : Value) (A : Around) (out : List Env) (s : Shared) (H : Hp), On (cxOf CX0 P w K mg base N qual (defScope st) f cdv A out s H E0).nox ⟨K, mg, H⟩ → In (cxOf CX0 P w K mg base N qual (defScope st) f cdv A out s H E0).nox k →
      PSs (cxOf CX0 P w K mg base N qual (defScope st) f cdv A out s H E0).nox (defBody st) (tS ⟨K, mg, H⟩ W0 g)) : FnG P w K mg base CX0 (k + 1) f fd ps (spG K mg (mkDf ps.length N.length g)) :=
  fn_mean F S hN (fun s ds h => Classical.byContradiction fun z => h (if_neg z)) (fun s ds h => if_pos h) fun cdv A out s H hgd hr =>
    hbody cdv A out s H ⟨rfl, rfl, rfl, S.nd, by have := hr.un; show (A.deeper _).units + 100 < cLine; omega⟩ ⟨hgd, hr⟩
end
end DL
namespace DL
open PySem PySem.Spec PyProof.Rows L2
/-! ### the law's own head -/
section
variable {P : Program} {w : World} {K : PySem.W.Frag} {mg mb : Str → Option Value} {k : Nat} {fa a : Addr} {fd : FuncData} {x : Str} {sp : Sp} {s₁ : Shared} {vs : List Value} {ns : List Int}
abbrev LawEnd (s₁ : Shared) : Result → Shared → Prop := fun r s' => r = .ok (.ret (.bool true)) ∧ OldK s₁.heap s'.heap ∧ s'.os = s₁.os ∧ AllBare s'.gens
theorem guards_caller : callerA.guards = some [] := rfl
/-- H: nothing is told but the script at most -/
theorem law_core {H : Hp} (kin : K.In s₁.heap) (hns : s₁.heap.Ns mainGlobals mg) (hb : s₁.heap.Ns builtinsNs mb) (hbb : ∀ x : Str, x ≠ "__name__" → mb x = bootBuiltins x) (hlim : s₁.heap.NoLimit) (hg : s₁.gens = #[])
    (ha : s₁.heap.get? a = some { cls := .type "list", data := .seq vs.toArray }) (hr : Room k callerA)
    (F : ∀ base : Heap, K.In base → base.Ns mainGlobals mg → FnG P w K mg base CX0 k fa fd [x] sp) (hbind : ∀ (s : Shared) (u : Value), BindsTo s fd ⟨[u], []⟩ [(x, u)])
    (hO : Only H) (hsp : sp [.ref a] H (fun v _ => v = .bl true) E0) (ok : HOk P w H s₁.heap) (only : ∀ b, H b ≠ none → b = a) (hK : H a ≠ none → K.lookup a = none) :
    codeAny (model P w) callerA (.call (.ref fa) ⟨[.ref a], []⟩) (LawEnd s₁) s₁ := by
  have isA : ∀ {b : Addr} {u : HO}, H b = some u → b = a := fun {b u} q => only b (by rw [q]; simp)
  have plainDict : ∀ {b : Addr} {o : Obj} {es : Array DictEntry} {ep : Nat}, s₁.heap.get? b = some o → o.data = .dict es ep → H b = none := fun {b o es ep} e d => by
    cases q : H b with
    | none => rfl
    | some u =>
      have z := isA q
      subst z
      rw [ha] at e
      cases e
      exact absurd (show Data.seq vs.toArray _ = Data.dict es ep from d) (by intro z; cases z)
  have nsB : ∀ {b : Addr} {m : Str → Option Value}, s₁.heap.Ns b m → (hidT s₁.heap H).Ns b m := fun {b m} h => by
    obtain ⟨o, es, ep, e, d, r⟩ := h
    exact ⟨o, es, ep, hidT_get e (plainDict e d), d, r⟩
  have kinB : K.In (hidT s₁.heap H) := fun b o e => hidT_get (kin b o e) (by
    cases q : H b with
    | none => rfl
    | some u =>
      have z := isA q
      subst z
      rw [hK (by rw [q]; simp)] at e
      cases e)
  have md : Mod K mg (hidT s₁.heap H) := ⟨kinB, nsB hns, ⟨mb, nsB hb, hbb⟩, by
    obtain ⟨mc, h1, h2⟩ := hlim
    exact ⟨mc, nsB h1, h2⟩⟩
  have env : Env0 P w K mg (hidT s₁.heap H) callerA [] s₁ H :=
    ⟨rfl, md, fun b o e => of_hidT e, Nat.le_of_eq (hidT_size _ _), trivial, (fun b hb => by cases hb), ok, .of_eq hg⟩
  have run := (F _ kinB (nsB hns)).run callerA [] s₁ H ⟨[.ref a], []⟩ [.ref a] [.ref a] (fun v _ => v = .bl true) E0 guards_caller hr env (hbind s₁ (.ref a)) (.cons rfl .nil) hsp
  refine codeAny_mono run fun r s' h => ?_
  cases r with
  | error e => exact False.elim h
  | ok fl =>
    cases fl with
    | ret u =>
      obtain ⟨v, H', os, bare, un, ok', rel, rfl⟩ := h
      obtain rfl : u = Value.bool true := rel
      refine ⟨rfl, OldK.of_keep fun b o e => ?_, os, bare⟩
      cases q : H b with
      | none => exact un.keep b o e q (fun z => by cases z) (by simp)
      | some u =>
        rcases hO b with z | ⟨ob, xs, z⟩
        · rw [q] at z; cases z
        · have z2 := un.frzs b ob _ z
          obtain ⟨e1, _⟩ := ok b _ z
          obtain ⟨e2, _⟩ := ok' b _ z2
          rw [e] at e1
          cases e1
          exact e2
    | next => exact False.elim h
    | brk => exact False.elim h
    | cont => exact False.elim h
/-- the heap that tells the script -/
noncomputable def tellS (a : Addr) (vs : List Value) (ns : List Int) : Hp := fun b => if b = a then some (.frz { cls := .type "list", data := .seq vs.toArray } (.lst (ns.map V.int))) else none
theorem law_run (kin : K.In s₁.heap) (hns : s₁.heap.Ns mainGlobals mg) (hb : s₁.heap.Ns builtinsNs mb) (hbb : ∀ x : Str, x ≠ "__name__" → mb x = bootBuiltins x) (hlim : s₁.heap.NoLimit) (hg : s₁.gens = #[])
    (ha : s₁.heap.get? a = some { cls := .type "list", data := .seq vs.toArray }) (hi : IntsAre vs ns) (hl : ns.length ≤ sizeLine) (hr : Room k callerA)
    (F : ∀ base : Heap, K.In base → base.Ns mainGlobals mg → FnG P w K mg base CX0 k fa fd [x] sp) (hbind : ∀ (s : Shared) (u : Value), BindsTo s fd ⟨[u], []⟩ [(x, u)])
    (hsp : ∀ H : Hp, Only H → SqL K H a (ns.map V.int) → sp [.ref a] H (fun v _ => v = .bl true) E0) :
    codeAny (model P w) callerA (.call (.ref fa) ⟨[.ref a], []⟩) (LawEnd s₁) s₁ := by
  have rel := vals_ints hi
  cases hk : K.lookup a with
  | some o =>
    have e := kin a o hk
    rw [ha] at e
    cases e
    have hO : Only (fun _ : Addr => (none : Option HO)) := fun _ => .inl rfl
    refine law_core kin hns hb hbb hlim hg ha hr F hbind hO (hsp _ hO (.inr ?_)) (fun b u z => by cases z) (fun b z => absurd rfl z) fun z => absurd rfl z
    exact ⟨_, vs.toArray, _, hk, rfl, rfl, rfl, by rw [List.size_toArray, hi.length]; exact hl, by simpa using rel⟩
  | none =>
    have self : tellS a vs ns a = some (.frz { cls := .type "list", data := .seq vs.toArray } (.lst (ns.map V.int))) := if_pos rfl
    have other : ∀ b, b ≠ a → tellS a vs ns b = none := fun b hb => if_neg hb
    have hO : Only (tellS a vs ns) := fun b => by
      by_cases z : b = a
      · subst z; exact .inr ⟨_, _, self⟩
      · exact .inl (other b z)
    refine law_core kin hns hb hbb hlim hg ha hr F hbind hO (hsp _ hO (.inl (.inr ⟨_, self⟩))) (fun b u z => ?_) (fun b z => ?_) fun _ => hk
    · by_cases e : b = a
      · subst e
        rw [self] at z
        cases z
        exact ⟨ha, by rw [List.length_map]; exact hl, vs, _, rel, ha⟩
      · rw [other b e] at z; cases z
    · exact Classical.byContradiction fun e => z (other b e)
end
/-- the goal behind k_head -/
theorem walk_df {l : PySem.W.OpenLaw} {n k : Nat} {q : Program} {loose : List Str} {XP : (Str → Option Value) → Heap → Prop} {YP : World → Heap → Prop} {d : DefRec} {K : Params → PySem.W.Frag} {m : Df} {x : Str}
    (hn : l.most = some n) (hn2 : n ≤ sizeLine) (hdf : d.params.defaults = []) (hr : Room k callerA) (hY : ∀ (w : World) (h : Heap), YP w h → (K w.params).In h)
    (F : ∀ (w : World) (mg : Str → Option Value) (fa : Addr) (h : Heap), (K w.params).In h → h.Ns mainGlobals mg → mg d.name = some (.ref fa) →
      ∃ fd : FuncData, (∀ (s : Shared) (u : Value), BindsTo s fd ⟨[u], []⟩ [(x, u)]) ∧ ∀ base : Heap, (K w.params).In base → base.Ns mainGlobals mg → FnG l.prog w (K w.params) mg base CX0 k fa fd [x] (spG (K w.params) mg m))
    (hm : ∀ ns : List Int, ns.length ≤ n → ∃ s, m (.fz (.scr ns)) [] = .ok (.fz (.bl true)) s) : PySem.W.WalkO q loose XP YP l.row.toRowW d [] (fun f vs => PySem.call f vs) := by
  refine Att.attach_call hn hdf fun w s₀ s₁ mg mb fa o pm cd doc a vs ns G Y ho hd hcd hmg hobj hints hlen hg => ?_
  obtain ⟨fd, hb, hF⟩ := F w mg fa _ (hY w _ Y) G.T.g hmg
  refine law_run (hY w _ Y) G.T.g G.T.b G.T.builtins G.T.nolimit hg hobj hints (Nat.le_trans hlen hn2) hr hF hb fun H hO hS => ?_
  obtain ⟨s', e⟩ := hm ns hlen
  refine ⟨H, .ref a, [], .fz (.scr ns), [], rfl, Sub.refl, .scr hS, .nil, ?_⟩
  rw [e]
  intro u F' H' _ _ _ _ _ _ hu
  have hu : Rep _ _ F' u (.bl true) := hu
  cases hu
  rfl
end DL
namespace DL
open PySem PySem.Spec PyProof.Rows L2
/-! ### what the top has made -/
structure ClsF (K : PySem.W.Frag) (C : Addr) : Prop where
  pg : PySem.W.plainGet K C Str.empty = true
  hd : PySem.W.hasDictIn K C = true
  po : PySem.W.plainOver K C = true
  sa : PySem.W.findIn K (.ref C) "__setattr__" = some (some (.builtin "object.__setattr__"))
  ha : PySem.W.findIn K (.ref C) "__class__" = some (some (.builtin "object.__class__"))
  ob : PySem.W.mroIn K C (.type "object") = some true
  m1 : PySem.W.mroIn K C (.type "int") = some false
  m2 : PySem.W.mroIn K C (.type "bool") = some false
  m3 : PySem.W.mroIn K C (.type "str") = some false
  m4 : PySem.W.mroIn K C (.type "list") = some false
  m5 : PySem.W.mroIn K C (.type "tuple") = some false
  cl : ∃ cd, PySem.W.clsIn K C = some cd
  ty : PySem.W.typeIn K (.ref C) = some (.type "type")
theorem kit_ref {K : PySem.W.Frag} {C : Addr} {T : String} {b : Bool} (hm : PySem.W.kitMeta T = true) (h : PySem.W.mroIn K C (.type T) = some b) : PySem.W.kitOne K (.ref C) (.type T) = some b := by
  unfold PySem.W.kitOne
  rw [if_neg (by intro z; cases eq_of_beq z)]
  unfold PySem.W.kitCls
  dsimp only
  rw [if_pos hm]
  exact h
theorem kit_refs {K : PySem.W.Frag} {C D : Addr} (F : ClsF K D) {t : Value} {b : Bool} (hne : t ≠ .ref D) (h : PySem.W.subIn K t (.ref D) = some b) : PySem.W.kitOne K t (.ref D) = some b := by
  unfold PySem.W.kitOne
  rw [if_neg (by intro z; exact hne (eq_of_beq z))]
  unfold PySem.W.kitCls
  dsimp only
  obtain ⟨cd, e⟩ := F.cl
  rw [if_pos (by rw [e, F.ty]; rfl)]
  exact h
theorem ClsF.isa {K : PySem.W.Frag} {C : Addr} (F : ClsF K C) (hn : PySem.W.specialIn K (.builtin "object.__class__") "__get__" = some (some (.builtin "getset_descriptor.__get__"))) (htk : PySem.W.takesIn K (.builtin "object.__class__") = some true) : ClsA K C where
  cl := ⟨F.pg, F.hd, F.po, F.sa⟩
  ha := F.ha
  hn := hn
  htk := htk
  hm := F.ob
  no := fun T hT => by
    simp only [List.mem_cons, List.not_mem_nil, or_false] at hT
    rcases hT with rfl | rfl | rfl | rfl | rfl
    · exact kit_ref (by decide +kernel) F.m1
    · exact kit_ref (by decide +kernel) F.m2
    · exact kit_ref (by decide +kernel) F.m3
    · exact kit_ref (by decide +kernel) F.m4
    · exact kit_ref (by decide +kernel) F.m5
  of := fun T hT => by
    simp only [prims, List.mem_cons, List.not_mem_nil, or_false] at hT
    rcases hT with rfl | rfl | rfl | rfl | rfl | rfl | rfl <;> exact kit_refs (C := C) F (by intro z; cases z) rfl
  self := if_pos (beq_self_eq_true _)
theorem ClsF.ne {K : PySem.W.Frag} {C D : Addr} (F : ClsF K D) (hne : C ≠ D) (h : PySem.W.mroIn K C (.ref D) = some false) : PySem.W.kitOne K (.ref C) (.ref D) = some false := kit_refs (C := C) F (by intro z; cases z; exact hne rfl) h
def permV {α : Type} (is : List Nat) (ds : List α) : List α := is.filterMap fun i => ds[i]?
theorem vals_perm {vs : List V} {us : List Value} (r : Vals vs us) : ∀ is : List Nat, Vals (permV is vs) (permV is us)
  | [] => .nil
  | i :: is => by
    have ih := vals_perm r is
    unfold permV at ih ⊢
    cases e : vs[i]? with
    | none =>
      have e2 : us[i]? = none := by
        rw [List.getElem?_eq_none_iff] at e ⊢
        rw [← r.length]; exact e
      rw [List.filterMap_cons_none e, List.filterMap_cons_none e2]
      exact ih
    | some v =>
      obtain ⟨u, e2, q⟩ := r.get e
      rw [List.filterMap_cons_some e, List.filterMap_cons_some e2]
      exact .cons q ih
theorem rep_perm {K : PySem.W.Frag} {mg : Str → Option Value} {F : Hp} {vs : List V} {ds : List D} (r : RepL K mg F vs ds) : ∀ is : List Nat, RepL K mg F (permV is vs) (permD is ds)
  | [] => .nil
  | i :: is => by
    have ih := rep_perm r is
    unfold permV permD at ih ⊢
    cases e : ds[i]? with
    | none =>
      have e2 : vs[i]? = none := by
        rw [List.getElem?_eq_none_iff] at e ⊢
        rw [r.length]; exact e
      rw [List.filterMap_cons_none e, List.filterMap_cons_none e2]
      exact ih
    | some d =>
      obtain ⟨v, e2, q⟩ := r.getD e
      rw [List.filterMap_cons_some e, List.filterMap_cons_some e2]
      exact .cons q ih
section
variable {P : Program} {w : World} {K : PySem.W.Frag} {mg : Str → Option Value} {base : Heap} {x qual : Str} {st : Stmt} {f : Addr} {fd : FuncData} {ps : List Str} {k : Nat} {m : Df}
theorem fun_d {oc : Value} {od an : Option Addr} {osl : Array (Option Value)} {kV doc pm cdv ct : Value} (l : K.lookup f = some ⟨oc, od, .func (PySem.W.fnOf x qual (defArgs st) (defBody st) (defScope st) .none kV doc pm an cdv ct), osl⟩) (c : PySem.W.codeIn K cdv qual = true) (kp : PySem.W.keepIn K (.ref f) = true) :
    FunD K x qual (defArgs st) (defBody st) (defScope st) [] [] f (PySem.W.fnOf x qual (defArgs st) (defBody st) (defScope st) .none kV doc pm an cdv ct) :=
  ⟨⟨oc, od, .none, kV, doc, pm, an, cdv, ct, osl, rfl, l, c, .inl ⟨rfl, rfl⟩, .inl rfl⟩, kp⟩
theorem kn_k {ks : List Str} {is : List Nat} (hm : mg x = some (.ref f)) (hk : PySem.W.keepIn K (.ref f) = true) (F : FnG P w K mg base CX0 k f fd ps (spG K mg m)) (hb : ∀ (s : Shared) (ws : List Value), ws.length = ks.length → BindsTo s fd ⟨[], ks.zip ws⟩ (ps.zip (permV is ws))) : KnK P w K mg base x k m ks (permD is) :=
  ⟨f, fd, ps, fun _ ws => permV is ws, fun _ vs => permV is vs, hm, hk, ⟨fun s us ws _ h1 h2 => by
    have : us = [] := List.length_eq_zero_iff.mp h1
    subst this
    exact hb s ws h2, fun _ r => vals_perm r is⟩, fun F vs ds r => rep_perm r is, F⟩
end
end DL
namespace DL
open PySem PySem.Spec PyProof.Rows L2
/-! ### plain data in plain words -/
def lI (xs : List Int) : List D := xs.map D.int
abbrev pD (p : Int × Int) : D := .tup [.int p.1, .int p.2]
def lP (ps : List (Int × Int)) : List D := ps.map pD
abbrev rD (xs : List Int) : D := .lst (lI xs)
def lR (xs : List (List Int)) : List D := xs.map rD
@[simp] theorem lI_nil : lI [] = [] := rfl
@[simp] theorem lI_cons (x : Int) (xs : List Int) : lI (x :: xs) = .int x :: lI xs := rfl
@[simp] theorem lI_len (xs : List Int) : (lI xs).length = xs.length := List.length_map ..
@[simp] theorem lI_get (xs : List Int) (i : Nat) : (lI xs)[i]? = (xs[i]?).map D.int := List.getElem?_map ..
@[simp] theorem lI_getE (xs : List Int) (i : Nat) (h : i < (lI xs).length) : (lI xs)[i] = D.int (xs[i]'(by simpa using h)) := List.getElem_map ..
theorem lI_app (xs ys : List Int) : lI (xs ++ ys) = lI xs ++ lI ys := List.map_append ..
theorem lI_erase (xs : List Int) (i : Nat) : (lI xs).eraseIdx i = lI (xs.eraseIdx i) := by
  unfold lI
  induction xs generalizing i with
  | nil => rfl
  | cons x xs ih => cases i <;> simp [ih]
theorem lI_inj : ∀ {xs ys : List Int}, lI xs = lI ys → xs = ys
  | [], [], _ => rfl
  | x :: xs, y :: ys, h => by
    simp only [lI_cons, List.cons.injEq, D.int.injEq] at h
    rw [h.1, lI_inj h.2]
  | [], _ :: _, h => by cases h
  | _ :: _, [], h => by cases h
@[simp] theorem lP_nil : lP [] = [] := rfl
@[simp] theorem lP_cons (x : Int × Int) (xs : List (Int × Int)) : lP (x :: xs) = pD x :: lP xs := rfl
@[simp] theorem lP_len (xs : List (Int × Int)) : (lP xs).length = xs.length := List.length_map ..
theorem lP_app (xs ys : List (Int × Int)) : lP (xs ++ ys) = lP xs ++ lP ys := List.map_append ..
@[simp] theorem lR_nil : lR [] = [] := rfl
@[simp] theorem lR_cons (x : List Int) (xs : List (List Int)) : lR (x :: xs) = rD x :: lR xs := rfl
@[simp] theorem lR_len (xs : List (List Int)) : (lR xs).length = xs.length := List.length_map ..
theorem lR_app (xs ys : List (List Int)) : lR (xs ++ ys) = lR xs ++ lR ys := List.map_append ..
theorem toPys_map {α : Type} (f : α → D) (g : α → PyData) (h : ∀ a, toPy (f a) = some (g a)) : ∀ xs : List α, toPys (xs.map f) = some (xs.map g)
  | [] => rfl
  | x :: xs => by
    show (toPy (f x)).bind (fun a => (toPys (xs.map f)).bind fun b => some (a :: b)) = _
    rw [h, toPys_map f g h xs]; rfl
theorem toPys_ints (xs : List Int) : toPys (lI xs) = some (xs.map .int) := toPys_map _ _ (fun _ => rfl) xs
theorem toPys_pairs (xs : List (Int × Int)) : toPys (lP xs) = some (xs.map fun p => .tuple [.int p.1, .int p.2]) := toPys_map _ _ (fun _ => rfl) xs
theorem toPy_row (xs : List Int) : toPy (rD xs) = some (.list (xs.map .int)) := by
  show (toPys (lI xs)).map PyData.list = _
  rw [toPys_ints]; rfl
theorem toPys_rows (xs : List (List Int)) : toPys (lR xs) = some (xs.map fun r => .list (r.map .int)) := toPys_map _ _ toPy_row xs
theorem eqvAll_ints : ∀ xs ys : List Int, PyData.eqvAll (xs.map .int) (ys.map .int) = decide (xs = ys)
  | [], [] => rfl
  | [], _ :: _ => rfl
  | _ :: _, [] => rfl
  | x :: xs, y :: ys => by
    show ((x == y) && PyData.eqvAll (xs.map .int) (ys.map .int)) = _
    rw [eqvAll_ints xs ys]
    by_cases h : x = y <;> simp [h]
theorem lay_ints : ∀ xs : List Int, PyData.canLayAll0 (xs.map .int) = true
  | [] => rfl
  | x :: xs => by
    show (true && PyData.canLayAll0 (xs.map .int)) = true
    rw [lay_ints xs]; rfl
theorem shaped_ints (xs : List Int) : SeqAt.shaped (.list (xs.map .int)) = true := by
  show (PyData.canLayAll0 (xs.map .int) && decide (PyData.depthAll (xs.map .int) + 1 ≤ 64)) = true
  rw [lay_ints, PySem.W.depth_ints]; rfl
@[simp] theorem dEq_ints (xs ys : List Int) : dEq (.lst (lI xs)) (.lst (lI ys)) = some (decide (xs = ys)) := by
  show dEqP _ _ = _
  unfold dEqP
  rw [toPy_row, toPy_row]
  show (if SeqAt.shaped (.list (xs.map .int)) = true ∧ SeqAt.shaped (.list (ys.map .int)) = true then some (PyData.eqvAll (xs.map .int) (ys.map .int)) else none) = _
  rw [if_pos ⟨shaped_ints xs, shaped_ints ys⟩, eqvAll_ints]
@[simp] theorem dEq_int (x y : Int) : dEq (.int x) (.int y) = some (decide (x = y)) := by
  show (if SeqAt.shaped (.int x) = true ∧ SeqAt.shaped (.int y) = true then some (x == y) else none) = _
  rw [if_pos ⟨rfl, rfl⟩]
  by_cases h : x = y <;> simp [h]
theorem dEq_pair (p q : Int × Int) : dEq (pD p) (pD q) = some (decide (p = q)) := by
  show (if SeqAt.shaped (.tuple [.int p.1, .int p.2]) = true ∧ SeqAt.shaped (.tuple [.int q.1, .int q.2]) = true then some ((p.1 == q.1) && ((p.2 == q.2) && true)) else none) = _
  rw [if_pos ⟨rfl, rfl⟩]
  obtain ⟨a, b⟩ := p
  obtain ⟨c, d⟩ := q
  by_cases h : a = c <;> by_cases h2 : b = d <;> simp [h, h2]
@[simp] theorem dIn_int (x : Int) (ys : List Int) : dIn (.int x) (lI ys) = some (decide (x ∈ ys)) := by
  unfold dIn
  rw [toPys_ints]
  show (if SeqAt.shaped (.int x) = true ∧ SeqAt.shaped (.list (ys.map .int)) = true then some ((ys.map PyData.int).any fun z => PyData.eqv z (.int x)) else none) = _
  rw [if_pos ⟨rfl, shaped_ints ys⟩]
  congr 1
  rw [List.any_map]
  induction ys with
  | nil => rfl
  | cons y ys ih =>
    rw [List.any_cons, ih]
    show ((y == x) || _) = _
    by_cases h : y = x
    · subst h; simp
    · have : ¬ x = y := fun z => h z.symm
      simp [h, this]
@[simp] theorem dEq_nilR (xs : List Int) : dEq (.lst (lI xs)) (.lst []) = some (decide (xs = [])) := dEq_ints xs []
@[simp] theorem dEq_nil2 : dEq (.lst []) (.lst []) = some true := rfl
@[simp] theorem ix0L (d : D) (ds : List D) : sIxD (.lst (d :: ds)) (.int 0) = some (.val d) := by
  show (atI (d :: ds) (0 : Int)).map Opd.val = _
  unfold atI ixN
  simp
@[simp] theorem ix0T (d : D) (ds : List D) : sIxD (.tup (d :: ds)) (.int 0) = some (.val d) := by
  show (atI (d :: ds) (0 : Int)).map Opd.val = _
  unfold atI ixN
  simp
@[simp] theorem intsOf_lI : ∀ l : List Int, intsOf (lI l) = some l
  | [] => rfl
  | x :: l => by
    show (intsOf (lI l)).map (x :: ·) = _
    rw [intsOf_lI l]; rfl
/-! ### sorted -/
theorem encD_int (x : Int) : encD (.int x) = .int x := rfl
theorem encD_pair (p : Int × Int) : encD (pD p) = .tuple [.int p.1, .int p.2] := rfl
theorem encD_row (xs : List Int) : encD (rD xs) = .list (xs.map .int) := by unfold encD; rw [toPy_row]; rfl
theorem le_int (x y : Int) : PySem.W.dataLe false encD (.int x) (.int y) = decide (x ≤ y) := congrFun (congrFun (PySem.W.dataLe_int (β := Int) id) x) y
def leP (p q : Int × Int) : Bool := decide (p.1 < q.1 ∨ (p.1 = q.1 ∧ p.2 ≤ q.2))
theorem le_pair (p q : Int × Int) : PySem.W.dataLe false encD (pD p) (pD q) = leP p q := congrFun (congrFun (PySem.W.dataLe_ii (β := Int × Int) Prod.fst Prod.snd) p) q
theorem le_row (p q : List Int) : PySem.W.dataLe false encD (rD p) (rD q) = decide (p ≤ q) := by
  have h := congrFun (congrFun (PySem.W.dataLe_rows (β := List Int) id) p) q
  have e : PySem.W.dataLe false encD (rD p) (rD q) = PySem.W.dataLe false (fun b : List Int => PyData.list ((id b).map .int)) p q := by
    show (!PySem.W.dataLt (encD (rD q)) (encD (rD p))) = (!PySem.W.dataLt (.list (q.map .int)) (.list (p.map .int)))
    rw [encD_row, encD_row]
  rw [e, h]; rfl
theorem sortOk_ints {xs : List Int} (h : xs.length ≤ 1000000) : SortOk (lI xs) := by
  refine ⟨fun d hd => ?_, ?_, ?_, fun d hd => ?_, by simpa using h⟩
  · obtain ⟨x, _, rfl⟩ := List.mem_map.mp hd; rfl
  · unfold lI; rw [List.map_map]; exact PySem.W.AllAlike.of fun _ _ => rfl
  · unfold lI; rw [List.map_map]; exact PySem.W.Sortable.others fun b => ⟨(fun z => by cases z), (fun _ z => by cases z)⟩
  · obtain ⟨x, _, rfl⟩ := List.mem_map.mp hd; show (0 : Nat) < 40; decide
theorem sortOk_pairs {xs : List (Int × Int)} (h : xs.length ≤ 1000000) : SortOk (lP xs) := by
  refine ⟨fun d hd => ?_, ?_, ?_, fun d hd => ?_, by simpa using h⟩
  · obtain ⟨x, _, rfl⟩ := List.mem_map.mp hd; rfl
  · unfold lP; rw [List.map_map]; exact PySem.W.AllAlike.of fun _ _ => rfl
  · unfold lP; rw [List.map_map]; exact PySem.W.Sortable.tuples fun b => ⟨_, _, rfl⟩
  · obtain ⟨x, _, rfl⟩ := List.mem_map.mp hd; show (1 : Nat) < 40; decide
theorem sortOk_rows {xs : List (List Int)} (h : xs.length ≤ 1000000) : SortOk (lR xs) := by
  refine ⟨fun d hd => ?_, ?_, ?_, fun d hd => ?_, by simpa using h⟩
  · obtain ⟨x, _, rfl⟩ := List.mem_map.mp hd; rw [toPy_row]; rfl
  · unfold lR; rw [List.map_map]; exact PySem.W.AllAlike.of fun a b => by
      show PySem.W.alike (encD (rD a)) (encD (rD b)) = true
      rw [encD_row, encD_row]
      show PySem.W.alikeAll _ _ = true
      exact PySem.W.alike_ints a b
  · unfold lR; rw [List.map_map]; exact PySem.W.Sortable.others fun b => by
      show encD (rD b) ≠ .none ∧ ∀ xs, encD (rD b) ≠ .tuple xs
      rw [encD_row]
      exact ⟨(fun z => by cases z), (fun _ z => by cases z)⟩
  · obtain ⟨x, _, rfl⟩ := List.mem_map.mp hd
    rw [encD_row]
    show PyData.depthAll _ + 1 < 40
    rw [PySem.W.depth_ints]; decide
theorem sort_ints (xs : List Int) : (lI xs).mergeSort (PySem.W.dataLe false encD) = lI (xs.mergeSort fun a b => decide (a ≤ b)) := (List.map_mergeSort fun a _ b _ => (le_int a b).symm).symm
theorem sort_pairs (xs : List (Int × Int)) : (lP xs).mergeSort (PySem.W.dataLe false encD) = lP (xs.mergeSort leP) := (List.map_mergeSort fun a _ b _ => (le_pair a b).symm).symm
theorem sort_rows (xs : List (List Int)) : (lR xs).mergeSort (PySem.W.dataLe false encD) = lR (xs.mergeSort fun a b => decide (a ≤ b)) := (List.map_mergeSort fun a _ b _ => (le_row a b).symm).symm
theorem bSorted_ints {xs : List Int} (h : xs.length ≤ 1000000) : bSorted [.lst (lI xs)] = some (.tmp (lI (xs.mergeSort fun a b => decide (a ≤ b)))) := by
  unfold bSorted
  dsimp only
  rw [if_pos (sortOk_ints h), sort_ints]
theorem bSorted_pairs {xs : List (Int × Int)} (h : xs.length ≤ 1000000) : bSorted [.lst (lP xs)] = some (.tmp (lP (xs.mergeSort leP))) := by
  unfold bSorted
  dsimp only
  rw [if_pos (sortOk_pairs h), sort_pairs]
theorem bSorted_pairsT {xs : List (Int × Int)} (h : xs.length ≤ 1000000) : bSorted [.tup (lP xs)] = some (.tmp (lP (xs.mergeSort leP))) := by
  unfold bSorted
  dsimp only
  rw [if_pos (sortOk_pairs h), sort_pairs]
theorem bSorted_rows {xs : List (List Int)} (h : xs.length ≤ 1000000) : bSorted [.lst (lR xs)] = some (.tmp (lR (xs.mergeSort fun a b => decide (a ≤ b)))) := by
  unfold bSorted
  dsimp only
  rw [if_pos (sortOk_rows h), sort_rows]
end DL
namespace DL
open PySem PySem.Spec PyProof.Rows L2
/-! ### tools for meanings -/
theorem gNext_ap (ρ : Rho) : gNext ρ = .nx ρ := rfl
theorem loop_pure {src : Src} {own : List Nat} {t : Tgt} {test : M Bool} {elt : M D} {all : List D} {ρ0 : Rho} {p : D → Bool} {f : D → D} (hi : src.items ρ0 = some all) (hl : all.length ≤ 1000000) :
    ∀ (ds acc : List D), acc.length + ds.length ≤ all.length →
      (∀ d ∈ ds, ∃ ρd, bindT t d ρ0 = some ρd ∧ ownOk ρd own = true ∧ wipeR ρd own = ρ0 ∧ test ρd = .ok (p d) ρd ∧ (p d = true → elt ρd = .ok (f d) ρd)) →
      compLoop src own t test elt all ds acc ρ0 = .ok (acc ++ (ds.filter p).map f) ρ0
  | [], acc, _, _ => by
    unfold compLoop
    rw [if_pos hi]; simp
  | d :: ds, acc, hlen, h => by
    obtain ⟨ρd, h1, h2, h3, h4, h5⟩ := h d List.mem_cons_self
    have ih := fun acc' hl' => loop_pure (p := p) (f := f) (t := t) (test := test) (elt := elt) (own := own) hi hl ds acc' hl' fun x hx => h x (List.mem_cons_of_mem _ hx)
    unfold compLoop
    rw [if_pos hi, h1]
    dsimp only
    rw [h4]
    cases e : p d with
    | true =>
      dsimp only
      rw [h5 e]
      dsimp only
      rw [if_pos ⟨h2, by simp at hlen; omega⟩, h3, ih _ (by simp at hlen ⊢; omega)]
      simp [e]
    | false =>
      dsimp only
      rw [if_pos h2, h3, ih _ (by simp at hlen ⊢; omega)]
      simp [e]
theorem restR_wipe : ∀ {own : List Nat} {ρ : Rho}, restR ρ (wipeR ρ own) own = ρ := by
  intro own ρ
  apply List.ext_getElem?
  intro j
  by_cases hj : j ∈ own
  · by_cases hl : j < ρ.length
    · rw [restR_in hj (by rw [wipeR_len]; exact hl)]
      simp [List.getD, hl]
    · rw [List.getElem?_eq_none (by rw [restR_len, wipeR_len]; omega), List.getElem?_eq_none (by omega)]
  · rw [restR_out hj]
    cases e : (wipeR ρ own)[j]? with
    | none =>
      rw [List.getElem?_eq_none_iff, wipeR_len] at e
      rw [List.getElem?_eq_none e]
    | some s =>
      rcases wipeR_get e with ⟨h, _⟩ | ⟨_, h⟩
      · exact absurd h hj
      · exact h.symm
/-- a comprehension that changes nothing -/
theorem comp_pure {ms : M Src} {own : List Nat} {t : Tgt} {test : M Bool} {elt : M D} {ρ ρ1 : Rho} {src : Src} {ds : List D} (p : D → Bool) (f : D → D) (h1 : ms ρ = .ok src ρ1) (ho : ownOk ρ1 own = true) (hi : src.items (wipeR ρ1 own) = some ds) (hl : ds.length ≤ 1000000)
    (h : ∀ d ∈ ds, ∃ ρd, bindT t d (wipeR ρ1 own) = some ρd ∧ ownOk ρd own = true ∧ wipeR ρd own = wipeR ρ1 own ∧ test ρd = .ok (p d) ρd ∧ (p d = true → elt ρd = .ok (f d) ρd)) :
    mComp ms own t test elt ρ = .ok (.tmp ((ds.filter p).map f)) ρ1 := by
  unfold mComp
  rw [h1]
  show (if ownOk ρ1 own = true then _ else _) = _
  rw [if_pos ho, hi]
  dsimp only
  rw [loop_pure (p := p) (f := f) hi hl ds [] (by simp) h]
  dsimp only
  rw [restR_wipe, List.nil_append]
/-- over a list of encoded items -/
theorem comp_enc {α : Type} {ms : M Src} {own : List Nat} {t : Tgt} {test : M Bool} {elt : M D} {ρ ρ1 : Rho} {src : Src} {xs : List α} {en : α → D} (p : α → Bool) (f : α → D) (h1 : ms ρ = .ok src ρ1) (ho : ownOk ρ1 own = true) (hi : src.items (wipeR ρ1 own) = some (xs.map en)) (hl : xs.length ≤ 1000000)
    (inj : ∀ a b, en a = en b → a = b)
    (h : ∀ x ∈ xs, ∃ ρd, bindT t (en x) (wipeR ρ1 own) = some ρd ∧ ownOk ρd own = true ∧ wipeR ρd own = wipeR ρ1 own ∧ test ρd = .ok (p x) ρd ∧ (p x = true → elt ρd = .ok (f x) ρd)) :
    mComp ms own t test elt ρ = .ok (.tmp ((xs.filter p).map f)) ρ1 := by
  classical
  let dec : D → Option α := fun d => if h : ∃ a, en a = d then some h.choose else none
  have hdec : ∀ a, dec (en a) = some a := fun a => by
    have hx : ∃ b, en b = en a := ⟨a, rfl⟩
    show (if h : ∃ b, en b = en a then some h.choose else none) = _
    rw [dif_pos hx, inj _ _ hx.choose_spec]
  have e := comp_pure (ms := ms) (own := own) (t := t) (test := test) (elt := elt) (fun d => (dec d).elim false p) (fun d => (dec d).elim .non f) h1 ho hi (by simpa using hl) (fun d hd => by
    obtain ⟨x, hx, rfl⟩ := List.mem_map.mp hd
    obtain ⟨ρd, g1, g2, g3, g4, g5⟩ := h x hx
    refine ⟨ρd, g1, g2, g3, ?_, ?_⟩
    · rw [hdec]; exact g4
    · rw [hdec]; exact g5)
  rw [e]
  congr 2
  clear e h hi hl
  induction xs with
  | nil => rfl
  | cons x xs ih =>
    rw [List.map_cons, List.filter_cons, List.filter_cons]
    rw [hdec]
    show (if p x = true then _ else _ : List D).map _ = _
    by_cases hp : p x = true
    · rw [if_pos hp, if_pos hp, List.map_cons, List.map_cons, ih, hdec]; rfl
    · rw [if_neg hp, if_neg hp, ih]
/-- a loop by its invariant -/
theorem for_inv {t : Tgt} {g : G} {all : List D} (Inv : List D → Rho → Prop) (h : ∀ done d rest ρ, all = done ++ d :: rest → Inv done ρ → ∃ ρ1 ρ2, bindT t d ρ = some ρ1 ∧ (g ρ1 = .nx ρ2 ∨ g ρ1 = .ct ρ2) ∧ Inv (done ++ [d]) ρ2) :
    ∀ {ds done : List D} {ρ : Rho}, all = done ++ ds → Inv done ρ → ∃ ρ', forLoop t g ds ρ = .nx ρ' ∧ Inv all ρ'
  | [], done, ρ, e, h0 => ⟨ρ, rfl, by rw [e, List.append_nil]; exact h0⟩
  | d :: ds, done, ρ, e, h0 => by
    obtain ⟨ρ1, ρ2, h1, h2, h3⟩ := h done d ds ρ e h0
    obtain ⟨ρ', h4, h5⟩ := for_inv Inv h (ds := ds) (by rw [e, List.append_cons]) h3
    refine ⟨ρ', ?_, h5⟩
    unfold forLoop
    rw [h1]
    dsimp only
    rcases h2 with h2 | h2 <;> rw [h2] <;> exact h4
theorem for_all {t : Tgt} {g : G} {ds : List D} {ρ : Rho} (Inv : List D → Rho → Prop) (h0 : Inv [] ρ) (h : ∀ done d rest ρ, ds = done ++ d :: rest → Inv done ρ → ∃ ρ1 ρ2, bindT t d ρ = some ρ1 ∧ (g ρ1 = .nx ρ2 ∨ g ρ1 = .ct ρ2) ∧ Inv (done ++ [d]) ρ2) :
    ∃ ρ', forLoop t g ds ρ = .nx ρ' ∧ Inv ds ρ' := for_inv Inv h rfl h0
/-- a while loop by a measure -/
theorem while_inv {t : M Bool} {g : G} (Inv : Nat → Rho → Prop) (Out : Fl → Prop) (hno : ¬ Out .no) (h : ∀ n ρ, Inv n ρ → (∃ ρ1, t ρ = .ok false ρ1 ∧ Out (.nx ρ1)) ∨ ∃ ρ1, t ρ = .ok true ρ1 ∧ ((∃ ρ2 m, (g ρ1 = .nx ρ2 ∨ g ρ1 = .ct ρ2) ∧ m < n ∧ Inv m ρ2) ∨ (∃ r ρ2, g ρ1 = .rt r ρ2 ∧ Out (.rt r ρ2)) ∨ ∃ ρ2, g ρ1 = .bk ρ2 ∧ Out (.nx ρ2))) :
    ∀ {n : Nat} {ρ : Rho}, Inv n ρ → Out (gWhile t g ρ) := by
  have key : ∀ n ρ, Inv n ρ → ∃ k, Out (whileLoop t g k ρ) := by
    intro n
    induction n using Nat.strongRecOn with
    | ind n ih =>
      intro ρ hi
      rcases h n ρ hi with ⟨ρ1, h1, h2⟩ | ⟨ρ1, h1, h2⟩
      · exact ⟨1, by unfold whileLoop; rw [h1]; exact h2⟩
      · rcases h2 with ⟨ρ2, m, h3, h4, h5⟩ | ⟨r, ρ2, h3, h4⟩ | ⟨ρ2, h3, h4⟩
        · obtain ⟨k, hk⟩ := ih m h4 ρ2 h5
          refine ⟨k + 1, ?_⟩
          unfold whileLoop
          rw [h1]
          show Out (match g ρ1 with | .nx ρ2 => whileLoop t g k ρ2 | .ct ρ2 => whileLoop t g k ρ2 | .bk ρ2 => .nx ρ2 | .rt r ρ2 => .rt r ρ2 | .ex c as ρ2 => .ex c as ρ2 | .no => .no)
          rcases h3 with h3 | h3 <;> rw [h3] <;> exact hk
        · refine ⟨1, ?_⟩
          unfold whileLoop
          rw [h1]
          show Out (match g ρ1 with | .nx ρ2 => whileLoop t g 0 ρ2 | .ct ρ2 => whileLoop t g 0 ρ2 | .bk ρ2 => .nx ρ2 | .rt r ρ2 => .rt r ρ2 | .ex c as ρ2 => .ex c as ρ2 | .no => .no)
          rw [h3]; exact h4
        · refine ⟨1, ?_⟩
          unfold whileLoop
          rw [h1]
          show Out (match g ρ1 with | .nx ρ2 => whileLoop t g 0 ρ2 | .ct ρ2 => whileLoop t g 0 ρ2 | .bk ρ2 => .nx ρ2 | .rt r ρ2 => .rt r ρ2 | .ex c as ρ2 => .ex c as ρ2 | .no => .no)
          rw [h3]; exact h4
  intro n ρ hi
  obtain ⟨k, hk⟩ := key n ρ hi
  rw [gWhile_eq (n := k) fun z => hno (z ▸ hk)]
  exact hk
end DL
namespace DL
open PySem PySem.Spec PyProof.Rows L2
def top (i : Nat) : Stmt := PySem.Challenge.pw_toldpushes_k42_any_value_as_barred_lot.main.body.getD i (.Pass ⟨0, 0, 0, 0⟩)
abbrev clsL : List Str := [("Known" : Str), ("Plan" : Str)]
structure Cs where
  Known : Addr
  Plan : Addr
structure Txt (K : PySem.W.Frag) (mg : Str → Option Value) (C : Cs) : Prop where
  b_abs : mg "abs" = none
  b_all : mg "all" = none
  b_any : mg "any" = none
  b_bool : mg "bool" = none
  b_divmod : mg "divmod" = none
  b_enumerate : mg "enumerate" = none
  b_int : mg "int" = none
  b_isinstance : mg "isinstance" = none
  b_len : mg "len" = none
  b_list : mg "list" = none
  b_max : mg "max" = none
  b_min : mg "min" = none
  b_range : mg "range" = none
  b_repr : mg "repr" = none
  b_sorted : mg "sorted" = none
  b_tuple : mg "tuple" = none
  b_zip : mg "zip" = none
  g_MOST_SIZE : ∃ u, mg "MOST_SIZE" = some u ∧ RelV (.int 6) u
  c_Known : mg "Known" = some (.ref C.Known)
  c_Plan : mg "Plan" = some (.ref C.Plan)
  fl_Plan_own_arrows : ∀ A, mg "Plan" = some (.ref A) → Cls K A ∧ NoAttr K A "own_arrows"
  fl_Plan_own_ties : ∀ A, mg "Plan" = some (.ref A) → Cls K A ∧ NoAttr K A "own_ties"
  fl_Plan_own_width : ∀ A, mg "Plan" = some (.ref A) → Cls K A ∧ NoAttr K A "own_width"
  iok : ∀ c ∈ clsL, ∀ A, mg c = some (.ref A) → ClsA K A
  ine : ∀ c ∈ clsL, ∀ d ∈ clsL, c ≠ d → ∀ A B, mg c = some (.ref A) → mg d = some (.ref B) → PySem.W.kitOne K (.ref A) (.ref B) = some false
section
variable {P : Program} {w : World} {K : PySem.W.Frag} {mg : Str → Option Value} {base : Heap} {CS : Cs}
/-! _law_draw -/
noncomputable def g_f_law_draw : G := (gSeq (gIf (mTestB (mBin sGt (mBin sIxD (mNm 0) (mC (.int (0)))) (mC (.int (0)))))
  (gSeq (gPot 0 0 2 (mV (mB bDivmod (mCons (mBin sIxD (mNm 0) (mC (.int (0)))) (mCons (mNm 1) mNil)))))
  (gRet (mNm 2)))
  gNext)
  (gSeq (gSetIx 0 (mC (.int (1))) (mV (mBin sMod (mB bInt (mCons (mBin sAdd (mBin sMul (mBin sIxD (mNm 0) (mC (.int (1)))) (mC (.int (39541)))) (mC (.int (6869)))) mNil)) (mC (.int (2147483549))))))
  (gRet (mBin sMod (mB bInt (mCons (mBin sFdiv (mBin sMod (mB bInt (mCons (mBin sMul (mBin sIxD (mNm 0) (mC (.int (1)))) (mBin sIxD (mNm 0) (mC (.int (1))))) mNil)) (mC (.int (2147483543)))) (mC (.int (23)))) mNil)) (mNm 1)))))
noncomputable def m_f_law_draw : Df := mkDf 2 3 g_f_law_draw
abbrev n_f_law_draw : List Str := [("_law_pot_here" : Str), ("_law_size" : Str), ("_law_digit" : Str)]
abbrev p_f_law_draw : List Str := [("_law_pot_here" : Str), ("_law_size" : Str)]
abbrev s_f_law_draw : Stmt := (top 35)
theorem sc_f_law_draw : FnScope n_f_law_draw p_f_law_draw (defScope s_f_law_draw) := ⟨rfl, rfl, rfl, by decide +kernel, rfl, by decide +kernel, by decide +kernel⟩
theorem ok_f_law_draw {f : Addr} {fd : FuncData} {dvs : List V} (F : FunD K ("_law_draw" : Str) ("_law_draw" : Str) (defArgs s_f_law_draw) (defBody s_f_law_draw) (defScope s_f_law_draw) dvs [] f fd) (T : Txt K mg CS)  : FnG P w K mg base CX0 1 f fd p_f_law_draw (spG K mg m_f_law_draw) :=
  fn_df F sc_f_law_draw (by decide) fun cdv A out s H n c => (s_cons (s_if (t_gt n (o_ix n (o_nm 0) o_int) o_int)
  (s_cons (s_pot n 0 0 2 (v_of (o_divmod n T.b_divmod (os_cons (o_ix n (o_nm 0) o_int) (os_cons (o_nm 1) os_nil)))) (pv 0) pe_int)
  (s_one (s_ret (o_nm 2))))
  s_nil)
  (s_cons (s_setIx n 0 (v_of (o_mod n (o_intB n T.b_int (os_cons (o_add n (o_mul n (o_ix n (o_nm 0) o_int) o_int) o_int) os_nil)) o_int)) (pv 0) o_int)
  (s_one (s_ret (o_mod n (o_intB n T.b_int (os_cons (o_fdiv n (o_mod n (o_intB n T.b_int (os_cons (o_mul n (o_ix n (o_nm 0) o_int) (o_ix n (o_nm 0) o_int)) os_nil)) o_int) o_int) os_nil)) (o_nm 1))))))
/-! _law_order -/
noncomputable def g_f_law_order : G := (gSeq (gPar [true, true] [2, 3] (mCons (mUn sRng (mNm 1)) (mCons (mLst mNil) mNil)))
  (gSeq (gFor (mRng1 (mCons (mNm 1) mNil)) (.nm 4)
  (gExpr (mAppend 3 (mV (mPopAt 2 (mCallR m_f_law_draw 0 (mCons (mV (mB bLen (mCons (mNm 2) mNil))) mNil)))))))
  (gRet (mNm 3))))
noncomputable def m_f_law_order : Df := mkDf 2 5 g_f_law_order
abbrev n_f_law_order : List Str := [("_law_pot_here" : Str), ("_law_many" : Str), ("_law_left" : Str), ("_law_found" : Str), ("_law_turn" : Str)]
abbrev p_f_law_order : List Str := [("_law_pot_here" : Str), ("_law_many" : Str)]
abbrev s_f_law_order : Stmt := (top 43)
theorem sc_f_law_order : FnScope n_f_law_order p_f_law_order (defScope s_f_law_order) := ⟨rfl, rfl, rfl, by decide +kernel, rfl, by decide +kernel, by decide +kernel⟩
theorem ok_f_law_order {f : Addr} {fd : FuncData} {dvs : List V} (F : FunD K ("_law_order" : Str) ("_law_order" : Str) (defArgs s_f_law_order) (defBody s_f_law_order) (defScope s_f_law_order) dvs [] f fd) (T : Txt K mg CS) (C_f_law_draw : Kn P w K mg base ("_law_draw" : Str) 1 m_f_law_draw) : FnG P w K mg base CX0 2 f fd p_f_law_order (spG K mg m_f_law_order) :=
  fn_df F sc_f_law_order (by decide) fun cdv A out s H n c => (s_cons (s_par n true true 2 3 (os_cons (o_listRange n T.b_list T.b_range (o_nm 1)) (os_cons (o_lst vs_nil) os_nil)))
  (s_cons (s_for n PassesOwn.never (.nm 4) (i_rng1 n T.b_range (os_cons (o_nm 1) os_nil)) (g_nm n 4)
  (s_one (s_expr (o_append n 3 (pv 3) (v_of (o_popAt n 2 (pv 2) (o_callR n c 0 (C_f_law_draw.mono (by decide)) (pv 0) (vs_cons (v_of (o_len n T.b_len (os_cons (o_nm 2) os_nil))) vs_nil).pa)))))))
  (s_one (s_ret (o_nm 3)))))
/-! _law_world -/
noncomputable def g_f_law_world : G := (gSeq (gPar [false, true, true, false] [2, 3, 4, 5] (mCons (mCallR m_f_law_order 0 (mCons (mV (mNm 1)) mNil)) (mCons (mLst mNil) (mCons (mLst mNil) (mCons (mCallR m_f_law_draw 0 (mCons (mV (mC (.int (3)))) mNil)) mNil)))))
  (gSeq (gFor (mRng1 (mCons (mNm 1) mNil)) (.nm 6)
  (gFor (mRng2 (mCons (mBin sAdd (mNm 6) (mC (.int (1)))) (mCons (mNm 1) mNil))) (.nm 7)
  (gSeq (gIf (mTestB (mBin sLe (mCallR m_f_law_draw 0 (mCons (mV (mC (.int (4)))) mNil)) (mNm 5)))
  (gExpr (mAppend 3 (mV (mTup (mCons (mV (mBin sIxD (mNm 2) (mNm 6))) (mCons (mV (mBin sIxD (mNm 2) (mNm 7))) mNil))))))
  gNext)
  (gIf (mTestB (mBin sLe (mCallR m_f_law_draw 0 (mCons (mV (mC (.int (4)))) mNil)) (mNm 5)))
  (gExpr (mAppend 4 (mV (mTup (mCons (mV (mB bMin (mCons (mBin sIxD (mNm 2) (mNm 6)) (mCons (mBin sIxD (mNm 2) (mNm 7)) mNil)))) (mCons (mV (mB bMax (mCons (mBin sIxD (mNm 2) (mNm 6)) (mCons (mBin sIxD (mNm 2) (mNm 7)) mNil)))) mNil))))))
  gNext))))
  (gRet (mTup (mCons (mV (mNm 1)) (mCons (mV (mB bSorted (mCons (mNm 3) mNil))) (mCons (mV (mB bSorted (mCons (mNm 4) mNil))) mNil)))))))
noncomputable def m_f_law_world : Df := mkDf 2 8 g_f_law_world
abbrev n_f_law_world : List Str := [("_law_pot_here" : Str), ("_law_many" : Str), ("_law_order_here" : Str), ("_law_arrows" : Str), ("_law_ties" : Str), ("_law_dense" : Str), ("_law_at" : Str), ("_law_to" : Str)]
abbrev p_f_law_world : List Str := [("_law_pot_here" : Str), ("_law_many" : Str)]
abbrev s_f_law_world : Stmt := (top 44)
theorem sc_f_law_world : FnScope n_f_law_world p_f_law_world (defScope s_f_law_world) := ⟨rfl, rfl, rfl, by decide +kernel, rfl, by decide +kernel, by decide +kernel⟩
theorem ok_f_law_world {f : Addr} {fd : FuncData} {dvs : List V} (F : FunD K ("_law_world" : Str) ("_law_world" : Str) (defArgs s_f_law_world) (defBody s_f_law_world) (defScope s_f_law_world) dvs [] f fd) (T : Txt K mg CS) (C_f_law_draw : Kn P w K mg base ("_law_draw" : Str) 1 m_f_law_draw) (C_f_law_order : Kn P w K mg base ("_law_order" : Str) 2 m_f_law_order) : FnG P w K mg base CX0 3 f fd p_f_law_world (spG K mg m_f_law_world) :=
  fn_df F sc_f_law_world (by decide) fun cdv A out s H n c => (s_cons (s_parN n [false, true, true, false] [2, 3, 4, 5] (os_cons (o_callR n c 0 (C_f_law_order.mono (by decide)) (pv 0) (vs_cons (v_of (o_nm 1)) vs_nil).pa) (os_cons (o_lst vs_nil) (os_cons (o_lst vs_nil) (os_cons (o_callR n c 0 (C_f_law_draw.mono (by decide)) (pv 0) (vs_cons (v_of o_int) vs_nil).pa) os_nil)))) (g_tup n (is := [2, 3, 4, 5]) (gs_cons n 2 (gs_cons n 3 (gs_cons n 4 (gs_cons n 5 gs_nil))))))
  (s_cons (s_for n PassesOwn.never (.nm 6) (i_rng1 n T.b_range (os_cons (o_nm 1) os_nil)) (g_nm n 6)
  (s_one (s_for n PassesOwn.never (.nm 7) (i_rng2 n T.b_range (os_cons (o_add n (o_nm 6) o_int) (os_cons (o_nm 1) os_nil))) (g_nm n 7)
  (s_cons (s_if (t_le n (o_callR n c 0 (C_f_law_draw.mono (by decide)) (pv 0) (vs_cons (v_of o_int) vs_nil).pa) (o_nm 5))
  (s_one (s_expr (o_append n 3 (pv 3) (v_of (o_tup (vs_cons (v_of (o_ix n (o_nm 2) (o_nm 6))) (vs_cons (v_of (o_ix n (o_nm 2) (o_nm 7))) vs_nil)))))))
  s_nil)
  (s_one (s_if (t_le n (o_callR n c 0 (C_f_law_draw.mono (by decide)) (pv 0) (vs_cons (v_of o_int) vs_nil).pa) (o_nm 5))
  (s_one (s_expr (o_append n 4 (pv 4) (v_of (o_tup (vs_cons (v_of (o_min n T.b_min (os_cons (o_ix n (o_nm 2) (o_nm 6)) (os_cons (o_ix n (o_nm 2) (o_nm 7)) os_nil)))) (vs_cons (v_of (o_max n T.b_max (os_cons (o_ix n (o_nm 2) (o_nm 6)) (os_cons (o_ix n (o_nm 2) (o_nm 7)) os_nil)))) vs_nil)))))))
  s_nil))))))
  (s_one (s_ret (o_tup (vs_cons (v_of (o_nm 1)) (vs_cons (v_of (o_sorted n T.b_sorted (os_cons (o_nm 3) os_nil))) (vs_cons (v_of (o_sorted n T.b_sorted (os_cons (o_nm 4) os_nil))) vs_nil))))))))
/-! is_integer -/
noncomputable def g_is_integer : G := (gRet (mAnd (mUn (isB clsL "int") (mNm 0)) (mNot (mUn (isB clsL "bool") (mNm 0)))))
noncomputable def m_is_integer : Df := mkDf 1 1 g_is_integer
abbrev n_is_integer : List Str := [("value" : Str)]
abbrev p_is_integer : List Str := [("value" : Str)]
abbrev s_is_integer : Stmt := (top 8)
theorem sc_is_integer : FnScope n_is_integer p_is_integer (defScope s_is_integer) := ⟨rfl, rfl, rfl, by decide +kernel, rfl, by decide +kernel, by decide +kernel⟩
theorem ok_is_integer {f : Addr} {fd : FuncData} {dvs : List V} (F : FunD K ("is_integer" : Str) ("is_integer" : Str) (defArgs s_is_integer) (defBody s_is_integer) (defScope s_is_integer) dvs [] f fd) (T : Txt K mg CS)  : FnG P w K mg base CX0 1 f fd p_is_integer (spG K mg m_is_integer) :=
  fn_df F sc_is_integer (by decide) fun cdv A out s H n c => (s_one (s_ret (o_and (o_isB n ⟨T.iok, T.ine⟩ "int" (by simp) T.b_isinstance T.b_int (by decide +kernel) (o_nm 0)) (o_one (o_not n (o_isB n ⟨T.iok, T.ine⟩ "bool" (by simp) T.b_isinstance T.b_bool (by decide +kernel) (o_nm 0)))))))
/-! is_count -/
noncomputable def g_is_count : G := (gRet (mAnd (mCall m_is_integer (mCons (mV (mNm 0)) mNil)) (mBin sGe (mNm 0) (mC (.int (0))))))
noncomputable def m_is_count : Df := mkDf 1 1 g_is_count
abbrev n_is_count : List Str := [("value" : Str)]
abbrev p_is_count : List Str := [("value" : Str)]
abbrev s_is_count : Stmt := (top 9)
theorem sc_is_count : FnScope n_is_count p_is_count (defScope s_is_count) := ⟨rfl, rfl, rfl, by decide +kernel, rfl, by decide +kernel, by decide +kernel⟩
theorem ok_is_count {f : Addr} {fd : FuncData} {dvs : List V} (F : FunD K ("is_count" : Str) ("is_count" : Str) (defArgs s_is_count) (defBody s_is_count) (defScope s_is_count) dvs [] f fd) (T : Txt K mg CS) (C_is_integer : Kn P w K mg base ("is_integer" : Str) 1 m_is_integer) : FnG P w K mg base CX0 2 f fd p_is_count (spG K mg m_is_count) :=
  fn_df F sc_is_count (by decide) fun cdv A out s H n c => (s_one (s_ret (o_and (o_callD n c (C_is_integer.mono (by decide)) (vs_cons (v_of (o_nm 0)) vs_nil).pa) (o_one (o_ge n (o_nm 0) o_int)))))
/-! is_list -/
noncomputable def g_is_list : G := (gRet (mUn (isLT clsL) (mNm 0)))
noncomputable def m_is_list : Df := mkDf 1 1 g_is_list
abbrev n_is_list : List Str := [("value" : Str)]
abbrev p_is_list : List Str := [("value" : Str)]
abbrev s_is_list : Stmt := (top 10)
theorem sc_is_list : FnScope n_is_list p_is_list (defScope s_is_list) := ⟨rfl, rfl, rfl, by decide +kernel, rfl, by decide +kernel, by decide +kernel⟩
theorem ok_is_list {f : Addr} {fd : FuncData} {dvs : List V} (F : FunD K ("is_list" : Str) ("is_list" : Str) (defArgs s_is_list) (defBody s_is_list) (defScope s_is_list) dvs [] f fd) (T : Txt K mg CS)  : FnG P w K mg base CX0 1 f fd p_is_list (spG K mg m_is_list) :=
  fn_df F sc_is_list (by decide) fun cdv A out s H n c => (s_one (s_ret (o_isLT n ⟨T.iok, T.ine⟩ T.b_isinstance T.b_list T.b_tuple (o_nm 0))))
/-! is_thing -/
noncomputable def g_is_thing : G := (gRet (mAnd (mCall m_is_count (mCons (mV (mNm 1)) mNil)) (mBin sLt (mNm 1) (mNm 0))))
noncomputable def m_is_thing : Df := mkDf 2 2 g_is_thing
abbrev n_is_thing : List Str := [("width" : Str), ("value" : Str)]
abbrev p_is_thing : List Str := [("width" : Str), ("value" : Str)]
abbrev s_is_thing : Stmt := (top 13)
theorem sc_is_thing : FnScope n_is_thing p_is_thing (defScope s_is_thing) := ⟨rfl, rfl, rfl, by decide +kernel, rfl, by decide +kernel, by decide +kernel⟩
theorem ok_is_thing {f : Addr} {fd : FuncData} {dvs : List V} (F : FunD K ("is_thing" : Str) ("is_thing" : Str) (defArgs s_is_thing) (defBody s_is_thing) (defScope s_is_thing) dvs [] f fd) (T : Txt K mg CS) (C_is_count : Kn P w K mg base ("is_count" : Str) 2 m_is_count) : FnG P w K mg base CX0 3 f fd p_is_thing (spG K mg m_is_thing) :=
  fn_df F sc_is_thing (by decide) fun cdv A out s H n c => (s_one (s_ret (o_and (o_callD n c (C_is_count.mono (by decide)) (vs_cons (v_of (o_nm 1)) vs_nil).pa) (o_one (o_lt n (o_nm 1) (o_nm 0))))))
/-! is_arrow -/
noncomputable def g_is_arrow : G := (gSeq (gIf (mOrT (mNotT (mTest (mUn (isB clsL "tuple") (mNm 1)))) (mOrT (mTestB (mBin sNe (mB bLen (mCons (mNm 1) mNil)) (mC (.int (2))))) (mNotT (mTest (mB bAll (mCons (mComp (mSeq (mNm 1)) [2] (.nm 2) mYes (mV (mCall m_is_thing (mCons (mV (mNm 0)) (mCons (mV (mNm 2)) mNil))))) mNil))))))
  (gRet (mC (.bl false)))
  gNext)
  (gRet (mBin sNe (mBin sIxD (mNm 1) (mC (.int (0)))) (mBin sIxD (mNm 1) (mC (.int (1)))))))
noncomputable def m_is_arrow : Df := mkDf 2 3 g_is_arrow
abbrev n_is_arrow : List Str := [("width" : Str), ("value" : Str), ("thing" : Str)]
abbrev p_is_arrow : List Str := [("width" : Str), ("value" : Str)]
abbrev s_is_arrow : Stmt := (top 14)
theorem sc_is_arrow : FnScope n_is_arrow p_is_arrow (defScope s_is_arrow) := ⟨rfl, rfl, rfl, by decide +kernel, rfl, by decide +kernel, by decide +kernel⟩
theorem ok_is_arrow {f : Addr} {fd : FuncData} {dvs : List V} (F : FunD K ("is_arrow" : Str) ("is_arrow" : Str) (defArgs s_is_arrow) (defBody s_is_arrow) (defScope s_is_arrow) dvs [] f fd) (T : Txt K mg CS) (C_is_thing : Kn P w K mg base ("is_thing" : Str) 3 m_is_thing) : FnG P w K mg base CX0 4 f fd p_is_arrow (spG K mg m_is_arrow) :=
  fn_df F sc_is_arrow (by decide) fun cdv A out s H n c => (s_cons (s_if (t_w (t_or (t_not (t_of n (o_isB n ⟨T.iok, T.ine⟩ "tuple" (by simp) T.b_isinstance T.b_tuple (by decide +kernel) (o_nm 1)))) (t_or (t_ne n (o_len n T.b_len (os_cons (o_nm 1) os_nil)) o_int) (t_or1 (t_not (t_of n (o_all n T.b_all (os_cons (o_comp n (.nm 2) (i_seq n (o_nm 1)) (blkOk_by (own := [(("thing" : Str), 2)]) (by kernel_rfl)) (by decide) (fun _ _ _ _ _ => (g_nm n.blk 2)) (fun _ _ _ _ _ n => ts_nil) (fun _ _ _ _ _ n => (v_of (o_callD n c.blk (C_is_thing.mono (by decide)) (vs_cons (v_of (o_nm 0)) (vs_cons (v_of (o_nm 2)) vs_nil)).pa)))) os_nil))))))))
  (s_one (s_ret o_bl))
  s_nil)
  (s_one (s_ret (o_ne n (o_ix n (o_nm 1) o_int) (o_ix n (o_nm 1) o_int)))))
/-! arrows_in -/
noncomputable def g_arrows_in : G := (gSeq (gIf (mOrT (mNotT (mTest (mCall m_is_list (mCons (mV (mNm 1)) mNil)))) (mNotT (mTest (mB bAll (mCons (mComp (mSeq (mNm 1)) [2] (.nm 2) mYes (mV (mCall m_is_arrow (mCons (mV (mNm 0)) (mCons (mV (mNm 2)) mNil))))) mNil)))))
  (gRet (mC .non))
  gNext)
  (gRet (mB bSorted (mCons (mNm 1) mNil))))
noncomputable def m_arrows_in : Df := mkDf 2 3 g_arrows_in
abbrev n_arrows_in : List Str := [("width" : Str), ("value" : Str), ("one" : Str)]
abbrev p_arrows_in : List Str := [("width" : Str), ("value" : Str)]
abbrev s_arrows_in : Stmt := (top 17)
theorem sc_arrows_in : FnScope n_arrows_in p_arrows_in (defScope s_arrows_in) := ⟨rfl, rfl, rfl, by decide +kernel, rfl, by decide +kernel, by decide +kernel⟩
theorem ok_arrows_in {f : Addr} {fd : FuncData} {dvs : List V} (F : FunD K ("arrows_in" : Str) ("arrows_in" : Str) (defArgs s_arrows_in) (defBody s_arrows_in) (defScope s_arrows_in) dvs [] f fd) (T : Txt K mg CS) (C_is_arrow : Kn P w K mg base ("is_arrow" : Str) 4 m_is_arrow) (C_is_list : Kn P w K mg base ("is_list" : Str) 1 m_is_list) : FnG P w K mg base CX0 5 f fd p_arrows_in (spG K mg m_arrows_in) :=
  fn_df F sc_arrows_in (by decide) fun cdv A out s H n c => (s_cons (s_if (t_w (t_or (t_not (t_of n (o_callD n c (C_is_list.mono (by decide)) (vs_cons (v_of (o_nm 1)) vs_nil).pa))) (t_or1 (t_not (t_of n (o_all n T.b_all (os_cons (o_comp n (.nm 2) (i_seq n (o_nm 1)) (blkOk_by (own := [(("one" : Str), 2)]) (by kernel_rfl)) (by decide) (fun _ _ _ _ _ => (g_nm n.blk 2)) (fun _ _ _ _ _ n => ts_nil) (fun _ _ _ _ _ n => (v_of (o_callD n c.blk (C_is_arrow.mono (by decide)) (vs_cons (v_of (o_nm 0)) (vs_cons (v_of (o_nm 2)) vs_nil)).pa)))) os_nil)))))))
  (s_one (s_ret o_non))
  s_nil)
  (s_one (s_ret (o_sorted n T.b_sorted (os_cons (o_nm 1) os_nil)))))
/-! all_unlike -/
noncomputable def g_all_unlike : G := (gRet (mB bAll (mCons (mComp (mZip (mCons (mNm 0) (mCons (mSl (mNm 0) (mP (mC (.int (1)))) mNoP) mNil))) [1, 2] (.tup [1, 2]) mYes (mV (mBin sNe (mNm 1) (mNm 2)))) mNil)))
noncomputable def m_all_unlike : Df := mkDf 1 3 g_all_unlike
abbrev n_all_unlike : List Str := [("some" : Str), ("near" : Str), ("far" : Str)]
abbrev p_all_unlike : List Str := [("some" : Str)]
abbrev s_all_unlike : Stmt := (top 16)
theorem sc_all_unlike : FnScope n_all_unlike p_all_unlike (defScope s_all_unlike) := ⟨rfl, rfl, rfl, by decide +kernel, rfl, by decide +kernel, by decide +kernel⟩
theorem ok_all_unlike {f : Addr} {fd : FuncData} {dvs : List V} (F : FunD K ("all_unlike" : Str) ("all_unlike" : Str) (defArgs s_all_unlike) (defBody s_all_unlike) (defScope s_all_unlike) dvs [] f fd) (T : Txt K mg CS)  : FnG P w K mg base CX0 1 f fd p_all_unlike (spG K mg m_all_unlike) :=
  fn_df F sc_all_unlike (by decide) fun cdv A out s H n c => (s_one (s_ret (o_all n T.b_all (os_cons (o_comp n (.tup [1, 2]) (i_zip n T.b_zip (os_cons (o_nm 0) (os_cons (o_sl n (o_nm 0) (p_some o_int) p_none) os_nil))) (blkOk_by (own := [(("near" : Str), 1), (("far" : Str), 2)]) (by kernel_rfl)) (by decide) (fun _ _ _ _ _ => (g_tup n.blk (is := [1, 2]) (gs_cons n.blk 1 (gs_cons n.blk 2 gs_nil)))) (fun _ _ _ _ _ n => ts_nil) (fun _ _ _ _ _ n => (v_of (o_ne n (o_nm 1) (o_nm 2))))) os_nil))))
/-! order_of -/
noncomputable def g_order_of : G := (gSeq (gPar [true, true] [2, 3] (mCons (mLst mNil) (mCons (mUn sRng (mNm 0)) mNil)))
  (gSeq (gWhile (mTestB (mBin sNe (mNm 3) (mLst mNil)))
  (gSeq (gSet false 4 (mComp (mSeq (mNm 3)) [5] (.nm 5) (mNotT (mTest (mB bAny (mCons (mComp (mSeq (mNm 1)) [6, 7] (.tup [6, 7]) mYes (mV (mAnd (mBin sEq (mNm 7) (mNm 5)) (mBin sIn (mNm 6) (mNm 3))))) mNil)))) (mV (mNm 5))))
  (gSeq (gIf (mTestB (mBin sEq (mNm 4) (mLst mNil)))
  (gRet (mC .non))
  gNext)
  (gSeq (gExpr (mAppend 2 (mV (mBin sIxD (mNm 4) (mC (.int (0)))))))
  (gExpr (mRemove 3 (mBin sIxD (mNm 4) (mC (.int (0))))))))))
  (gRet (mNm 2))))
noncomputable def m_order_of : Df := mkDf 2 8 g_order_of
abbrev n_order_of : List Str := [("width" : Str), ("arrows" : Str), ("found" : Str), ("left" : Str), ("able" : Str), ("thing" : Str), ("start" : Str), ("end" : Str)]
abbrev p_order_of : List Str := [("width" : Str), ("arrows" : Str)]
abbrev s_order_of : Stmt := (top 20)
theorem sc_order_of : FnScope n_order_of p_order_of (defScope s_order_of) := ⟨rfl, rfl, rfl, by decide +kernel, rfl, by decide +kernel, by decide +kernel⟩
theorem ok_order_of {f : Addr} {fd : FuncData} {dvs : List V} (F : FunD K ("order_of" : Str) ("order_of" : Str) (defArgs s_order_of) (defBody s_order_of) (defScope s_order_of) dvs [] f fd) (T : Txt K mg CS)  : FnG P w K mg base CX0 1 f fd p_order_of (spG K mg m_order_of) :=
  fn_df F sc_order_of (by decide) fun cdv A out s H n c => (s_cons (s_parN n [true, true] [2, 3] (os_cons (o_lst vs_nil) (os_cons (o_listRange n T.b_list T.b_range (o_nm 0)) os_nil)) (g_tup n (is := [2, 3]) (gs_cons n 2 (gs_cons n 3 gs_nil))))
  (s_cons (s_while n PassesOwn.never (t_ne n (o_nm 3) (o_lst vs_nil))
  (s_cons (s_setLc n false 4 (.nm 5) (i_seq n (o_nm 3)) (blkOk_by (own := [(("thing" : Str), 5)]) (by kernel_rfl)) (by decide) (fun _ _ _ _ _ => (g_nm n.blk 5)) (fun _ _ _ _ _ n => (ts_one (t_not (t_of n (o_any n T.b_any (os_cons (o_comp n (.tup [6, 7]) (i_seq n (o_nm 1)) (blkOk_by (own := [(("start" : Str), 6), (("end" : Str), 7)]) (by kernel_rfl)) (by decide) (fun _ _ _ _ _ => (g_tup n.blk (is := [6, 7]) (gs_cons n.blk 6 (gs_cons n.blk 7 gs_nil)))) (fun _ _ _ _ _ n => ts_nil) (fun _ _ _ _ _ n => (v_of (o_and (o_eq n (o_nm 7) (o_nm 5)) (o_one (o_in n (o_nm 6) (o_nm 3))))))) os_nil)))))) (fun _ _ _ _ _ n => (v_of (o_nm 5))))
  (s_cons (s_if (t_eq n (o_nm 4) (o_lst vs_nil))
  (s_one (s_ret o_non))
  s_nil)
  (s_cons (s_expr (o_append n 2 (pv 2) (v_of (o_ix n (o_nm 4) o_int))))
  (s_one (s_expr (o_remove n 3 (pv 3) (o_ix n (o_nm 4) o_int))))))))
  (s_one (s_ret (o_nm 2)))))
/-! are_unlike -/
noncomputable def g_are_unlike : G := (gRet (mAnd (mCall m_all_unlike (mCons (mV (mNm 1)) mNil)) (mBin sIsN (mCall m_order_of (mCons (mV (mNm 0)) (mCons (mV (mNm 1)) mNil))) (mC .non))))
noncomputable def m_are_unlike : Df := mkDf 2 2 g_are_unlike
abbrev n_are_unlike : List Str := [("width" : Str), ("arrows" : Str)]
abbrev p_are_unlike : List Str := [("width" : Str), ("arrows" : Str)]
abbrev s_are_unlike : Stmt := (top 21)
theorem sc_are_unlike : FnScope n_are_unlike p_are_unlike (defScope s_are_unlike) := ⟨rfl, rfl, rfl, by decide +kernel, rfl, by decide +kernel, by decide +kernel⟩
theorem ok_are_unlike {f : Addr} {fd : FuncData} {dvs : List V} (F : FunD K ("are_unlike" : Str) ("are_unlike" : Str) (defArgs s_are_unlike) (defBody s_are_unlike) (defScope s_are_unlike) dvs [] f fd) (T : Txt K mg CS) (C_all_unlike : Kn P w K mg base ("all_unlike" : Str) 1 m_all_unlike) (C_order_of : Kn P w K mg base ("order_of" : Str) 1 m_order_of) : FnG P w K mg base CX0 2 f fd p_are_unlike (spG K mg m_are_unlike) :=
  fn_df F sc_are_unlike (by decide) fun cdv A out s H n c => (s_one (s_ret (o_and (o_callD n c (C_all_unlike.mono (by decide)) (vs_cons (v_of (o_nm 1)) vs_nil).pa) (o_one (o_isN n (o_callD n c (C_order_of.mono (by decide)) (vs_cons (v_of (o_nm 0)) (vs_cons (v_of (o_nm 1)) vs_nil)).pa) o_non)))))
/-! is_tie -/
noncomputable def g_is_tie : G := (gRet (mAnd (mCall m_is_arrow (mCons (mV (mNm 0)) (mCons (mV (mNm 1)) mNil))) (mBin sLt (mBin sIxD (mNm 1) (mC (.int (0)))) (mBin sIxD (mNm 1) (mC (.int (1)))))))
noncomputable def m_is_tie : Df := mkDf 2 2 g_is_tie
abbrev n_is_tie : List Str := [("width" : Str), ("value" : Str)]
abbrev p_is_tie : List Str := [("width" : Str), ("value" : Str)]
abbrev s_is_tie : Stmt := (top 15)
theorem sc_is_tie : FnScope n_is_tie p_is_tie (defScope s_is_tie) := ⟨rfl, rfl, rfl, by decide +kernel, rfl, by decide +kernel, by decide +kernel⟩
theorem ok_is_tie {f : Addr} {fd : FuncData} {dvs : List V} (F : FunD K ("is_tie" : Str) ("is_tie" : Str) (defArgs s_is_tie) (defBody s_is_tie) (defScope s_is_tie) dvs [] f fd) (T : Txt K mg CS) (C_is_arrow : Kn P w K mg base ("is_arrow" : Str) 4 m_is_arrow) : FnG P w K mg base CX0 5 f fd p_is_tie (spG K mg m_is_tie) :=
  fn_df F sc_is_tie (by decide) fun cdv A out s H n c => (s_one (s_ret (o_and (o_callD n c (C_is_arrow.mono (by decide)) (vs_cons (v_of (o_nm 0)) (vs_cons (v_of (o_nm 1)) vs_nil)).pa) (o_one (o_lt n (o_ix n (o_nm 1) o_int) (o_ix n (o_nm 1) o_int))))))
/-! ties_in -/
noncomputable def g_ties_in : G := (gSeq (gSet false 2 (mCall m_arrows_in (mCons (mV (mNm 0)) (mCons (mV (mNm 1)) mNil))))
  (gRet (mIf (mAndT (mTestB (mBin sIsN (mNm 2) (mC .non))) (mTest (mB bAll (mCons (mComp (mSeq (mNm 2)) [3] (.nm 3) mYes (mV (mCall m_is_tie (mCons (mV (mNm 0)) (mCons (mV (mNm 3)) mNil))))) mNil)))) (mNm 2) (mC .non))))
noncomputable def m_ties_in : Df := mkDf 2 4 g_ties_in
abbrev n_ties_in : List Str := [("width" : Str), ("value" : Str), ("found" : Str), ("one" : Str)]
abbrev p_ties_in : List Str := [("width" : Str), ("value" : Str)]
abbrev s_ties_in : Stmt := (top 18)
theorem sc_ties_in : FnScope n_ties_in p_ties_in (defScope s_ties_in) := ⟨rfl, rfl, rfl, by decide +kernel, rfl, by decide +kernel, by decide +kernel⟩
theorem ok_ties_in {f : Addr} {fd : FuncData} {dvs : List V} (F : FunD K ("ties_in" : Str) ("ties_in" : Str) (defArgs s_ties_in) (defBody s_ties_in) (defScope s_ties_in) dvs [] f fd) (T : Txt K mg CS) (C_arrows_in : Kn P w K mg base ("arrows_in" : Str) 5 m_arrows_in) (C_is_tie : Kn P w K mg base ("is_tie" : Str) 5 m_is_tie) : FnG P w K mg base CX0 6 f fd p_ties_in (spG K mg m_ties_in) :=
  fn_df F sc_ties_in (by decide) fun cdv A out s H n c => (s_cons (s_set n false 2 (o_callD n c (C_arrows_in.mono (by decide)) (vs_cons (v_of (o_nm 0)) (vs_cons (v_of (o_nm 1)) vs_nil)).pa))
  (s_one (s_ret (o_if (t_w (t_and (t_isN n (o_nm 2) o_non) (t_and1 (t_of n (o_all n T.b_all (os_cons (o_comp n (.nm 3) (i_seq n (o_nm 2)) (blkOk_by (own := [(("one" : Str), 3)]) (by kernel_rfl)) (by decide) (fun _ _ _ _ _ => (g_nm n.blk 3)) (fun _ _ _ _ _ n => ts_nil) (fun _ _ _ _ _ n => (v_of (o_callD n c.blk (C_is_tie.mono (by decide)) (vs_cons (v_of (o_nm 0)) (vs_cons (v_of (o_nm 3)) vs_nil)).pa)))) os_nil)))))) (o_nm 2) o_non))))
/-! Plan.__init__ -/
noncomputable def g_Plan_init : G := (gIf (mTest (mUn (isC clsL ("Known" : Str)) (mNm 1)))
  (fun _ => .no)
  (gSeq (gIf (mOrT (mNotT (mTest (mCall m_is_count (mCons (mV (mNm 1)) mNil)))) (mTestB (mBin sGt (mNm 1) (mC (.int 6)))))
  (fun _ => .no)
  gNext)
  (gSeq (gFldO 0 ("Plan" : Str) ("own_width" : Str) (mV (mNm 1)))
  (gSeq (gFldO 0 ("Plan" : Str) ("own_arrows" : Str) (mV (mCall m_arrows_in (mCons (mV (mNm 1)) (mCons (mV (mNm 2)) mNil)))))
  (gSeq (gIf (mOrT (mTestB (mBin sIs (mFldO 0 ("Plan" : Str) ("own_arrows" : Str)) (mC .non))) (mNotT (mTest (mCall m_are_unlike (mCons (mV (mNm 1)) (mCons (mV (mFldO 0 ("Plan" : Str) ("own_arrows" : Str))) mNil))))))
  (fun _ => .no)
  gNext)
  (gSeq (gFldO 0 ("Plan" : Str) ("own_ties" : Str) (mV (mCall m_ties_in (mCons (mV (mNm 1)) (mCons (mV (mNm 3)) mNil)))))
  (gIf (mOrT (mTestB (mBin sIs (mFldO 0 ("Plan" : Str) ("own_ties" : Str)) (mC .non))) (mNotT (mTest (mCall m_all_unlike (mCons (mV (mFldO 0 ("Plan" : Str) ("own_ties" : Str))) mNil)))))
  (fun _ => .no)
  gNext)))))))
noncomputable def m_Plan_init : Df := mkDf 4 4 g_Plan_init
abbrev n_Plan_init : List Str := [("self" : Str), ("size" : Str), ("arrows" : Str), ("ties" : Str)]
abbrev p_Plan_init : List Str := [("self" : Str), ("size" : Str), ("arrows" : Str), ("ties" : Str)]
abbrev s_Plan_init : Stmt := (inClass (top 23) 0)
theorem sc_Plan_init : FnScope n_Plan_init p_Plan_init (defScope s_Plan_init) := ⟨rfl, rfl, rfl, by decide +kernel, rfl, by decide +kernel, by decide +kernel⟩
theorem ok_Plan_init {f : Addr} {fd : FuncData} {dvs : List V} (F : FunD K ("__init__" : Str) ("Plan.__init__" : Str) (defArgs s_Plan_init) (defBody s_Plan_init) (defScope s_Plan_init) dvs [] f fd) (T : Txt K mg CS) (C_all_unlike : Kn P w K mg base ("all_unlike" : Str) 1 m_all_unlike) (C_are_unlike : Kn P w K mg base ("are_unlike" : Str) 2 m_are_unlike) (C_arrows_in : Kn P w K mg base ("arrows_in" : Str) 5 m_arrows_in) (C_is_count : Kn P w K mg base ("is_count" : Str) 2 m_is_count) (C_ties_in : Kn P w K mg base ("ties_in" : Str) 6 m_ties_in) : FnG P w K mg base CX0 7 f fd p_Plan_init (spG K mg m_Plan_init) :=
  fn_df F sc_Plan_init (by decide) fun cdv A out s H n c => (s_one (s_if (t_of n (o_isC n ⟨T.iok, T.ine⟩ (cN := ("Known" : Str)) (by decide) T.b_isinstance T.c_Known (o_nm 1)))
  ss_never
  (s_cons (s_if (t_w (t_or (t_not (t_of n (o_callD n c (C_is_count.mono (by decide)) (vs_cons (v_of (o_nm 1)) vs_nil).pa))) (t_or1 (t_gt n (o_nm 1) (o_glI T.g_MOST_SIZE)))))
  (s_one s_never)
  s_nil)
  (s_cons (s_fldO n 0 ("Plan" : Str) ("own_width" : Str) T.fl_Plan_own_width (pv 0) (v_of (o_nm 1)))
  (s_cons (s_fldO n 0 ("Plan" : Str) ("own_arrows" : Str) T.fl_Plan_own_arrows (pv 0) (v_of (o_callD n c (C_arrows_in.mono (by decide)) (vs_cons (v_of (o_nm 1)) (vs_cons (v_of (o_nm 2)) vs_nil)).pa)))
  (s_cons (s_if (t_w (t_or (t_is n (o_fldO n 0 ("Plan" : Str) ("own_arrows" : Str) T.fl_Plan_own_arrows (pv 0)) o_non) (t_or1 (t_not (t_of n (o_callD n c (C_are_unlike.mono (by decide)) (vs_cons (v_of (o_nm 1)) (vs_cons (v_of (o_fldO n 0 ("Plan" : Str) ("own_arrows" : Str) T.fl_Plan_own_arrows (pv 0))) vs_nil)).pa))))))
  (s_one s_never)
  s_nil)
  (s_cons (s_fldO n 0 ("Plan" : Str) ("own_ties" : Str) T.fl_Plan_own_ties (pv 0) (v_of (o_callD n c (C_ties_in.mono (by decide)) (vs_cons (v_of (o_nm 1)) (vs_cons (v_of (o_nm 3)) vs_nil)).pa)))
  (s_one (s_if (t_w (t_or (t_is n (o_fldO n 0 ("Plan" : Str) ("own_ties" : Str) T.fl_Plan_own_ties (pv 0)) o_non) (t_or1 (t_not (t_of n (o_callD n c (C_all_unlike.mono (by decide)) (vs_cons (v_of (o_fldO n 0 ("Plan" : Str) ("own_ties" : Str) T.fl_Plan_own_ties (pv 0))) vs_nil).pa))))))
  (s_one s_never)
  s_nil)))))))))
/-! _law_made -/
noncomputable def g_f_law_made : G := (gSeq (gPar [false, false] [2, 3] (mCons (mB bList (mCons (mBin sIxD (mNm 1) (mC (.int (1)))) mNil)) (mCons (mB bList (mCons (mBin sIxD (mNm 1) (mC (.int (2)))) mNil)) mNil)))
  (gSeq (gIf (mTestB (mBin sEq (mCallR m_f_law_draw 0 (mCons (mV (mC (.int (2)))) mNil)) (mC (.int (0)))))
  (gPar [false, false] [2, 3] (mCons (mUn sRev (mNm 2)) (mCons (mB bTuple (mCons (mNm 3) mNil)) mNil)))
  gNext)
  (gRet (mMake ("Plan" : Str) m_Plan_init (mCons (mV (mBin sIxD (mNm 1) (mC (.int (0))))) (mCons (mV (mNm 2)) (mCons (mV (mNm 3)) mNil)))))))
noncomputable def m_f_law_made : Df := mkDf 2 4 g_f_law_made
abbrev n_f_law_made : List Str := [("_law_pot_here" : Str), ("_law_world_here" : Str), ("_law_arrows" : Str), ("_law_ties" : Str)]
abbrev p_f_law_made : List Str := [("_law_pot_here" : Str), ("_law_world_here" : Str)]
abbrev s_f_law_made : Stmt := (top 45)
theorem sc_f_law_made : FnScope n_f_law_made p_f_law_made (defScope s_f_law_made) := ⟨rfl, rfl, rfl, by decide +kernel, rfl, by decide +kernel, by decide +kernel⟩
theorem ok_f_law_made {f : Addr} {fd : FuncData} {dvs : List V} (F : FunD K ("_law_made" : Str) ("_law_made" : Str) (defArgs s_f_law_made) (defBody s_f_law_made) (defScope s_f_law_made) dvs [] f fd) (T : Txt K mg CS) (C_Plan : KnC P w K mg base ("Plan" : Str) 7 m_Plan_init) (C_f_law_draw : Kn P w K mg base ("_law_draw" : Str) 1 m_f_law_draw) : FnG P w K mg base CX0 9 f fd p_f_law_made (spG K mg m_f_law_made) :=
  fn_df F sc_f_law_made (by decide) fun cdv A out s H n c => (s_cons (s_par n false false 2 3 (os_cons (o_list n T.b_list (os_cons (o_ix n (o_nm 1) o_int) os_nil)) (os_cons (o_list n T.b_list (os_cons (o_ix n (o_nm 1) o_int) os_nil)) os_nil)))
  (s_cons (s_if (t_eq n (o_callR n c 0 (C_f_law_draw.mono (by decide)) (pv 0) (vs_cons (v_of o_int) vs_nil).pa) o_int)
  (s_one (s_par n false false 2 3 (os_cons (o_rev n (o_nm 2)) (os_cons (o_tupleB n T.b_tuple (os_cons (o_nm 3) os_nil)) os_nil))))
  s_nil)
  (s_one (s_ret (o_make n c (C_Plan.mono (by decide)) (vs_cons (v_of (o_ix n (o_nm 1) o_int)) (vs_cons (v_of (o_nm 2)) (vs_cons (v_of (o_nm 3)) vs_nil))).pa)))))
/-! _law_lots -/
noncomputable def g_f_law_lots : G := (gSeq (gSet false 1 (mLst (mCons (mV (mLst mNil)) mNil)))
  (gSeq (gFor (mRng1 (mCons (mNm 0) mNil)) (.nm 2)
  (gSet false 1 (mBin sAdd (mNm 1) (mComp (mSeq (mNm 1)) [3] (.nm 3) mYes (mV (mBin sAdd (mNm 3) (mLst (mCons (mV (mNm 2)) mNil))))))))
  (gRet (mB bSorted (mCons (mNm 1) mNil)))))
noncomputable def m_f_law_lots : Df := mkDf 1 4 g_f_law_lots
abbrev n_f_law_lots : List Str := [("_law_many" : Str), ("_law_found" : Str), ("_law_thing" : Str), ("_law_lot" : Str)]
abbrev p_f_law_lots : List Str := [("_law_many" : Str)]
abbrev s_f_law_lots : Stmt := (top 41)
theorem sc_f_law_lots : FnScope n_f_law_lots p_f_law_lots (defScope s_f_law_lots) := ⟨rfl, rfl, rfl, by decide +kernel, rfl, by decide +kernel, by decide +kernel⟩
theorem ok_f_law_lots {f : Addr} {fd : FuncData} {dvs : List V} (F : FunD K ("_law_lots" : Str) ("_law_lots" : Str) (defArgs s_f_law_lots) (defBody s_f_law_lots) (defScope s_f_law_lots) dvs [] f fd) (T : Txt K mg CS)  : FnG P w K mg base CX0 1 f fd p_f_law_lots (spG K mg m_f_law_lots) :=
  fn_df F sc_f_law_lots (by decide) fun cdv A out s H n c => (s_cons (s_set n false 1 (o_lst (vs_cons (v_of (o_lst vs_nil)) vs_nil)))
  (s_cons (s_for n PassesOwn.never (.nm 2) (i_rng1 n T.b_range (os_cons (o_nm 0) os_nil)) (g_nm n 2)
  (s_one (s_set n false 1 (o_add n (o_nm 1) (o_comp n (.nm 3) (i_seq n (o_nm 1)) (blkOk_by (own := [(("_law_lot" : Str), 3)]) (by kernel_rfl)) (by decide) (fun _ _ _ _ _ => (g_nm n.blk 3)) (fun _ _ _ _ _ n => ts_nil) (fun _ _ _ _ _ n => (v_of (o_add n (o_nm 3) (o_lst (vs_cons (v_of (o_nm 2)) vs_nil))))))))))
  (s_one (s_ret (o_sorted n T.b_sorted (os_cons (o_nm 1) os_nil))))))
/-! _law_pick -/
noncomputable def g_f_law_pick : G := (gRet (mBin sIxD (mNm 1) (mCallR m_f_law_draw 0 (mCons (mV (mB bLen (mCons (mNm 1) mNil))) mNil))))
noncomputable def m_f_law_pick : Df := mkDf 2 2 g_f_law_pick
abbrev n_f_law_pick : List Str := [("_law_pot_here" : Str), ("_law_some" : Str)]
abbrev p_f_law_pick : List Str := [("_law_pot_here" : Str), ("_law_some" : Str)]
abbrev s_f_law_pick : Stmt := (top 36)
theorem sc_f_law_pick : FnScope n_f_law_pick p_f_law_pick (defScope s_f_law_pick) := ⟨rfl, rfl, rfl, by decide +kernel, rfl, by decide +kernel, by decide +kernel⟩
theorem ok_f_law_pick {f : Addr} {fd : FuncData} {dvs : List V} (F : FunD K ("_law_pick" : Str) ("_law_pick" : Str) (defArgs s_f_law_pick) (defBody s_f_law_pick) (defScope s_f_law_pick) dvs [] f fd) (T : Txt K mg CS) (C_f_law_draw : Kn P w K mg base ("_law_draw" : Str) 1 m_f_law_draw) : FnG P w K mg base CX0 2 f fd p_f_law_pick (spG K mg m_f_law_pick) :=
  fn_df F sc_f_law_pick (by decide) fun cdv A out s H n c => (s_one (s_ret (o_ix n (o_nm 1) (o_callR n c 0 (C_f_law_draw.mono (by decide)) (pv 0) (vs_cons (v_of (o_len n T.b_len (os_cons (o_nm 1) os_nil))) vs_nil).pa))))
/-! _law_values -/
noncomputable def g_f_law_values : G := (gSeq (gSet true 2 (mLst (mCons (mV (mC .non)) (mCons (mV (mC (.int (0)))) (mCons (mV (mC (.bl true))) (mCons (mV (mC (.str ""))) (mCons (mV (mC (.str "01"))) (mCons (mV (mC (.dic []))) (mCons (mV (mC (.dic [(.inl 0, .int 1)]))) (mCons (mV (mLst (mCons (mV (mC .non)) mNil))) (mCons (mV (mLst (mCons (mV (mLst (mCons (mV (mC (.int (0)))) (mCons (mV (mC (.int (1)))) mNil)))) mNil))) (mCons (mV (mLst (mCons (mV (mC (.str "0"))) (mCons (mV (mC (.str "1"))) mNil)))) (mCons (mV (mLst (mCons (mV (mC (.int (0)))) (mCons (mV (mC (.bl true))) mNil)))) (mCons (mV (mLst (mCons (mV (mC (.str "0"))) (mCons (mV (mC (.int (1)))) mNil)))) (mCons (mV (mTup (mCons (mV (mC (.bl false))) (mCons (mV (mC (.int (1)))) mNil)))) (mCons (mV (mLst (mCons (mV (mUn sNeg (mC (.int (1))))) (mCons (mV (mC (.int (0)))) mNil)))) (mCons (mV (mC (.int (1)))) mNil)))))))))))))))))
  (gSeq (gFor (mSeq (mFix (mCall m_f_law_lots (mCons (mV (mBin sIxD (mNm 1) (mC (.int (0))))) mNil)))) (.nm 3)
  (gExpr (mAppend 2 (mV (mIf (mTestB (mBin sEq (mCallR m_f_law_draw 0 (mCons (mV (mC (.int (2)))) mNil)) (mC (.int (0))))) (mB bTuple (mCons (mNm 3) mNil)) (mNm 3))))))
  (gSeq (gSet false 3 (mCallR m_f_law_pick 0 (mCons (mV (mCall m_f_law_lots (mCons (mV (mBin sIxD (mNm 1) (mC (.int (0))))) mNil))) mNil)))
  (gRet (mBin sAdd (mNm 2) (mLst (mCons (mV (mUn sRev (mNm 3))) (mCons (mV (mBin sAdd (mNm 3) (mSl (mNm 3) (mP (mUn sNeg (mC (.int (1))))) mNoP))) (mCons (mV (mBin sAdd (mNm 3) (mLst (mCons (mV (mBin sIxD (mNm 1) (mC (.int (0))))) mNil)))) (mCons (mV (mLst (mCons (mV (mNm 3)) mNil))) (mCons (mV (mBin sAdd (mNm 3) (mLst (mCons (mV (mC .non)) mNil)))) mNil)))))))))))
noncomputable def m_f_law_values : Df := mkDf 2 4 g_f_law_values
abbrev n_f_law_values : List Str := [("_law_pot_here" : Str), ("_law_world_here" : Str), ("_law_found" : Str), ("_law_lot" : Str)]
abbrev p_f_law_values : List Str := [("_law_pot_here" : Str), ("_law_world_here" : Str)]
abbrev s_f_law_values : Stmt := (top 47)
theorem sc_f_law_values : FnScope n_f_law_values p_f_law_values (defScope s_f_law_values) := ⟨rfl, rfl, rfl, by decide +kernel, rfl, by decide +kernel, by decide +kernel⟩
theorem ok_f_law_values {f : Addr} {fd : FuncData} {dvs : List V} (F : FunD K ("_law_values" : Str) ("_law_values" : Str) (defArgs s_f_law_values) (defBody s_f_law_values) (defScope s_f_law_values) dvs [] f fd) (T : Txt K mg CS) (C_f_law_draw : Kn P w K mg base ("_law_draw" : Str) 1 m_f_law_draw) (C_f_law_lots : Kn P w K mg base ("_law_lots" : Str) 1 m_f_law_lots) (C_f_law_pick : Kn P w K mg base ("_law_pick" : Str) 2 m_f_law_pick) : FnG P w K mg base CX0 3 f fd p_f_law_values (spG K mg m_f_law_values) :=
  fn_df F sc_f_law_values (by decide) fun cdv A out s H n c => (s_cons (s_set n true 2 (o_lst (vs_cons (v_of o_non) (vs_cons (v_of o_int) (vs_cons (v_of o_bl) (vs_cons (v_of o_str) (vs_cons (v_of o_str) (vs_cons (v_of o_dic0) (vs_cons (v_of o_dic1) (vs_cons (v_of (o_lst (vs_cons (v_of o_non) vs_nil))) (vs_cons (v_of (o_lst (vs_cons (v_of (o_lst (vs_cons (v_of o_int) (vs_cons (v_of o_int) vs_nil)))) vs_nil))) (vs_cons (v_of (o_lst (vs_cons (v_of o_str) (vs_cons (v_of o_str) vs_nil)))) (vs_cons (v_of (o_lst (vs_cons (v_of o_int) (vs_cons (v_of o_bl) vs_nil)))) (vs_cons (v_of (o_lst (vs_cons (v_of o_str) (vs_cons (v_of o_int) vs_nil)))) (vs_cons (v_of (o_tup (vs_cons (v_of o_bl) (vs_cons (v_of o_int) vs_nil)))) (vs_cons (v_of (o_lst (vs_cons (v_of (o_neg n o_int)) (vs_cons (v_of o_int) vs_nil)))) (vs_cons (v_of o_int) vs_nil)))))))))))))))))
  (s_cons (s_for n PassesOwn.never (.nm 3) (i_seq n (o_fix (o_callD n c (C_f_law_lots.mono (by decide)) (vs_cons (v_of (o_ix n (o_nm 1) o_int)) vs_nil).pa))) (g_nm n 3)
  (s_one (s_expr (o_append n 2 (pv 2) (v_of (o_if (t_eq n (o_callR n c 0 (C_f_law_draw.mono (by decide)) (pv 0) (vs_cons (v_of o_int) vs_nil).pa) o_int) (o_tupleB n T.b_tuple (os_cons (o_nm 3) os_nil)) (o_nm 3)))))))
  (s_cons (s_set n false 3 (o_callR n c 0 (C_f_law_pick.mono (by decide)) (pv 0) (vs_cons (v_of (o_callD n c (C_f_law_lots.mono (by decide)) (vs_cons (v_of (o_ix n (o_nm 1) o_int)) vs_nil).pa)) vs_nil).pa))
  (s_one (s_ret (o_add n (o_nm 2) (o_lst (vs_cons (v_of (o_rev n (o_nm 3))) (vs_cons (v_of (o_add n (o_nm 3) (o_sl n (o_nm 3) (p_some (o_neg n o_int)) p_none))) (vs_cons (v_of (o_add n (o_nm 3) (o_lst (vs_cons (v_of (o_ix n (o_nm 1) o_int)) vs_nil)))) (vs_cons (v_of (o_lst (vs_cons (v_of (o_nm 3)) vs_nil))) (vs_cons (v_of (o_add n (o_nm 3) (o_lst (vs_cons (v_of o_non) vs_nil)))) vs_nil))))))))))))
/-! _law_hung -/
noncomputable def g_f_law_hung : G := (gSeq (gPar [true, false] [3, 4] (mCons (mLst (mCons (mV (mNm 2)) mNil)) (mCons (mC (.int (0))) mNil)))
  (gSeq (gWhile (mTestB (mBin sLt (mNm 4) (mB bLen (mCons (mNm 3) mNil))))
  (gSeq (gFor (mSeq (mFix (mNm 0))) (.tup [5, 6])
  (gSeq (gIf (mAndT (mTestB (mBin sEq (mNm 5) (mBin sIxD (mNm 3) (mNm 4)))) (mAndT (mTestB (mBin sIn (mNm 6) (mNm 1))) (mTestB (mBin sNin (mNm 6) (mNm 3)))))
  (gExpr (mAppend 3 (mV (mNm 6))))
  gNext)
  (gIf (mAndT (mTestB (mBin sEq (mNm 6) (mBin sIxD (mNm 3) (mNm 4)))) (mAndT (mTestB (mBin sIn (mNm 5) (mNm 1))) (mTestB (mBin sNin (mNm 5) (mNm 3)))))
  (gExpr (mAppend 3 (mV (mNm 5))))
  gNext)))
  (gSet false 4 (mBin sAdd (mNm 4) (mC (.int (1)))))))
  (gRet (mB bSorted (mCons (mNm 3) mNil)))))
noncomputable def m_f_law_hung : Df := mkDf 3 7 g_f_law_hung
abbrev n_f_law_hung : List Str := [("_law_ties" : Str), ("_law_lot" : Str), ("_law_thing" : Str), ("_law_found" : Str), ("_law_ahead" : Str), ("_law_one" : Str), ("_law_other" : Str)]
abbrev p_f_law_hung : List Str := [("_law_ties" : Str), ("_law_lot" : Str), ("_law_thing" : Str)]
abbrev s_f_law_hung : Stmt := (top 39)
theorem sc_f_law_hung : FnScope n_f_law_hung p_f_law_hung (defScope s_f_law_hung) := ⟨rfl, rfl, rfl, by decide +kernel, rfl, by decide +kernel, by decide +kernel⟩
theorem ok_f_law_hung {f : Addr} {fd : FuncData} {dvs : List V} (F : FunD K ("_law_hung" : Str) ("_law_hung" : Str) (defArgs s_f_law_hung) (defBody s_f_law_hung) (defScope s_f_law_hung) dvs [] f fd) (T : Txt K mg CS)  : FnG P w K mg base CX0 1 f fd p_f_law_hung (spG K mg m_f_law_hung) :=
  fn_df F sc_f_law_hung (by decide) fun cdv A out s H n c => (s_cons (s_par n true false 3 4 (os_cons (o_lst (vs_cons (v_of (o_nm 2)) vs_nil)) (os_cons o_int os_nil)))
  (s_cons (s_while n PassesOwn.never (t_lt n (o_nm 4) (o_len n T.b_len (os_cons (o_nm 3) os_nil)))
  (s_cons (s_for n PassesOwn.never (.tup [5, 6]) (i_seq n (o_fix (o_nm 0))) (g_tup n (is := [5, 6]) (gs_cons n 5 (gs_cons n 6 gs_nil)))
  (s_cons (s_if (t_w (t_and (t_eq n (o_nm 5) (o_ix n (o_nm 3) (o_nm 4))) (t_and (t_in n (o_nm 6) (o_nm 1)) (t_and1 (t_nin n (o_nm 6) (o_nm 3))))))
  (s_one (s_expr (o_append n 3 (pv 3) (v_of (o_nm 6)))))
  s_nil)
  (s_one (s_if (t_w (t_and (t_eq n (o_nm 6) (o_ix n (o_nm 3) (o_nm 4))) (t_and (t_in n (o_nm 5) (o_nm 1)) (t_and1 (t_nin n (o_nm 5) (o_nm 3))))))
  (s_one (s_expr (o_append n 3 (pv 3) (v_of (o_nm 5)))))
  s_nil))))
  (s_one (s_set n false 4 (o_add n (o_nm 4) o_int)))))
  (s_one (s_ret (o_sorted n T.b_sorted (os_cons (o_nm 3) os_nil))))))
/-! _law_hangs -/
noncomputable def g_f_law_hangs : G := (gRet (mOr (mBin sEq (mNm 1) (mLst mNil)) (mBin sEq (mCall m_f_law_hung (mCons (mV (mNm 0)) (mCons (mV (mNm 1)) (mCons (mV (mBin sIxD (mNm 1) (mC (.int (0))))) mNil)))) (mNm 1))))
noncomputable def m_f_law_hangs : Df := mkDf 2 2 g_f_law_hangs
abbrev n_f_law_hangs : List Str := [("_law_ties" : Str), ("_law_lot" : Str)]
abbrev p_f_law_hangs : List Str := [("_law_ties" : Str), ("_law_lot" : Str)]
abbrev s_f_law_hangs : Stmt := (top 40)
theorem sc_f_law_hangs : FnScope n_f_law_hangs p_f_law_hangs (defScope s_f_law_hangs) := ⟨rfl, rfl, rfl, by decide +kernel, rfl, by decide +kernel, by decide +kernel⟩
theorem ok_f_law_hangs {f : Addr} {fd : FuncData} {dvs : List V} (F : FunD K ("_law_hangs" : Str) ("_law_hangs" : Str) (defArgs s_f_law_hangs) (defBody s_f_law_hangs) (defScope s_f_law_hangs) dvs [] f fd) (T : Txt K mg CS) (C_f_law_hung : Kn P w K mg base ("_law_hung" : Str) 1 m_f_law_hung) : FnG P w K mg base CX0 2 f fd p_f_law_hangs (spG K mg m_f_law_hangs) :=
  fn_df F sc_f_law_hangs (by decide) fun cdv A out s H n c => (s_one (s_ret (o_or (o_eq n (o_nm 1) (o_lst vs_nil)) (o_one (o_eq n (o_callD n c (C_f_law_hung.mono (by decide)) (vs_cons (v_of (o_nm 0)) (vs_cons (v_of (o_nm 1)) (vs_cons (v_of (o_ix n (o_nm 1) o_int)) vs_nil))).pa) (o_nm 1))))))
/-! _law_leaders -/
noncomputable def g_f_law_leaders : G := (gSeq (gPar [true, false] [3, 4] (mCons (mLst (mCons (mV (mNm 2)) mNil)) (mCons (mC (.int (0))) mNil)))
  (gSeq (gWhile (mTestB (mBin sLt (mNm 4) (mB bLen (mCons (mNm 3) mNil))))
  (gSeq (gExpr (mExtend 3 (mComp (mSeq (mNm 0)) [5, 6] (.tup [5, 6]) (mAndT (mTestB (mBin sEq (mNm 6) (mBin sIxD (mNm 3) (mNm 4)))) (mAndT (mTestB (mBin sIn (mNm 5) (mNm 1))) (mTestB (mBin sNin (mNm 5) (mNm 3))))) (mV (mNm 5)))))
  (gSet false 4 (mBin sAdd (mNm 4) (mC (.int (1)))))))
  (gRet (mB bSorted (mCons (mNm 3) mNil)))))
noncomputable def m_f_law_leaders : Df := mkDf 3 7 g_f_law_leaders
abbrev n_f_law_leaders : List Str := [("_law_arrows" : Str), ("_law_lot" : Str), ("_law_thing" : Str), ("_law_found" : Str), ("_law_ahead" : Str), ("_law_one" : Str), ("_law_other" : Str)]
abbrev p_f_law_leaders : List Str := [("_law_arrows" : Str), ("_law_lot" : Str), ("_law_thing" : Str)]
abbrev s_f_law_leaders : Stmt := (top 37)
theorem sc_f_law_leaders : FnScope n_f_law_leaders p_f_law_leaders (defScope s_f_law_leaders) := ⟨rfl, rfl, rfl, by decide +kernel, rfl, by decide +kernel, by decide +kernel⟩
theorem ok_f_law_leaders {f : Addr} {fd : FuncData} {dvs : List V} (F : FunD K ("_law_leaders" : Str) ("_law_leaders" : Str) (defArgs s_f_law_leaders) (defBody s_f_law_leaders) (defScope s_f_law_leaders) dvs [] f fd) (T : Txt K mg CS)  : FnG P w K mg base CX0 1 f fd p_f_law_leaders (spG K mg m_f_law_leaders) :=
  fn_df F sc_f_law_leaders (by decide) fun cdv A out s H n c => (s_cons (s_parN n [true, false] [3, 4] (os_cons (o_lst (vs_cons (v_of (o_nm 2)) vs_nil)) (os_cons o_int os_nil)) (g_tup n (is := [3, 4]) (gs_cons n 3 (gs_cons n 4 gs_nil))))
  (s_cons (s_while n PassesOwn.never (t_lt n (o_nm 4) (o_len n T.b_len (os_cons (o_nm 3) os_nil)))
  (s_cons (s_expr (o_extend n 3 (pv 3) (o_comp n (.tup [5, 6]) (i_seq n (o_nm 0)) (blkOk_by (own := [(("_law_one" : Str), 5), (("_law_other" : Str), 6)]) (by kernel_rfl)) (by decide) (fun _ _ _ _ _ => (g_tup n.blk (is := [5, 6]) (gs_cons n.blk 5 (gs_cons n.blk 6 gs_nil)))) (fun _ _ _ _ _ n => (ts_one (t_w (t_and (t_eq n (o_nm 6) (o_ix n (o_nm 3) (o_nm 4))) (t_and (t_in n (o_nm 5) (o_nm 1)) (t_and1 (t_nin n (o_nm 5) (o_nm 3)))))))) (fun _ _ _ _ _ n => (v_of (o_nm 5))))))
  (s_one (s_set n false 4 (o_add n (o_nm 4) o_int)))))
  (s_one (s_ret (o_sorted n T.b_sorted (os_cons (o_nm 3) os_nil))))))
/-! _law_heads -/
noncomputable def g_f_law_heads : G := (gRet (mComp (mSeq (mNm 1)) [2] (.nm 2) (mTestB (mBin sEq (mCall m_f_law_leaders (mCons (mV (mNm 0)) (mCons (mV (mNm 1)) (mCons (mV (mNm 2)) mNil)))) (mNm 1))) (mV (mNm 2))))
noncomputable def m_f_law_heads : Df := mkDf 2 3 g_f_law_heads
abbrev n_f_law_heads : List Str := [("_law_arrows" : Str), ("_law_lot" : Str), ("_law_thing" : Str)]
abbrev p_f_law_heads : List Str := [("_law_arrows" : Str), ("_law_lot" : Str)]
abbrev s_f_law_heads : Stmt := (top 38)
theorem sc_f_law_heads : FnScope n_f_law_heads p_f_law_heads (defScope s_f_law_heads) := ⟨rfl, rfl, rfl, by decide +kernel, rfl, by decide +kernel, by decide +kernel⟩
theorem ok_f_law_heads {f : Addr} {fd : FuncData} {dvs : List V} (F : FunD K ("_law_heads" : Str) ("_law_heads" : Str) (defArgs s_f_law_heads) (defBody s_f_law_heads) (defScope s_f_law_heads) dvs [] f fd) (T : Txt K mg CS) (C_f_law_leaders : Kn P w K mg base ("_law_leaders" : Str) 1 m_f_law_leaders) : FnG P w K mg base CX0 2 f fd p_f_law_heads (spG K mg m_f_law_heads) :=
  fn_df F sc_f_law_heads (by decide) fun cdv A out s H n c => (s_one (s_ret (o_comp n (.nm 2) (i_seq n (o_nm 1)) (blkOk_by (own := [(("_law_thing" : Str), 2)]) (by kernel_rfl)) (by decide) (fun _ _ _ _ _ => (g_nm n.blk 2)) (fun _ _ _ _ _ n => (ts_one (t_eq n (o_callD n c.blk (C_f_law_leaders.mono (by decide)) (vs_cons (v_of (o_nm 0)) (vs_cons (v_of (o_nm 1)) (vs_cons (v_of (o_nm 2)) vs_nil))).pa) (o_nm 1)))) (fun _ _ _ _ _ n => (v_of (o_nm 2))))))
/-! _law_is_bar -/
noncomputable def g_f_law_is_bar : G := (gRet (mAnd (mBin sGt (mB bLen (mCons (mNm 1) mNil)) (mC (.int (1)))) (mAnd (mCall m_f_law_hangs (mCons (mV (mBin sIxD (mNm 0) (mC (.int (2))))) (mCons (mV (mNm 1)) mNil))) (mBin sNe (mCall m_f_law_heads (mCons (mV (mBin sIxD (mNm 0) (mC (.int (1))))) (mCons (mV (mNm 1)) mNil))) (mLst mNil)))))
noncomputable def m_f_law_is_bar : Df := mkDf 2 2 g_f_law_is_bar
abbrev n_f_law_is_bar : List Str := [("_law_world_here" : Str), ("_law_lot" : Str)]
abbrev p_f_law_is_bar : List Str := [("_law_world_here" : Str), ("_law_lot" : Str)]
abbrev s_f_law_is_bar : Stmt := (top 42)
theorem sc_f_law_is_bar : FnScope n_f_law_is_bar p_f_law_is_bar (defScope s_f_law_is_bar) := ⟨rfl, rfl, rfl, by decide +kernel, rfl, by decide +kernel, by decide +kernel⟩
theorem ok_f_law_is_bar {f : Addr} {fd : FuncData} {dvs : List V} (F : FunD K ("_law_is_bar" : Str) ("_law_is_bar" : Str) (defArgs s_f_law_is_bar) (defBody s_f_law_is_bar) (defScope s_f_law_is_bar) dvs [] f fd) (T : Txt K mg CS) (C_f_law_hangs : Kn P w K mg base ("_law_hangs" : Str) 2 m_f_law_hangs) (C_f_law_heads : Kn P w K mg base ("_law_heads" : Str) 2 m_f_law_heads) : FnG P w K mg base CX0 3 f fd p_f_law_is_bar (spG K mg m_f_law_is_bar) :=
  fn_df F sc_f_law_is_bar (by decide) fun cdv A out s H n c => (s_one (s_ret (o_and (o_gt n (o_len n T.b_len (os_cons (o_nm 1) os_nil)) o_int) (o_and (o_callD n c (C_f_law_hangs.mono (by decide)) (vs_cons (v_of (o_ix n (o_nm 0) o_int)) (vs_cons (v_of (o_nm 1)) vs_nil)).pa) (o_one (o_ne n (o_callD n c (C_f_law_heads.mono (by decide)) (vs_cons (v_of (o_ix n (o_nm 0) o_int)) (vs_cons (v_of (o_nm 1)) vs_nil)).pa) (o_lst vs_nil)))))))
/-! _law_due -/
noncomputable def g_f_law_due : G := (gSeq (gIf (mOrT (mNotT (mTest (mUn (isLT clsL) (mNm 1)))) (mNotT (mTest (mB bAll (mCons (mComp (mSeq (mNm 1)) [2] (.nm 2) mYes (mV (mAnd (mUn (isB clsL "int") (mNm 2)) (mNot (mUn (isB clsL "bool") (mNm 2)))))) mNil)))))
  (gRet (mC (.bl false)))
  gNext)
  (gSeq (gIf (mOrT (mNotT (mTest (mB bAll (mCons (mComp (mSeq (mNm 1)) [2] (.nm 2) mYes (mV (mChain sLe sLt (mC (.int (0))) (mNm 2) (mBin sIxD (mNm 0) (mC (.int (0))))))) mNil)))) (mNotT (mTest (mB bAll (mCons (mComp (mZip (mCons (mNm 1) (mCons (mSl (mNm 1) (mP (mC (.int (1)))) mNoP) mNil))) [3, 4] (.tup [3, 4]) mYes (mV (mBin sLt (mNm 3) (mNm 4)))) mNil)))))
  (gRet (mC (.bl false)))
  gNext)
  (gRet (mCall m_f_law_is_bar (mCons (mV (mNm 0)) (mCons (mV (mB bList (mCons (mNm 1) mNil))) mNil))))))
noncomputable def m_f_law_due : Df := mkDf 2 5 g_f_law_due
abbrev n_f_law_due : List Str := [("_law_world_here" : Str), ("_law_value" : Str), ("_law_one" : Str), ("_law_near" : Str), ("_law_far" : Str)]
abbrev p_f_law_due : List Str := [("_law_world_here" : Str), ("_law_value" : Str)]
abbrev s_f_law_due : Stmt := (top 46)
theorem sc_f_law_due : FnScope n_f_law_due p_f_law_due (defScope s_f_law_due) := ⟨rfl, rfl, rfl, by decide +kernel, rfl, by decide +kernel, by decide +kernel⟩
theorem ok_f_law_due {f : Addr} {fd : FuncData} {dvs : List V} (F : FunD K ("_law_due" : Str) ("_law_due" : Str) (defArgs s_f_law_due) (defBody s_f_law_due) (defScope s_f_law_due) dvs [] f fd) (T : Txt K mg CS) (C_f_law_is_bar : Kn P w K mg base ("_law_is_bar" : Str) 3 m_f_law_is_bar) : FnG P w K mg base CX0 4 f fd p_f_law_due (spG K mg m_f_law_due) :=
  fn_df F sc_f_law_due (by decide) fun cdv A out s H n c => (s_cons (s_if (t_w (t_or (t_not (t_of n (o_isLT n ⟨T.iok, T.ine⟩ T.b_isinstance T.b_list T.b_tuple (o_nm 1)))) (t_or1 (t_not (t_of n (o_all n T.b_all (os_cons (o_comp n (.nm 2) (i_seq n (o_nm 1)) (blkOk_by (own := [(("_law_one" : Str), 2)]) (by kernel_rfl)) (by decide) (fun _ _ _ _ _ => (g_nm n.blk 2)) (fun _ _ _ _ _ n => ts_nil) (fun _ _ _ _ _ n => (v_of (o_and (o_isB n ⟨T.iok, T.ine⟩ "int" (by simp) T.b_isinstance T.b_int (by decide +kernel) (o_nm 2)) (o_one (o_not n (o_isB n ⟨T.iok, T.ine⟩ "bool" (by simp) T.b_isinstance T.b_bool (by decide +kernel) (o_nm 2)))))))) os_nil)))))))
  (s_one (s_ret o_bl))
  s_nil)
  (s_cons (s_if (t_w (t_or (t_not (t_of n (o_all n T.b_all (os_cons (o_comp n (.nm 2) (i_seq n (o_nm 1)) (blkOk_by (own := [(("_law_one" : Str), 2)]) (by kernel_rfl)) (by decide) (fun _ _ _ _ _ => (g_nm n.blk 2)) (fun _ _ _ _ _ n => ts_nil) (fun _ _ _ _ _ n => (v_of (o_chLeLt o_int (o_nm 2) (o_ix n (o_nm 0) o_int))))) os_nil)))) (t_or1 (t_not (t_of n (o_all n T.b_all (os_cons (o_comp n (.tup [3, 4]) (i_zip n T.b_zip (os_cons (o_nm 1) (os_cons (o_sl n (o_nm 1) (p_some o_int) p_none) os_nil))) (blkOk_by (own := [(("_law_near" : Str), 3), (("_law_far" : Str), 4)]) (by kernel_rfl)) (by decide) (fun _ _ _ _ _ => (g_tup n.blk (is := [3, 4]) (gs_cons n.blk 3 (gs_cons n.blk 4 gs_nil)))) (fun _ _ _ _ _ n => ts_nil) (fun _ _ _ _ _ n => (v_of (o_lt n (o_nm 3) (o_nm 4))))) os_nil)))))))
  (s_one (s_ret o_bl))
  s_nil)
  (s_one (s_ret (o_callD n c (C_f_law_is_bar.mono (by decide)) (vs_cons (v_of (o_nm 0)) (vs_cons (v_of (o_list n T.b_list (os_cons (o_nm 1) os_nil))) vs_nil)).pa)))))
/-! want_plan -/
noncomputable def g_want_plan : G := (gSeq (gIf (mNotT (mTest (mUn (isC clsL ("Plan" : Str)) (mNm 0))))
  (fun _ => .no)
  gNext)
  (gRet (mNm 0)))
noncomputable def m_want_plan : Df := mkDf 1 1 g_want_plan
abbrev n_want_plan : List Str := [("value" : Str)]
abbrev p_want_plan : List Str := [("value" : Str)]
abbrev s_want_plan : Stmt := (top 24)
theorem sc_want_plan : FnScope n_want_plan p_want_plan (defScope s_want_plan) := ⟨rfl, rfl, rfl, by decide +kernel, rfl, by decide +kernel, by decide +kernel⟩
theorem ok_want_plan {f : Addr} {fd : FuncData} {dvs : List V} (F : FunD K ("want_plan" : Str) ("want_plan" : Str) (defArgs s_want_plan) (defBody s_want_plan) (defScope s_want_plan) dvs [] f fd) (T : Txt K mg CS)  : FnG P w K mg base CX0 1 f fd p_want_plan (spG K mg m_want_plan) :=
  fn_df F sc_want_plan (by decide) fun cdv A out s H n c => (s_cons (s_if (t_not (t_of n (o_isC n ⟨T.iok, T.ine⟩ (cN := ("Plan" : Str)) (by decide) T.b_isinstance T.c_Plan (o_nm 0))))
  (s_one s_never)
  s_nil)
  (s_one (s_ret (o_nm 0))))
/-! lot_in -/
noncomputable def g_lot_in : G := (gSeq (gIf (mOrT (mNotT (mTest (mCall m_is_list (mCons (mV (mNm 1)) mNil)))) (mNotT (mTest (mB bAll (mCons (mComp (mSeq (mNm 1)) [2] (.nm 2) mYes (mV (mCall m_is_thing (mCons (mV (mNm 0)) (mCons (mV (mNm 2)) mNil))))) mNil)))))
  (gRet (mC .non))
  gNext)
  (gRet (mIf (mTest (mB bAll (mCons (mComp (mZip (mCons (mNm 1) (mCons (mSl (mNm 1) (mP (mC (.int (1)))) mNoP) mNil))) [3, 4] (.tup [3, 4]) mYes (mV (mBin sLt (mNm 3) (mNm 4)))) mNil))) (mB bList (mCons (mNm 1) mNil)) (mC .non))))
noncomputable def m_lot_in : Df := mkDf 2 5 g_lot_in
abbrev n_lot_in : List Str := [("width" : Str), ("value" : Str), ("thing" : Str), ("near" : Str), ("far" : Str)]
abbrev p_lot_in : List Str := [("width" : Str), ("value" : Str)]
abbrev s_lot_in : Stmt := (top 19)
theorem sc_lot_in : FnScope n_lot_in p_lot_in (defScope s_lot_in) := ⟨rfl, rfl, rfl, by decide +kernel, rfl, by decide +kernel, by decide +kernel⟩
theorem ok_lot_in {f : Addr} {fd : FuncData} {dvs : List V} (F : FunD K ("lot_in" : Str) ("lot_in" : Str) (defArgs s_lot_in) (defBody s_lot_in) (defScope s_lot_in) dvs [] f fd) (T : Txt K mg CS) (C_is_list : Kn P w K mg base ("is_list" : Str) 1 m_is_list) (C_is_thing : Kn P w K mg base ("is_thing" : Str) 3 m_is_thing) : FnG P w K mg base CX0 4 f fd p_lot_in (spG K mg m_lot_in) :=
  fn_df F sc_lot_in (by decide) fun cdv A out s H n c => (s_cons (s_if (t_w (t_or (t_not (t_of n (o_callD n c (C_is_list.mono (by decide)) (vs_cons (v_of (o_nm 1)) vs_nil).pa))) (t_or1 (t_not (t_of n (o_all n T.b_all (os_cons (o_comp n (.nm 2) (i_seq n (o_nm 1)) (blkOk_by (own := [(("thing" : Str), 2)]) (by kernel_rfl)) (by decide) (fun _ _ _ _ _ => (g_nm n.blk 2)) (fun _ _ _ _ _ n => ts_nil) (fun _ _ _ _ _ n => (v_of (o_callD n c.blk (C_is_thing.mono (by decide)) (vs_cons (v_of (o_nm 0)) (vs_cons (v_of (o_nm 2)) vs_nil)).pa)))) os_nil)))))))
  (s_one (s_ret o_non))
  s_nil)
  (s_one (s_ret (o_if (t_of n (o_all n T.b_all (os_cons (o_comp n (.tup [3, 4]) (i_zip n T.b_zip (os_cons (o_nm 1) (os_cons (o_sl n (o_nm 1) (p_some o_int) p_none) os_nil))) (blkOk_by (own := [(("near" : Str), 3), (("far" : Str), 4)]) (by kernel_rfl)) (by decide) (fun _ _ _ _ _ => (g_tup n.blk (is := [3, 4]) (gs_cons n.blk 3 (gs_cons n.blk 4 gs_nil)))) (fun _ _ _ _ _ n => ts_nil) (fun _ _ _ _ _ n => (v_of (o_lt n (o_nm 3) (o_nm 4))))) os_nil))) (o_list n T.b_list (os_cons (o_nm 1) os_nil)) o_non))))
/-! leaders -/
noncomputable def g_leaders : G := (gSeq (gPar [false, false] [3, 4] (mCons (mLst (mCons (mV (mNm 2)) mNil)) (mCons (mLst (mCons (mV (mNm 2)) mNil)) mNil)))
  (gSeq (gWhile (mTestB (mBin sNe (mNm 4) (mLst mNil)))
  (gSeq (gSet false 5 (mComp (mSeq (mNm 0)) [6, 7] (.tup [6, 7]) (mAndT (mTestB (mBin sIn (mNm 7) (mNm 4))) (mAndT (mTestB (mBin sIn (mNm 6) (mNm 1))) (mTestB (mBin sNin (mNm 6) (mNm 3))))) (mV (mNm 6))))
  (gSeq (gSet false 4 (mComp (mSeq (mNm 1)) [8] (.nm 8) (mTestB (mBin sIn (mNm 8) (mNm 5))) (mV (mNm 8))))
  (gSet false 3 (mBin sAdd (mNm 3) (mNm 4))))))
  (gRet (mB bSorted (mCons (mNm 3) mNil)))))
noncomputable def m_leaders : Df := mkDf 3 9 g_leaders
abbrev n_leaders : List Str := [("arrows" : Str), ("lot" : Str), ("thing" : Str), ("found" : Str), ("fresh" : Str), ("late" : Str), ("start" : Str), ("end" : Str), ("one" : Str)]
abbrev p_leaders : List Str := [("arrows" : Str), ("lot" : Str), ("thing" : Str)]
abbrev s_leaders : Stmt := (top 26)
theorem sc_leaders : FnScope n_leaders p_leaders (defScope s_leaders) := ⟨rfl, rfl, rfl, by decide +kernel, rfl, by decide +kernel, by decide +kernel⟩
theorem ok_leaders {f : Addr} {fd : FuncData} {dvs : List V} (F : FunD K ("leaders" : Str) ("leaders" : Str) (defArgs s_leaders) (defBody s_leaders) (defScope s_leaders) dvs [] f fd) (T : Txt K mg CS)  : FnG P w K mg base CX0 1 f fd p_leaders (spG K mg m_leaders) :=
  fn_df F sc_leaders (by decide) fun cdv A out s H n c => (s_cons (s_parN n [false, false] [3, 4] (os_cons (o_lst (vs_cons (v_of (o_nm 2)) vs_nil)) (os_cons (o_lst (vs_cons (v_of (o_nm 2)) vs_nil)) os_nil)) (g_tup n (is := [3, 4]) (gs_cons n 3 (gs_cons n 4 gs_nil))))
  (s_cons (s_while n PassesOwn.never (t_ne n (o_nm 4) (o_lst vs_nil))
  (s_cons (s_set n false 5 (o_comp n (.tup [6, 7]) (i_seq n (o_nm 0)) (blkOk_by (own := [(("start" : Str), 6), (("end" : Str), 7)]) (by kernel_rfl)) (by decide) (fun _ _ _ _ _ => (g_tup n.blk (is := [6, 7]) (gs_cons n.blk 6 (gs_cons n.blk 7 gs_nil)))) (fun _ _ _ _ _ n => (ts_one (t_w (t_and (t_in n (o_nm 7) (o_nm 4)) (t_and (t_in n (o_nm 6) (o_nm 1)) (t_and1 (t_nin n (o_nm 6) (o_nm 3)))))))) (fun _ _ _ _ _ n => (v_of (o_nm 6)))))
  (s_cons (s_set n false 4 (o_comp n (.nm 8) (i_seq n (o_nm 1)) (blkOk_by (own := [(("one" : Str), 8)]) (by kernel_rfl)) (by decide) (fun _ _ _ _ _ => (g_nm n.blk 8)) (fun _ _ _ _ _ n => (ts_one (t_in n (o_nm 8) (o_nm 5)))) (fun _ _ _ _ _ n => (v_of (o_nm 8)))))
  (s_one (s_set n false 3 (o_add n (o_nm 3) (o_nm 4)))))))
  (s_one (s_ret (o_sorted n T.b_sorted (os_cons (o_nm 3) os_nil))))))
/-! head_of -/
noncomputable def g_head_of : G := (gSeq (gFor (mSeq (mFix (mNm 1))) (.nm 2)
  (gIf (mTestB (mBin sEq (mB bLen (mCons (mCall m_leaders (mCons (mV (mUn (fldOf ("Plan" : Str) ("own_arrows" : Str)) (mNm 0))) (mCons (mV (mNm 1)) (mCons (mV (mNm 2)) mNil)))) mNil)) (mB bLen (mCons (mNm 1) mNil))))
  (gRet (mNm 2))
  gNext))
  (gRet (mC .non)))
noncomputable def m_head_of : Df := mkDf 2 3 g_head_of
abbrev n_head_of : List Str := [("plan" : Str), ("lot" : Str), ("thing" : Str)]
abbrev p_head_of : List Str := [("plan" : Str), ("lot" : Str)]
abbrev s_head_of : Stmt := (top 29)
theorem sc_head_of : FnScope n_head_of p_head_of (defScope s_head_of) := ⟨rfl, rfl, rfl, by decide +kernel, rfl, by decide +kernel, by decide +kernel⟩
theorem ok_head_of {f : Addr} {fd : FuncData} {dvs : List V} (F : FunD K ("head_of" : Str) ("head_of" : Str) (defArgs s_head_of) (defBody s_head_of) (defScope s_head_of) dvs [] f fd) (T : Txt K mg CS) (C_leaders : Kn P w K mg base ("leaders" : Str) 1 m_leaders) : FnG P w K mg base CX0 2 f fd p_head_of (spG K mg m_head_of) :=
  fn_df F sc_head_of (by decide) fun cdv A out s H n c => (s_cons (s_for n PassesOwn.never (.nm 2) (i_seq n (o_fix (o_nm 1))) (g_nm n 2)
  (s_one (s_if (t_eq n (o_len n T.b_len (os_cons (o_callD n c (C_leaders.mono (by decide)) (vs_cons (v_of (o_fld n ("Plan" : Str) ("own_arrows" : Str) T.fl_Plan_own_arrows (o_nm 0))) (vs_cons (v_of (o_nm 1)) (vs_cons (v_of (o_nm 2)) vs_nil))).pa) os_nil)) (o_len n T.b_len (os_cons (o_nm 1) os_nil)))
  (s_one (s_ret (o_nm 2)))
  s_nil)))
  (s_one (s_ret o_non)))
/-! part_in -/
noncomputable def g_part_in : G := (gSeq (gSet false 3 (mBin sAdd (mNm 0) (mComp (mSeq (mNm 0)) [4, 5] (.tup [4, 5]) mYes (mV (mTup (mCons (mV (mNm 5)) (mCons (mV (mNm 4)) mNil)))))))
  (gRet (mCall m_leaders (mCons (mV (mNm 3)) (mCons (mV (mNm 1)) (mCons (mV (mNm 2)) mNil))))))
noncomputable def m_part_in : Df := mkDf 3 6 g_part_in
abbrev n_part_in : List Str := [("ties" : Str), ("lot" : Str), ("thing" : Str), ("both" : Str), ("near" : Str), ("far" : Str)]
abbrev p_part_in : List Str := [("ties" : Str), ("lot" : Str), ("thing" : Str)]
abbrev s_part_in : Stmt := (top 27)
theorem sc_part_in : FnScope n_part_in p_part_in (defScope s_part_in) := ⟨rfl, rfl, rfl, by decide +kernel, rfl, by decide +kernel, by decide +kernel⟩
theorem ok_part_in {f : Addr} {fd : FuncData} {dvs : List V} (F : FunD K ("part_in" : Str) ("part_in" : Str) (defArgs s_part_in) (defBody s_part_in) (defScope s_part_in) dvs [] f fd) (T : Txt K mg CS) (C_leaders : Kn P w K mg base ("leaders" : Str) 1 m_leaders) : FnG P w K mg base CX0 2 f fd p_part_in (spG K mg m_part_in) :=
  fn_df F sc_part_in (by decide) fun cdv A out s H n c => (s_cons (s_set n false 3 (o_add n (o_nm 0) (o_comp n (.tup [4, 5]) (i_seq n (o_nm 0)) (blkOk_by (own := [(("near" : Str), 4), (("far" : Str), 5)]) (by kernel_rfl)) (by decide) (fun _ _ _ _ _ => (g_tup n.blk (is := [4, 5]) (gs_cons n.blk 4 (gs_cons n.blk 5 gs_nil)))) (fun _ _ _ _ _ n => ts_nil) (fun _ _ _ _ _ n => (v_of (o_tup (vs_cons (v_of (o_nm 5)) (vs_cons (v_of (o_nm 4)) vs_nil))))))))
  (s_one (s_ret (o_callD n c (C_leaders.mono (by decide)) (vs_cons (v_of (o_nm 3)) (vs_cons (v_of (o_nm 1)) (vs_cons (v_of (o_nm 2)) vs_nil))).pa))))
/-! hangs_of -/
noncomputable def g_hangs_of : G := (gRet (mOr (mBin sEq (mNm 1) (mLst mNil)) (mBin sEq (mB bLen (mCons (mCall m_part_in (mCons (mV (mUn (fldOf ("Plan" : Str) ("own_ties" : Str)) (mNm 0))) (mCons (mV (mNm 1)) (mCons (mV (mBin sIxD (mNm 1) (mC (.int (0))))) mNil)))) mNil)) (mB bLen (mCons (mNm 1) mNil)))))
noncomputable def m_hangs_of : Df := mkDf 2 2 g_hangs_of
abbrev n_hangs_of : List Str := [("plan" : Str), ("lot" : Str)]
abbrev p_hangs_of : List Str := [("plan" : Str), ("lot" : Str)]
abbrev s_hangs_of : Stmt := (top 30)
theorem sc_hangs_of : FnScope n_hangs_of p_hangs_of (defScope s_hangs_of) := ⟨rfl, rfl, rfl, by decide +kernel, rfl, by decide +kernel, by decide +kernel⟩
theorem ok_hangs_of {f : Addr} {fd : FuncData} {dvs : List V} (F : FunD K ("hangs_of" : Str) ("hangs_of" : Str) (defArgs s_hangs_of) (defBody s_hangs_of) (defScope s_hangs_of) dvs [] f fd) (T : Txt K mg CS) (C_part_in : Kn P w K mg base ("part_in" : Str) 2 m_part_in) : FnG P w K mg base CX0 3 f fd p_hangs_of (spG K mg m_hangs_of) :=
  fn_df F sc_hangs_of (by decide) fun cdv A out s H n c => (s_one (s_ret (o_or (o_eq n (o_nm 1) (o_lst vs_nil)) (o_one (o_eq n (o_len n T.b_len (os_cons (o_callD n c (C_part_in.mono (by decide)) (vs_cons (v_of (o_fld n ("Plan" : Str) ("own_ties" : Str) T.fl_Plan_own_ties (o_nm 0))) (vs_cons (v_of (o_nm 1)) (vs_cons (v_of (o_ix n (o_nm 1) o_int)) vs_nil))).pa) os_nil)) (o_len n T.b_len (os_cons (o_nm 1) os_nil)))))))
/-! is_bar -/
noncomputable def g_is_bar : G := (gRet (mAnd (mBin sGt (mB bLen (mCons (mNm 1) mNil)) (mC (.int (1)))) (mAnd (mBin sIsN (mCall m_head_of (mCons (mV (mNm 0)) (mCons (mV (mNm 1)) mNil))) (mC .non)) (mCall m_hangs_of (mCons (mV (mNm 0)) (mCons (mV (mNm 1)) mNil))))))
noncomputable def m_is_bar : Df := mkDf 2 2 g_is_bar
abbrev n_is_bar : List Str := [("plan" : Str), ("lot" : Str)]
abbrev p_is_bar : List Str := [("plan" : Str), ("lot" : Str)]
abbrev s_is_bar : Stmt := (top 31)
theorem sc_is_bar : FnScope n_is_bar p_is_bar (defScope s_is_bar) := ⟨rfl, rfl, rfl, by decide +kernel, rfl, by decide +kernel, by decide +kernel⟩
theorem ok_is_bar {f : Addr} {fd : FuncData} {dvs : List V} (F : FunD K ("is_bar" : Str) ("is_bar" : Str) (defArgs s_is_bar) (defBody s_is_bar) (defScope s_is_bar) dvs [] f fd) (T : Txt K mg CS) (C_hangs_of : Kn P w K mg base ("hangs_of" : Str) 3 m_hangs_of) (C_head_of : Kn P w K mg base ("head_of" : Str) 2 m_head_of) : FnG P w K mg base CX0 4 f fd p_is_bar (spG K mg m_is_bar) :=
  fn_df F sc_is_bar (by decide) fun cdv A out s H n c => (s_one (s_ret (o_and (o_gt n (o_len n T.b_len (os_cons (o_nm 1) os_nil)) o_int) (o_and (o_isN n (o_callD n c (C_head_of.mono (by decide)) (vs_cons (v_of (o_nm 0)) (vs_cons (v_of (o_nm 1)) vs_nil)).pa) o_non) (o_one (o_callD n c (C_hangs_of.mono (by decide)) (vs_cons (v_of (o_nm 0)) (vs_cons (v_of (o_nm 1)) vs_nil)).pa))))))
/-! is_barred -/
noncomputable def g_is_barred : G := (gSeq (gSet false 2 (mCall m_want_plan (mCons (mV (mNm 0)) mNil)))
  (gSeq (gSet false 3 (mCall m_lot_in (mCons (mV (mUn (fldOf ("Plan" : Str) ("own_width" : Str)) (mNm 2))) (mCons (mV (mNm 1)) mNil))))
  (gRet (mAnd (mBin sIsN (mNm 3) (mC .non)) (mCall m_is_bar (mCons (mV (mNm 2)) (mCons (mV (mNm 3)) mNil)))))))
noncomputable def m_is_barred : Df := mkDf 2 4 g_is_barred
abbrev n_is_barred : List Str := [("plan" : Str), ("value" : Str), ("here" : Str), ("lot" : Str)]
abbrev p_is_barred : List Str := [("plan" : Str), ("value" : Str)]
abbrev s_is_barred : Stmt := (top 32)
theorem sc_is_barred : FnScope n_is_barred p_is_barred (defScope s_is_barred) := ⟨rfl, rfl, rfl, by decide +kernel, rfl, by decide +kernel, by decide +kernel⟩
theorem ok_is_barred {f : Addr} {fd : FuncData} {dvs : List V} (F : FunD K ("is_barred" : Str) ("is_barred" : Str) (defArgs s_is_barred) (defBody s_is_barred) (defScope s_is_barred) dvs [] f fd) (T : Txt K mg CS) (C_is_bar : Kn P w K mg base ("is_bar" : Str) 4 m_is_bar) (C_lot_in : Kn P w K mg base ("lot_in" : Str) 4 m_lot_in) (C_want_plan : Kn P w K mg base ("want_plan" : Str) 1 m_want_plan) : FnG P w K mg base CX0 5 f fd p_is_barred (spG K mg m_is_barred) :=
  fn_df F sc_is_barred (by decide) fun cdv A out s H n c => (s_cons (s_set n false 2 (o_callD n c (C_want_plan.mono (by decide)) (vs_cons (v_of (o_nm 0)) vs_nil).pa))
  (s_cons (s_set n false 3 (o_callD n c (C_lot_in.mono (by decide)) (vs_cons (v_of (o_fld n ("Plan" : Str) ("own_width" : Str) T.fl_Plan_own_width (o_nm 2))) (vs_cons (v_of (o_nm 1)) vs_nil)).pa))
  (s_one (s_ret (o_and (o_isN n (o_nm 3) o_non) (o_one (o_callD n c (C_is_bar.mono (by decide)) (vs_cons (v_of (o_nm 2)) (vs_cons (v_of (o_nm 3)) vs_nil)).pa)))))))
/-! _law_right -/
noncomputable def g_f_law_right : G := (gSeq (gSet false 1 (mCallR m_f_law_world 0 (mCons (mV (mCallR m_f_law_draw 0 (mCons (mV (mC (.int (6)))) mNil))) mNil)))
  (gSeq (gSet false 2 (mCallR m_f_law_made 0 (mCons (mV (mNm 1)) mNil)))
  (gSeq (gFor (mEnum (mCons (mFix (mCallR m_f_law_values 0 (mCons (mV (mNm 1)) mNil))) mNil)) (.tup [3, 4])
  (gSeq (gPar [false, false] [5, 6] (mCons (mCall m_f_law_due (mCons (mV (mNm 1)) (mCons (mV (mNm 4)) mNil))) (mCons (mB bRepr (mCons (mNm 4) mNil)) mNil)))
  (gSeq (gSet false 7 (mIf (mTestB (mBin sEq (mBin sMod (mB bInt (mCons (mNm 3) mNil)) (mC (.int (2)))) (mC (.int (0))))) (mCall m_is_barred (mCons (mV (mNm 2)) (mCons (mV (mNm 4)) mNil))) (mCallK m_is_barred (permD [1, 0]) (mCons (mV (mNm 4)) (mCons (mV (mNm 2)) mNil)))))
  (gIf (mOrT (mTestB (mBin sNe (mB bRepr (mCons (mNm 7) mNil)) (mB bRepr (mCons (mNm 5) mNil)))) (mTestB (mBin sNe (mB bRepr (mCons (mNm 4) mNil)) (mNm 6))))
  (gRet (mC (.bl false)))
  gNext))))
  (gRet (mC (.bl true))))))
noncomputable def m_f_law_right : Df := mkDf 1 8 g_f_law_right
abbrev n_f_law_right : List Str := [("_law_pot_here" : Str), ("_law_world_here" : Str), ("_law_plan" : Str), ("_law_at" : Str), ("_law_value" : Str), ("_law_due_here" : Str), ("_law_shown" : Str), ("_law_told" : Str)]
abbrev p_f_law_right : List Str := [("_law_pot_here" : Str)]
abbrev s_f_law_right : Stmt := (top 48)
theorem sc_f_law_right : FnScope n_f_law_right p_f_law_right (defScope s_f_law_right) := ⟨rfl, rfl, rfl, by decide +kernel, rfl, by decide +kernel, by decide +kernel⟩
theorem ok_f_law_right {f : Addr} {fd : FuncData} {dvs : List V} (F : FunD K ("_law_right" : Str) ("_law_right" : Str) (defArgs s_f_law_right) (defBody s_f_law_right) (defScope s_f_law_right) dvs [] f fd) (T : Txt K mg CS) (C_f_law_draw : Kn P w K mg base ("_law_draw" : Str) 1 m_f_law_draw) (C_f_law_due : Kn P w K mg base ("_law_due" : Str) 4 m_f_law_due) (C_f_law_made : Kn P w K mg base ("_law_made" : Str) 9 m_f_law_made) (C_f_law_values : Kn P w K mg base ("_law_values" : Str) 3 m_f_law_values) (C_f_law_world : Kn P w K mg base ("_law_world" : Str) 3 m_f_law_world) (C_is_barred : Kn P w K mg base ("is_barred" : Str) 5 m_is_barred) (K_is_barred : KnK P w K mg base ("is_barred" : Str) 5 m_is_barred [("value" : Str), ("plan" : Str)] (permD [1, 0])) : FnG P w K mg base CX0 10 f fd p_f_law_right (spG K mg m_f_law_right) :=
  fn_df F sc_f_law_right (by decide) fun cdv A out s H n c => (s_cons (s_set n false 1 (o_callR n c 0 (C_f_law_world.mono (by decide)) (pv 0) (vs_cons (v_of (o_callR n c 0 (C_f_law_draw.mono (by decide)) (pv 0) (vs_cons (v_of o_int) vs_nil).pa)) vs_nil).pa))
  (s_cons (s_set n false 2 (o_callR n c 0 (C_f_law_made.mono (by decide)) (pv 0) (vs_cons (v_of (o_nm 1)) vs_nil).pa))
  (s_cons (s_for n PassesOwn.never (.tup [3, 4]) (i_enum n T.b_enumerate (os_cons (o_fix (o_callR n c 0 (C_f_law_values.mono (by decide)) (pv 0) (vs_cons (v_of (o_nm 1)) vs_nil).pa)) os_nil)) (g_tup n (is := [3, 4]) (gs_cons n 3 (gs_cons n 4 gs_nil)))
  (s_cons (s_par n false false 5 6 (os_cons (o_callD n c (C_f_law_due.mono (by decide)) (vs_cons (v_of (o_nm 1)) (vs_cons (v_of (o_nm 4)) vs_nil)).pa) (os_cons (o_repr n c.gd T.b_repr (os_cons (o_nm 4) os_nil)) os_nil)))
  (s_cons (s_set n false 7 (o_if (t_eq n (o_mod n (o_intB n T.b_int (os_cons (o_nm 3) os_nil)) o_int) o_int) (o_callD n c (C_is_barred.mono (by decide)) (vs_cons (v_of (o_nm 2)) (vs_cons (v_of (o_nm 4)) vs_nil)).pa) (o_callK n c (K_is_barred.mono (by decide)) (ks_cons (v_of (o_nm 4)) (ks_cons (v_of (o_nm 2)) ks_nil)) (len_cons (len_cons len_nil)))))
  (s_one (s_if (t_w (t_or (t_ne n (o_repr n c.gd T.b_repr (os_cons (o_nm 7) os_nil)) (o_repr n c.gd T.b_repr (os_cons (o_nm 5) os_nil))) (t_or1 (t_ne n (o_repr n c.gd T.b_repr (os_cons (o_nm 4) os_nil)) (o_nm 6)))))
  (s_one (s_ret o_bl))
  s_nil)))))
  (s_one (s_ret o_bl)))))
/-! _law_pot -/
noncomputable def g_f_law_pot : G := (gSeq (gSet false 2 (mIf (mTestB (mBin sLt (mNm 1) (mB bLen (mCons (mNm 0) mNil)))) (mB bAbs (mCons (mBin sIxD (mNm 0) (mNm 1)) mNil)) (mBin sAdd (mBin sMul (mC (.int (769))) (mNm 1)) (mC (.int (613))))))
  (gRet (mLst (mCons (mV (mB bMax (mCons (mC (.int (0))) (mCons (mBin sSub (mNm 2) (mBin sPow (mC (.int (10))) (mC (.int (18))))) mNil)))) (mCons (mV (mBin sAdd (mBin sMod (mB bInt (mCons (mBin sAdd (mBin sAdd (mBin sMul (mBin sMod (mB bInt (mCons (mNm 2) mNil)) (mC (.int (2147483543)))) (mC (.int (40471)))) (mBin sMul (mC (.int (6869))) (mNm 1))) (mC (.int (229)))) mNil)) (mC (.int (2147483549)))) (mC (.int (1))))) mNil)))))
noncomputable def m_f_law_pot : Df := mkDf 2 3 g_f_law_pot
abbrev n_f_law_pot : List Str := [("_law_script" : Str), ("_law_k" : Str), ("_law_cell" : Str)]
abbrev p_f_law_pot : List Str := [("_law_script" : Str), ("_law_k" : Str)]
abbrev s_f_law_pot : Stmt := (top 34)
theorem sc_f_law_pot : FnScope n_f_law_pot p_f_law_pot (defScope s_f_law_pot) := ⟨rfl, rfl, rfl, by decide +kernel, rfl, by decide +kernel, by decide +kernel⟩
theorem ok_f_law_pot {f : Addr} {fd : FuncData} {dvs : List V} (F : FunD K ("_law_pot" : Str) ("_law_pot" : Str) (defArgs s_f_law_pot) (defBody s_f_law_pot) (defScope s_f_law_pot) dvs [] f fd) (T : Txt K mg CS)  : FnG P w K mg base CX0 1 f fd p_f_law_pot (spG K mg m_f_law_pot) :=
  fn_df F sc_f_law_pot (by decide) fun cdv A out s H n c => (s_cons (s_set n false 2 (o_if (t_lt n (o_nm 1) (o_len n T.b_len (os_cons (o_nm 0) os_nil))) (o_abs n T.b_abs (os_cons (o_ix n (o_nm 0) (o_nm 1)) os_nil)) (o_add n (o_mul n o_int (o_nm 1)) o_int)))
  (s_one (s_ret (o_lst (vs_cons (v_of (o_max n T.b_max (os_cons o_int (os_cons (o_sub n (o_nm 2) (o_pow n o_int o_int)) os_nil)))) (vs_cons (v_of (o_add n (o_mod n (o_intB n T.b_int (os_cons (o_add n (o_add n (o_mul n (o_mod n (o_intB n T.b_int (os_cons (o_nm 2) os_nil)) o_int) o_int) (o_mul n o_int (o_nm 1))) o_int) os_nil)) o_int) o_int)) vs_nil))))))
/-! law -/
noncomputable def g_law : G := (gRet (mCallT m_f_law_right (mCall m_f_law_pot (mCons (mV (mNm 0)) (mCons (mV (mC (.int (0)))) mNil))) mNil))
noncomputable def m_law : Df := mkDf 1 1 g_law
abbrev n_law : List Str := [("_law_script" : Str)]
abbrev p_law : List Str := [("_law_script" : Str)]
abbrev s_law : Stmt := (top 49)
theorem sc_law : FnScope n_law p_law (defScope s_law) := ⟨rfl, rfl, rfl, by decide +kernel, rfl, by decide +kernel, by decide +kernel⟩
theorem ok_law {f : Addr} {fd : FuncData} {dvs : List V} (F : FunD K ("law" : Str) ("law" : Str) (defArgs s_law) (defBody s_law) (defScope s_law) dvs [] f fd) (T : Txt K mg CS) (C_f_law_pot : Kn P w K mg base ("_law_pot" : Str) 1 m_f_law_pot) (C_f_law_right : Kn P w K mg base ("_law_right" : Str) 10 m_f_law_right) : FnG P w K mg base CX0 11 f fd p_law (spG K mg m_law) :=
  fn_df F sc_law (by decide) fun cdv A out s H n c => (s_one (s_ret (o_callT n c (C_f_law_right.mono (by decide)) (o_callD n c (C_f_law_pot.mono (by decide)) (vs_cons (v_of (o_nm 0)) (vs_cons (v_of o_int) vs_nil)).pa) vs_nil.pa)))
end
end DL
namespace DL
open PySem PySem.Spec PyProof.Rows L2
theorem all_mk {P : Program} {w : World} {K : PySem.W.Frag} {h : Heap} {mg : Str → Option Value} {fa : Addr} (X : K.In h) (G : h.Ns mainGlobals mg) (hfa : mg "law" = some (.ref fa))
  {tk_MOST_SIZE : Tok}
  {K_Known : Addr} {cd_Known : ClassData}
  {K_Plan : Addr} {cd_Plan : ClassData}
  {f_f_law_draw : Addr} {oc_f_law_draw kV_f_law_draw dc_f_law_draw pm_f_law_draw cd_f_law_draw ct_f_law_draw : Value} {od_f_law_draw an_f_law_draw : Option Addr} {sl_f_law_draw : Array (Option Value)}
  {f_f_law_order : Addr} {oc_f_law_order kV_f_law_order dc_f_law_order pm_f_law_order cd_f_law_order ct_f_law_order : Value} {od_f_law_order an_f_law_order : Option Addr} {sl_f_law_order : Array (Option Value)}
  {f_f_law_world : Addr} {oc_f_law_world kV_f_law_world dc_f_law_world pm_f_law_world cd_f_law_world ct_f_law_world : Value} {od_f_law_world an_f_law_world : Option Addr} {sl_f_law_world : Array (Option Value)}
  {f_is_integer : Addr} {oc_is_integer kV_is_integer dc_is_integer pm_is_integer cd_is_integer ct_is_integer : Value} {od_is_integer an_is_integer : Option Addr} {sl_is_integer : Array (Option Value)}
  {f_is_count : Addr} {oc_is_count kV_is_count dc_is_count pm_is_count cd_is_count ct_is_count : Value} {od_is_count an_is_count : Option Addr} {sl_is_count : Array (Option Value)}
  {f_is_list : Addr} {oc_is_list kV_is_list dc_is_list pm_is_list cd_is_list ct_is_list : Value} {od_is_list an_is_list : Option Addr} {sl_is_list : Array (Option Value)}
  {f_is_thing : Addr} {oc_is_thing kV_is_thing dc_is_thing pm_is_thing cd_is_thing ct_is_thing : Value} {od_is_thing an_is_thing : Option Addr} {sl_is_thing : Array (Option Value)}
  {f_is_arrow : Addr} {oc_is_arrow kV_is_arrow dc_is_arrow pm_is_arrow cd_is_arrow ct_is_arrow : Value} {od_is_arrow an_is_arrow : Option Addr} {sl_is_arrow : Array (Option Value)}
  {f_arrows_in : Addr} {oc_arrows_in kV_arrows_in dc_arrows_in pm_arrows_in cd_arrows_in ct_arrows_in : Value} {od_arrows_in an_arrows_in : Option Addr} {sl_arrows_in : Array (Option Value)}
  {f_all_unlike : Addr} {oc_all_unlike kV_all_unlike dc_all_unlike pm_all_unlike cd_all_unlike ct_all_unlike : Value} {od_all_unlike an_all_unlike : Option Addr} {sl_all_unlike : Array (Option Value)}
  {f_order_of : Addr} {oc_order_of kV_order_of dc_order_of pm_order_of cd_order_of ct_order_of : Value} {od_order_of an_order_of : Option Addr} {sl_order_of : Array (Option Value)}
  {f_are_unlike : Addr} {oc_are_unlike kV_are_unlike dc_are_unlike pm_are_unlike cd_are_unlike ct_are_unlike : Value} {od_are_unlike an_are_unlike : Option Addr} {sl_are_unlike : Array (Option Value)}
  {f_is_tie : Addr} {oc_is_tie kV_is_tie dc_is_tie pm_is_tie cd_is_tie ct_is_tie : Value} {od_is_tie an_is_tie : Option Addr} {sl_is_tie : Array (Option Value)}
  {f_ties_in : Addr} {oc_ties_in kV_ties_in dc_ties_in pm_ties_in cd_ties_in ct_ties_in : Value} {od_ties_in an_ties_in : Option Addr} {sl_ties_in : Array (Option Value)}
  {f_Plan_init : Addr} {oc_Plan_init kV_Plan_init dc_Plan_init pm_Plan_init cd_Plan_init ct_Plan_init : Value} {od_Plan_init an_Plan_init : Option Addr} {sl_Plan_init : Array (Option Value)}
  {T_Plan_init : Addr} {ocT_Plan_init : Value} {odT_Plan_init : Option Addr} {nT_Plan_init : Nat} {slT_Plan_init : Array (Option Value)} {e1_Plan_init e2_Plan_init : Addr}
  {f_f_law_made : Addr} {oc_f_law_made kV_f_law_made dc_f_law_made pm_f_law_made cd_f_law_made ct_f_law_made : Value} {od_f_law_made an_f_law_made : Option Addr} {sl_f_law_made : Array (Option Value)}
  {f_f_law_lots : Addr} {oc_f_law_lots kV_f_law_lots dc_f_law_lots pm_f_law_lots cd_f_law_lots ct_f_law_lots : Value} {od_f_law_lots an_f_law_lots : Option Addr} {sl_f_law_lots : Array (Option Value)}
  {f_f_law_pick : Addr} {oc_f_law_pick kV_f_law_pick dc_f_law_pick pm_f_law_pick cd_f_law_pick ct_f_law_pick : Value} {od_f_law_pick an_f_law_pick : Option Addr} {sl_f_law_pick : Array (Option Value)}
  {f_f_law_values : Addr} {oc_f_law_values kV_f_law_values dc_f_law_values pm_f_law_values cd_f_law_values ct_f_law_values : Value} {od_f_law_values an_f_law_values : Option Addr} {sl_f_law_values : Array (Option Value)}
  {f_f_law_hung : Addr} {oc_f_law_hung kV_f_law_hung dc_f_law_hung pm_f_law_hung cd_f_law_hung ct_f_law_hung : Value} {od_f_law_hung an_f_law_hung : Option Addr} {sl_f_law_hung : Array (Option Value)}
  {f_f_law_hangs : Addr} {oc_f_law_hangs kV_f_law_hangs dc_f_law_hangs pm_f_law_hangs cd_f_law_hangs ct_f_law_hangs : Value} {od_f_law_hangs an_f_law_hangs : Option Addr} {sl_f_law_hangs : Array (Option Value)}
  {f_f_law_leaders : Addr} {oc_f_law_leaders kV_f_law_leaders dc_f_law_leaders pm_f_law_leaders cd_f_law_leaders ct_f_law_leaders : Value} {od_f_law_leaders an_f_law_leaders : Option Addr} {sl_f_law_leaders : Array (Option Value)}
  {f_f_law_heads : Addr} {oc_f_law_heads kV_f_law_heads dc_f_law_heads pm_f_law_heads cd_f_law_heads ct_f_law_heads : Value} {od_f_law_heads an_f_law_heads : Option Addr} {sl_f_law_heads : Array (Option Value)}
  {f_f_law_is_bar : Addr} {oc_f_law_is_bar kV_f_law_is_bar dc_f_law_is_bar pm_f_law_is_bar cd_f_law_is_bar ct_f_law_is_bar : Value} {od_f_law_is_bar an_f_law_is_bar : Option Addr} {sl_f_law_is_bar : Array (Option Value)}
  {f_f_law_due : Addr} {oc_f_law_due kV_f_law_due dc_f_law_due pm_f_law_due cd_f_law_due ct_f_law_due : Value} {od_f_law_due an_f_law_due : Option Addr} {sl_f_law_due : Array (Option Value)}
  {f_want_plan : Addr} {oc_want_plan kV_want_plan dc_want_plan pm_want_plan cd_want_plan ct_want_plan : Value} {od_want_plan an_want_plan : Option Addr} {sl_want_plan : Array (Option Value)}
  {f_lot_in : Addr} {oc_lot_in kV_lot_in dc_lot_in pm_lot_in cd_lot_in ct_lot_in : Value} {od_lot_in an_lot_in : Option Addr} {sl_lot_in : Array (Option Value)}
  {f_leaders : Addr} {oc_leaders kV_leaders dc_leaders pm_leaders cd_leaders ct_leaders : Value} {od_leaders an_leaders : Option Addr} {sl_leaders : Array (Option Value)}
  {f_head_of : Addr} {oc_head_of kV_head_of dc_head_of pm_head_of cd_head_of ct_head_of : Value} {od_head_of an_head_of : Option Addr} {sl_head_of : Array (Option Value)}
  {f_part_in : Addr} {oc_part_in kV_part_in dc_part_in pm_part_in cd_part_in ct_part_in : Value} {od_part_in an_part_in : Option Addr} {sl_part_in : Array (Option Value)}
  {f_hangs_of : Addr} {oc_hangs_of kV_hangs_of dc_hangs_of pm_hangs_of cd_hangs_of ct_hangs_of : Value} {od_hangs_of an_hangs_of : Option Addr} {sl_hangs_of : Array (Option Value)}
  {f_is_bar : Addr} {oc_is_bar kV_is_bar dc_is_bar pm_is_bar cd_is_bar ct_is_bar : Value} {od_is_bar an_is_bar : Option Addr} {sl_is_bar : Array (Option Value)}
  {f_is_barred : Addr} {oc_is_barred kV_is_barred dc_is_barred pm_is_barred cd_is_barred ct_is_barred : Value} {od_is_barred an_is_barred : Option Addr} {sl_is_barred : Array (Option Value)}
  {f_f_law_right : Addr} {oc_f_law_right kV_f_law_right dc_f_law_right pm_f_law_right cd_f_law_right ct_f_law_right : Value} {od_f_law_right an_f_law_right : Option Addr} {sl_f_law_right : Array (Option Value)}
  {f_f_law_pot : Addr} {oc_f_law_pot kV_f_law_pot dc_f_law_pot pm_f_law_pot cd_f_law_pot ct_f_law_pot : Value} {od_f_law_pot an_f_law_pot : Option Addr} {sl_f_law_pot : Array (Option Value)}
  {f_law : Addr} {oc_law kV_law dc_law pm_law cd_law ct_law : Value} {od_law an_law : Option Addr} {sl_law : Array (Option Value)}
  (z_abs : PySem.W.nsIn K mainGlobals "abs" = some none)
  (z_all : PySem.W.nsIn K mainGlobals "all" = some none)
  (z_any : PySem.W.nsIn K mainGlobals "any" = some none)
  (z_bool : PySem.W.nsIn K mainGlobals "bool" = some none)
  (z_divmod : PySem.W.nsIn K mainGlobals "divmod" = some none)
  (z_enumerate : PySem.W.nsIn K mainGlobals "enumerate" = some none)
  (z_int : PySem.W.nsIn K mainGlobals "int" = some none)
  (z_isinstance : PySem.W.nsIn K mainGlobals "isinstance" = some none)
  (z_len : PySem.W.nsIn K mainGlobals "len" = some none)
  (z_list : PySem.W.nsIn K mainGlobals "list" = some none)
  (z_max : PySem.W.nsIn K mainGlobals "max" = some none)
  (z_min : PySem.W.nsIn K mainGlobals "min" = some none)
  (z_range : PySem.W.nsIn K mainGlobals "range" = some none)
  (z_repr : PySem.W.nsIn K mainGlobals "repr" = some none)
  (z_sorted : PySem.W.nsIn K mainGlobals "sorted" = some none)
  (z_tuple : PySem.W.nsIn K mainGlobals "tuple" = some none)
  (z_zip : PySem.W.nsIn K mainGlobals "zip" = some none)
  (g_MOST_SIZE : PySem.W.nsIn K mainGlobals "MOST_SIZE" = some (some (.int 6 tk_MOST_SIZE)))
  (aC_Known : PySem.W.nsIn K mainGlobals "Known" = some (some (.ref K_Known)))
  (pg_Known : PySem.W.plainGet K K_Known Str.empty = true)
  (hd_Known : PySem.W.hasDictIn K K_Known = true)
  (po_Known : PySem.W.plainOver K K_Known = true)
  (sa_Known : PySem.W.findIn K (.ref K_Known) "__setattr__" = some (some (.builtin "object.__setattr__")))
  (ha_Known : PySem.W.findIn K (.ref K_Known) "__class__" = some (some (.builtin "object.__class__")))
  (ob_Known : PySem.W.mroIn K K_Known (.type "object") = some true)
  (m0_Known : PySem.W.mroIn K K_Known (.type "int") = some false)
  (m1_Known : PySem.W.mroIn K K_Known (.type "bool") = some false)
  (m2_Known : PySem.W.mroIn K K_Known (.type "str") = some false)
  (m3_Known : PySem.W.mroIn K K_Known (.type "list") = some false)
  (m4_Known : PySem.W.mroIn K K_Known (.type "tuple") = some false)
  (cl_Known : PySem.W.clsIn K K_Known = some cd_Known)
  (ty_Known : PySem.W.typeIn K (.ref K_Known) = some (.type "type"))
  (aC_Plan : PySem.W.nsIn K mainGlobals "Plan" = some (some (.ref K_Plan)))
  (pg_Plan : PySem.W.plainGet K K_Plan Str.empty = true)
  (hd_Plan : PySem.W.hasDictIn K K_Plan = true)
  (po_Plan : PySem.W.plainOver K K_Plan = true)
  (sa_Plan : PySem.W.findIn K (.ref K_Plan) "__setattr__" = some (some (.builtin "object.__setattr__")))
  (ha_Plan : PySem.W.findIn K (.ref K_Plan) "__class__" = some (some (.builtin "object.__class__")))
  (ob_Plan : PySem.W.mroIn K K_Plan (.type "object") = some true)
  (m0_Plan : PySem.W.mroIn K K_Plan (.type "int") = some false)
  (m1_Plan : PySem.W.mroIn K K_Plan (.type "bool") = some false)
  (m2_Plan : PySem.W.mroIn K K_Plan (.type "str") = some false)
  (m3_Plan : PySem.W.mroIn K K_Plan (.type "list") = some false)
  (m4_Plan : PySem.W.mroIn K K_Plan (.type "tuple") = some false)
  (cl_Plan : PySem.W.clsIn K K_Plan = some cd_Plan)
  (ty_Plan : PySem.W.typeIn K (.ref K_Plan) = some (.type "type"))
  (no_Plan_own_arrows : PySem.W.findIn K (.ref K_Plan) "own_arrows" = some none)
  (no_Plan_own_ties : PySem.W.findIn K (.ref K_Plan) "own_ties" = some none)
  (no_Plan_own_width : PySem.W.findIn K (.ref K_Plan) "own_width" = some none)
  (ne_Known_Plan : PySem.W.mroIn K K_Known (.ref K_Plan) = some false)
  (df_Known_Plan : (K_Known : Nat) ≠ K_Plan)
  (ne_Plan_Known : PySem.W.mroIn K K_Plan (.ref K_Known) = some false)
  (df_Plan_Known : (K_Plan : Nat) ≠ K_Known)
  (htk : PySem.W.takesIn K (.builtin "object.__class__") = some true)
  (hn : PySem.W.specialIn K (.builtin "object.__class__") "__get__" = some (some (.builtin "getset_descriptor.__get__")))
  (a_f_law_draw : PySem.W.nsIn K mainGlobals "_law_draw" = some (some (.ref f_f_law_draw)))
  (l_f_law_draw : K.lookup f_f_law_draw = some ⟨oc_f_law_draw, od_f_law_draw, .func (PySem.W.fnOf ("_law_draw" : Str) ("_law_draw" : Str) (defArgs s_f_law_draw) (defBody s_f_law_draw) (defScope s_f_law_draw) .none kV_f_law_draw dc_f_law_draw pm_f_law_draw an_f_law_draw cd_f_law_draw ct_f_law_draw), sl_f_law_draw⟩)
  (c_f_law_draw : PySem.W.codeIn K cd_f_law_draw ("_law_draw" : Str) = true)
  (k_f_law_draw : PySem.W.keepIn K (.ref f_f_law_draw) = true)
  (a_f_law_order : PySem.W.nsIn K mainGlobals "_law_order" = some (some (.ref f_f_law_order)))
  (l_f_law_order : K.lookup f_f_law_order = some ⟨oc_f_law_order, od_f_law_order, .func (PySem.W.fnOf ("_law_order" : Str) ("_law_order" : Str) (defArgs s_f_law_order) (defBody s_f_law_order) (defScope s_f_law_order) .none kV_f_law_order dc_f_law_order pm_f_law_order an_f_law_order cd_f_law_order ct_f_law_order), sl_f_law_order⟩)
  (c_f_law_order : PySem.W.codeIn K cd_f_law_order ("_law_order" : Str) = true)
  (k_f_law_order : PySem.W.keepIn K (.ref f_f_law_order) = true)
  (a_f_law_world : PySem.W.nsIn K mainGlobals "_law_world" = some (some (.ref f_f_law_world)))
  (l_f_law_world : K.lookup f_f_law_world = some ⟨oc_f_law_world, od_f_law_world, .func (PySem.W.fnOf ("_law_world" : Str) ("_law_world" : Str) (defArgs s_f_law_world) (defBody s_f_law_world) (defScope s_f_law_world) .none kV_f_law_world dc_f_law_world pm_f_law_world an_f_law_world cd_f_law_world ct_f_law_world), sl_f_law_world⟩)
  (c_f_law_world : PySem.W.codeIn K cd_f_law_world ("_law_world" : Str) = true)
  (k_f_law_world : PySem.W.keepIn K (.ref f_f_law_world) = true)
  (a_is_integer : PySem.W.nsIn K mainGlobals "is_integer" = some (some (.ref f_is_integer)))
  (l_is_integer : K.lookup f_is_integer = some ⟨oc_is_integer, od_is_integer, .func (PySem.W.fnOf ("is_integer" : Str) ("is_integer" : Str) (defArgs s_is_integer) (defBody s_is_integer) (defScope s_is_integer) .none kV_is_integer dc_is_integer pm_is_integer an_is_integer cd_is_integer ct_is_integer), sl_is_integer⟩)
  (c_is_integer : PySem.W.codeIn K cd_is_integer ("is_integer" : Str) = true)
  (k_is_integer : PySem.W.keepIn K (.ref f_is_integer) = true)
  (a_is_count : PySem.W.nsIn K mainGlobals "is_count" = some (some (.ref f_is_count)))
  (l_is_count : K.lookup f_is_count = some ⟨oc_is_count, od_is_count, .func (PySem.W.fnOf ("is_count" : Str) ("is_count" : Str) (defArgs s_is_count) (defBody s_is_count) (defScope s_is_count) .none kV_is_count dc_is_count pm_is_count an_is_count cd_is_count ct_is_count), sl_is_count⟩)
  (c_is_count : PySem.W.codeIn K cd_is_count ("is_count" : Str) = true)
  (k_is_count : PySem.W.keepIn K (.ref f_is_count) = true)
  (a_is_list : PySem.W.nsIn K mainGlobals "is_list" = some (some (.ref f_is_list)))
  (l_is_list : K.lookup f_is_list = some ⟨oc_is_list, od_is_list, .func (PySem.W.fnOf ("is_list" : Str) ("is_list" : Str) (defArgs s_is_list) (defBody s_is_list) (defScope s_is_list) .none kV_is_list dc_is_list pm_is_list an_is_list cd_is_list ct_is_list), sl_is_list⟩)
  (c_is_list : PySem.W.codeIn K cd_is_list ("is_list" : Str) = true)
  (k_is_list : PySem.W.keepIn K (.ref f_is_list) = true)
  (a_is_thing : PySem.W.nsIn K mainGlobals "is_thing" = some (some (.ref f_is_thing)))
  (l_is_thing : K.lookup f_is_thing = some ⟨oc_is_thing, od_is_thing, .func (PySem.W.fnOf ("is_thing" : Str) ("is_thing" : Str) (defArgs s_is_thing) (defBody s_is_thing) (defScope s_is_thing) .none kV_is_thing dc_is_thing pm_is_thing an_is_thing cd_is_thing ct_is_thing), sl_is_thing⟩)
  (c_is_thing : PySem.W.codeIn K cd_is_thing ("is_thing" : Str) = true)
  (k_is_thing : PySem.W.keepIn K (.ref f_is_thing) = true)
  (a_is_arrow : PySem.W.nsIn K mainGlobals "is_arrow" = some (some (.ref f_is_arrow)))
  (l_is_arrow : K.lookup f_is_arrow = some ⟨oc_is_arrow, od_is_arrow, .func (PySem.W.fnOf ("is_arrow" : Str) ("is_arrow" : Str) (defArgs s_is_arrow) (defBody s_is_arrow) (defScope s_is_arrow) .none kV_is_arrow dc_is_arrow pm_is_arrow an_is_arrow cd_is_arrow ct_is_arrow), sl_is_arrow⟩)
  (c_is_arrow : PySem.W.codeIn K cd_is_arrow ("is_arrow" : Str) = true)
  (k_is_arrow : PySem.W.keepIn K (.ref f_is_arrow) = true)
  (a_arrows_in : PySem.W.nsIn K mainGlobals "arrows_in" = some (some (.ref f_arrows_in)))
  (l_arrows_in : K.lookup f_arrows_in = some ⟨oc_arrows_in, od_arrows_in, .func (PySem.W.fnOf ("arrows_in" : Str) ("arrows_in" : Str) (defArgs s_arrows_in) (defBody s_arrows_in) (defScope s_arrows_in) .none kV_arrows_in dc_arrows_in pm_arrows_in an_arrows_in cd_arrows_in ct_arrows_in), sl_arrows_in⟩)
  (c_arrows_in : PySem.W.codeIn K cd_arrows_in ("arrows_in" : Str) = true)
  (k_arrows_in : PySem.W.keepIn K (.ref f_arrows_in) = true)
  (a_all_unlike : PySem.W.nsIn K mainGlobals "all_unlike" = some (some (.ref f_all_unlike)))
  (l_all_unlike : K.lookup f_all_unlike = some ⟨oc_all_unlike, od_all_unlike, .func (PySem.W.fnOf ("all_unlike" : Str) ("all_unlike" : Str) (defArgs s_all_unlike) (defBody s_all_unlike) (defScope s_all_unlike) .none kV_all_unlike dc_all_unlike pm_all_unlike an_all_unlike cd_all_unlike ct_all_unlike), sl_all_unlike⟩)
  (c_all_unlike : PySem.W.codeIn K cd_all_unlike ("all_unlike" : Str) = true)
  (k_all_unlike : PySem.W.keepIn K (.ref f_all_unlike) = true)
  (a_order_of : PySem.W.nsIn K mainGlobals "order_of" = some (some (.ref f_order_of)))
  (l_order_of : K.lookup f_order_of = some ⟨oc_order_of, od_order_of, .func (PySem.W.fnOf ("order_of" : Str) ("order_of" : Str) (defArgs s_order_of) (defBody s_order_of) (defScope s_order_of) .none kV_order_of dc_order_of pm_order_of an_order_of cd_order_of ct_order_of), sl_order_of⟩)
  (c_order_of : PySem.W.codeIn K cd_order_of ("order_of" : Str) = true)
  (k_order_of : PySem.W.keepIn K (.ref f_order_of) = true)
  (a_are_unlike : PySem.W.nsIn K mainGlobals "are_unlike" = some (some (.ref f_are_unlike)))
  (l_are_unlike : K.lookup f_are_unlike = some ⟨oc_are_unlike, od_are_unlike, .func (PySem.W.fnOf ("are_unlike" : Str) ("are_unlike" : Str) (defArgs s_are_unlike) (defBody s_are_unlike) (defScope s_are_unlike) .none kV_are_unlike dc_are_unlike pm_are_unlike an_are_unlike cd_are_unlike ct_are_unlike), sl_are_unlike⟩)
  (c_are_unlike : PySem.W.codeIn K cd_are_unlike ("are_unlike" : Str) = true)
  (k_are_unlike : PySem.W.keepIn K (.ref f_are_unlike) = true)
  (a_is_tie : PySem.W.nsIn K mainGlobals "is_tie" = some (some (.ref f_is_tie)))
  (l_is_tie : K.lookup f_is_tie = some ⟨oc_is_tie, od_is_tie, .func (PySem.W.fnOf ("is_tie" : Str) ("is_tie" : Str) (defArgs s_is_tie) (defBody s_is_tie) (defScope s_is_tie) .none kV_is_tie dc_is_tie pm_is_tie an_is_tie cd_is_tie ct_is_tie), sl_is_tie⟩)
  (c_is_tie : PySem.W.codeIn K cd_is_tie ("is_tie" : Str) = true)
  (k_is_tie : PySem.W.keepIn K (.ref f_is_tie) = true)
  (a_ties_in : PySem.W.nsIn K mainGlobals "ties_in" = some (some (.ref f_ties_in)))
  (l_ties_in : K.lookup f_ties_in = some ⟨oc_ties_in, od_ties_in, .func (PySem.W.fnOf ("ties_in" : Str) ("ties_in" : Str) (defArgs s_ties_in) (defBody s_ties_in) (defScope s_ties_in) .none kV_ties_in dc_ties_in pm_ties_in an_ties_in cd_ties_in ct_ties_in), sl_ties_in⟩)
  (c_ties_in : PySem.W.codeIn K cd_ties_in ("ties_in" : Str) = true)
  (k_ties_in : PySem.W.keepIn K (.ref f_ties_in) = true)
  (a_Plan_init : PySem.W.findIn K (.ref K_Plan) "__init__" = some (some (.ref f_Plan_init)))
  (i_Plan_init : PySem.W.isFn K (.ref f_Plan_init) = true)
  (l_Plan_init : K.lookup f_Plan_init = some ⟨oc_Plan_init, od_Plan_init, .func (PySem.W.fnOf ("__init__" : Str) ("Plan.__init__" : Str) (defArgs s_Plan_init) (defBody s_Plan_init) (defScope s_Plan_init) (.ref T_Plan_init) kV_Plan_init dc_Plan_init pm_Plan_init an_Plan_init cd_Plan_init ct_Plan_init), sl_Plan_init⟩)
  (c_Plan_init : PySem.W.codeIn K cd_Plan_init ("Plan.__init__" : Str) = true)
  (k_Plan_init : PySem.W.keepIn K (.ref f_Plan_init) = true)
  (t_Plan_init : K.lookup T_Plan_init = some ⟨ocT_Plan_init, odT_Plan_init, .seq #[.ref e1_Plan_init, .ref e2_Plan_init] nT_Plan_init, slT_Plan_init⟩)
  (a_f_law_made : PySem.W.nsIn K mainGlobals "_law_made" = some (some (.ref f_f_law_made)))
  (l_f_law_made : K.lookup f_f_law_made = some ⟨oc_f_law_made, od_f_law_made, .func (PySem.W.fnOf ("_law_made" : Str) ("_law_made" : Str) (defArgs s_f_law_made) (defBody s_f_law_made) (defScope s_f_law_made) .none kV_f_law_made dc_f_law_made pm_f_law_made an_f_law_made cd_f_law_made ct_f_law_made), sl_f_law_made⟩)
  (c_f_law_made : PySem.W.codeIn K cd_f_law_made ("_law_made" : Str) = true)
  (k_f_law_made : PySem.W.keepIn K (.ref f_f_law_made) = true)
  (a_f_law_lots : PySem.W.nsIn K mainGlobals "_law_lots" = some (some (.ref f_f_law_lots)))
  (l_f_law_lots : K.lookup f_f_law_lots = some ⟨oc_f_law_lots, od_f_law_lots, .func (PySem.W.fnOf ("_law_lots" : Str) ("_law_lots" : Str) (defArgs s_f_law_lots) (defBody s_f_law_lots) (defScope s_f_law_lots) .none kV_f_law_lots dc_f_law_lots pm_f_law_lots an_f_law_lots cd_f_law_lots ct_f_law_lots), sl_f_law_lots⟩)
  (c_f_law_lots : PySem.W.codeIn K cd_f_law_lots ("_law_lots" : Str) = true)
  (k_f_law_lots : PySem.W.keepIn K (.ref f_f_law_lots) = true)
  (a_f_law_pick : PySem.W.nsIn K mainGlobals "_law_pick" = some (some (.ref f_f_law_pick)))
  (l_f_law_pick : K.lookup f_f_law_pick = some ⟨oc_f_law_pick, od_f_law_pick, .func (PySem.W.fnOf ("_law_pick" : Str) ("_law_pick" : Str) (defArgs s_f_law_pick) (defBody s_f_law_pick) (defScope s_f_law_pick) .none kV_f_law_pick dc_f_law_pick pm_f_law_pick an_f_law_pick cd_f_law_pick ct_f_law_pick), sl_f_law_pick⟩)
  (c_f_law_pick : PySem.W.codeIn K cd_f_law_pick ("_law_pick" : Str) = true)
  (k_f_law_pick : PySem.W.keepIn K (.ref f_f_law_pick) = true)
  (a_f_law_values : PySem.W.nsIn K mainGlobals "_law_values" = some (some (.ref f_f_law_values)))
  (l_f_law_values : K.lookup f_f_law_values = some ⟨oc_f_law_values, od_f_law_values, .func (PySem.W.fnOf ("_law_values" : Str) ("_law_values" : Str) (defArgs s_f_law_values) (defBody s_f_law_values) (defScope s_f_law_values) .none kV_f_law_values dc_f_law_values pm_f_law_values an_f_law_values cd_f_law_values ct_f_law_values), sl_f_law_values⟩)
  (c_f_law_values : PySem.W.codeIn K cd_f_law_values ("_law_values" : Str) = true)
  (k_f_law_values : PySem.W.keepIn K (.ref f_f_law_values) = true)
  (a_f_law_hung : PySem.W.nsIn K mainGlobals "_law_hung" = some (some (.ref f_f_law_hung)))
  (l_f_law_hung : K.lookup f_f_law_hung = some ⟨oc_f_law_hung, od_f_law_hung, .func (PySem.W.fnOf ("_law_hung" : Str) ("_law_hung" : Str) (defArgs s_f_law_hung) (defBody s_f_law_hung) (defScope s_f_law_hung) .none kV_f_law_hung dc_f_law_hung pm_f_law_hung an_f_law_hung cd_f_law_hung ct_f_law_hung), sl_f_law_hung⟩)
  (c_f_law_hung : PySem.W.codeIn K cd_f_law_hung ("_law_hung" : Str) = true)
  (k_f_law_hung : PySem.W.keepIn K (.ref f_f_law_hung) = true)
  (a_f_law_hangs : PySem.W.nsIn K mainGlobals "_law_hangs" = some (some (.ref f_f_law_hangs)))
  (l_f_law_hangs : K.lookup f_f_law_hangs = some ⟨oc_f_law_hangs, od_f_law_hangs, .func (PySem.W.fnOf ("_law_hangs" : Str) ("_law_hangs" : Str) (defArgs s_f_law_hangs) (defBody s_f_law_hangs) (defScope s_f_law_hangs) .none kV_f_law_hangs dc_f_law_hangs pm_f_law_hangs an_f_law_hangs cd_f_law_hangs ct_f_law_hangs), sl_f_law_hangs⟩)
  (c_f_law_hangs : PySem.W.codeIn K cd_f_law_hangs ("_law_hangs" : Str) = true)
  (k_f_law_hangs : PySem.W.keepIn K (.ref f_f_law_hangs) = true)
  (a_f_law_leaders : PySem.W.nsIn K mainGlobals "_law_leaders" = some (some (.ref f_f_law_leaders)))
  (l_f_law_leaders : K.lookup f_f_law_leaders = some ⟨oc_f_law_leaders, od_f_law_leaders, .func (PySem.W.fnOf ("_law_leaders" : Str) ("_law_leaders" : Str) (defArgs s_f_law_leaders) (defBody s_f_law_leaders) (defScope s_f_law_leaders) .none kV_f_law_leaders dc_f_law_leaders pm_f_law_leaders an_f_law_leaders cd_f_law_leaders ct_f_law_leaders), sl_f_law_leaders⟩)
  (c_f_law_leaders : PySem.W.codeIn K cd_f_law_leaders ("_law_leaders" : Str) = true)
  (k_f_law_leaders : PySem.W.keepIn K (.ref f_f_law_leaders) = true)
  (a_f_law_heads : PySem.W.nsIn K mainGlobals "_law_heads" = some (some (.ref f_f_law_heads)))
  (l_f_law_heads : K.lookup f_f_law_heads = some ⟨oc_f_law_heads, od_f_law_heads, .func (PySem.W.fnOf ("_law_heads" : Str) ("_law_heads" : Str) (defArgs s_f_law_heads) (defBody s_f_law_heads) (defScope s_f_law_heads) .none kV_f_law_heads dc_f_law_heads pm_f_law_heads an_f_law_heads cd_f_law_heads ct_f_law_heads), sl_f_law_heads⟩)
  (c_f_law_heads : PySem.W.codeIn K cd_f_law_heads ("_law_heads" : Str) = true)
  (k_f_law_heads : PySem.W.keepIn K (.ref f_f_law_heads) = true)
  (a_f_law_is_bar : PySem.W.nsIn K mainGlobals "_law_is_bar" = some (some (.ref f_f_law_is_bar)))
  (l_f_law_is_bar : K.lookup f_f_law_is_bar = some ⟨oc_f_law_is_bar, od_f_law_is_bar, .func (PySem.W.fnOf ("_law_is_bar" : Str) ("_law_is_bar" : Str) (defArgs s_f_law_is_bar) (defBody s_f_law_is_bar) (defScope s_f_law_is_bar) .none kV_f_law_is_bar dc_f_law_is_bar pm_f_law_is_bar an_f_law_is_bar cd_f_law_is_bar ct_f_law_is_bar), sl_f_law_is_bar⟩)
  (c_f_law_is_bar : PySem.W.codeIn K cd_f_law_is_bar ("_law_is_bar" : Str) = true)
  (k_f_law_is_bar : PySem.W.keepIn K (.ref f_f_law_is_bar) = true)
  (a_f_law_due : PySem.W.nsIn K mainGlobals "_law_due" = some (some (.ref f_f_law_due)))
  (l_f_law_due : K.lookup f_f_law_due = some ⟨oc_f_law_due, od_f_law_due, .func (PySem.W.fnOf ("_law_due" : Str) ("_law_due" : Str) (defArgs s_f_law_due) (defBody s_f_law_due) (defScope s_f_law_due) .none kV_f_law_due dc_f_law_due pm_f_law_due an_f_law_due cd_f_law_due ct_f_law_due), sl_f_law_due⟩)
  (c_f_law_due : PySem.W.codeIn K cd_f_law_due ("_law_due" : Str) = true)
  (k_f_law_due : PySem.W.keepIn K (.ref f_f_law_due) = true)
  (a_want_plan : PySem.W.nsIn K mainGlobals "want_plan" = some (some (.ref f_want_plan)))
  (l_want_plan : K.lookup f_want_plan = some ⟨oc_want_plan, od_want_plan, .func (PySem.W.fnOf ("want_plan" : Str) ("want_plan" : Str) (defArgs s_want_plan) (defBody s_want_plan) (defScope s_want_plan) .none kV_want_plan dc_want_plan pm_want_plan an_want_plan cd_want_plan ct_want_plan), sl_want_plan⟩)
  (c_want_plan : PySem.W.codeIn K cd_want_plan ("want_plan" : Str) = true)
  (k_want_plan : PySem.W.keepIn K (.ref f_want_plan) = true)
  (a_lot_in : PySem.W.nsIn K mainGlobals "lot_in" = some (some (.ref f_lot_in)))
  (l_lot_in : K.lookup f_lot_in = some ⟨oc_lot_in, od_lot_in, .func (PySem.W.fnOf ("lot_in" : Str) ("lot_in" : Str) (defArgs s_lot_in) (defBody s_lot_in) (defScope s_lot_in) .none kV_lot_in dc_lot_in pm_lot_in an_lot_in cd_lot_in ct_lot_in), sl_lot_in⟩)
  (c_lot_in : PySem.W.codeIn K cd_lot_in ("lot_in" : Str) = true)
  (k_lot_in : PySem.W.keepIn K (.ref f_lot_in) = true)
  (a_leaders : PySem.W.nsIn K mainGlobals "leaders" = some (some (.ref f_leaders)))
  (l_leaders : K.lookup f_leaders = some ⟨oc_leaders, od_leaders, .func (PySem.W.fnOf ("leaders" : Str) ("leaders" : Str) (defArgs s_leaders) (defBody s_leaders) (defScope s_leaders) .none kV_leaders dc_leaders pm_leaders an_leaders cd_leaders ct_leaders), sl_leaders⟩)
  (c_leaders : PySem.W.codeIn K cd_leaders ("leaders" : Str) = true)
  (k_leaders : PySem.W.keepIn K (.ref f_leaders) = true)
  (a_head_of : PySem.W.nsIn K mainGlobals "head_of" = some (some (.ref f_head_of)))
  (l_head_of : K.lookup f_head_of = some ⟨oc_head_of, od_head_of, .func (PySem.W.fnOf ("head_of" : Str) ("head_of" : Str) (defArgs s_head_of) (defBody s_head_of) (defScope s_head_of) .none kV_head_of dc_head_of pm_head_of an_head_of cd_head_of ct_head_of), sl_head_of⟩)
  (c_head_of : PySem.W.codeIn K cd_head_of ("head_of" : Str) = true)
  (k_head_of : PySem.W.keepIn K (.ref f_head_of) = true)
  (a_part_in : PySem.W.nsIn K mainGlobals "part_in" = some (some (.ref f_part_in)))
  (l_part_in : K.lookup f_part_in = some ⟨oc_part_in, od_part_in, .func (PySem.W.fnOf ("part_in" : Str) ("part_in" : Str) (defArgs s_part_in) (defBody s_part_in) (defScope s_part_in) .none kV_part_in dc_part_in pm_part_in an_part_in cd_part_in ct_part_in), sl_part_in⟩)
  (c_part_in : PySem.W.codeIn K cd_part_in ("part_in" : Str) = true)
  (k_part_in : PySem.W.keepIn K (.ref f_part_in) = true)
  (a_hangs_of : PySem.W.nsIn K mainGlobals "hangs_of" = some (some (.ref f_hangs_of)))
  (l_hangs_of : K.lookup f_hangs_of = some ⟨oc_hangs_of, od_hangs_of, .func (PySem.W.fnOf ("hangs_of" : Str) ("hangs_of" : Str) (defArgs s_hangs_of) (defBody s_hangs_of) (defScope s_hangs_of) .none kV_hangs_of dc_hangs_of pm_hangs_of an_hangs_of cd_hangs_of ct_hangs_of), sl_hangs_of⟩)
  (c_hangs_of : PySem.W.codeIn K cd_hangs_of ("hangs_of" : Str) = true)
  (k_hangs_of : PySem.W.keepIn K (.ref f_hangs_of) = true)
  (a_is_bar : PySem.W.nsIn K mainGlobals "is_bar" = some (some (.ref f_is_bar)))
  (l_is_bar : K.lookup f_is_bar = some ⟨oc_is_bar, od_is_bar, .func (PySem.W.fnOf ("is_bar" : Str) ("is_bar" : Str) (defArgs s_is_bar) (defBody s_is_bar) (defScope s_is_bar) .none kV_is_bar dc_is_bar pm_is_bar an_is_bar cd_is_bar ct_is_bar), sl_is_bar⟩)
  (c_is_bar : PySem.W.codeIn K cd_is_bar ("is_bar" : Str) = true)
  (k_is_bar : PySem.W.keepIn K (.ref f_is_bar) = true)
  (a_is_barred : PySem.W.nsIn K mainGlobals "is_barred" = some (some (.ref f_is_barred)))
  (l_is_barred : K.lookup f_is_barred = some ⟨oc_is_barred, od_is_barred, .func (PySem.W.fnOf ("is_barred" : Str) ("is_barred" : Str) (defArgs s_is_barred) (defBody s_is_barred) (defScope s_is_barred) .none kV_is_barred dc_is_barred pm_is_barred an_is_barred cd_is_barred ct_is_barred), sl_is_barred⟩)
  (c_is_barred : PySem.W.codeIn K cd_is_barred ("is_barred" : Str) = true)
  (k_is_barred : PySem.W.keepIn K (.ref f_is_barred) = true)
  (a_f_law_right : PySem.W.nsIn K mainGlobals "_law_right" = some (some (.ref f_f_law_right)))
  (l_f_law_right : K.lookup f_f_law_right = some ⟨oc_f_law_right, od_f_law_right, .func (PySem.W.fnOf ("_law_right" : Str) ("_law_right" : Str) (defArgs s_f_law_right) (defBody s_f_law_right) (defScope s_f_law_right) .none kV_f_law_right dc_f_law_right pm_f_law_right an_f_law_right cd_f_law_right ct_f_law_right), sl_f_law_right⟩)
  (c_f_law_right : PySem.W.codeIn K cd_f_law_right ("_law_right" : Str) = true)
  (k_f_law_right : PySem.W.keepIn K (.ref f_f_law_right) = true)
  (a_f_law_pot : PySem.W.nsIn K mainGlobals "_law_pot" = some (some (.ref f_f_law_pot)))
  (l_f_law_pot : K.lookup f_f_law_pot = some ⟨oc_f_law_pot, od_f_law_pot, .func (PySem.W.fnOf ("_law_pot" : Str) ("_law_pot" : Str) (defArgs s_f_law_pot) (defBody s_f_law_pot) (defScope s_f_law_pot) .none kV_f_law_pot dc_f_law_pot pm_f_law_pot an_f_law_pot cd_f_law_pot ct_f_law_pot), sl_f_law_pot⟩)
  (c_f_law_pot : PySem.W.codeIn K cd_f_law_pot ("_law_pot" : Str) = true)
  (k_f_law_pot : PySem.W.keepIn K (.ref f_f_law_pot) = true)
  (a_law : PySem.W.nsIn K mainGlobals "law" = some (some (.ref f_law)))
  (l_law : K.lookup f_law = some ⟨oc_law, od_law, .func (PySem.W.fnOf ("law" : Str) ("law" : Str) (defArgs s_law) (defBody s_law) (defScope s_law) .none kV_law dc_law pm_law an_law cd_law ct_law), sl_law⟩)
  (c_law : PySem.W.codeIn K cd_law ("law" : Str) = true)
  (k_law : PySem.W.keepIn K (.ref f_law) = true)
  (mk_Plan : PySem.W.makesIn K K_Plan = true)
  (kC_Plan : PySem.W.keepIn K (.ref K_Plan) = true) :
  ∃ fd : FuncData, (∀ (s : Shared) (u : Value), BindsTo s fd ⟨[u], []⟩ [(("_law_script" : Str), u)]) ∧ ∀ base : Heap, K.In base → base.Ns mainGlobals mg → FnG P w K mg base CX0 11 fa fd p_law (spG K mg m_law) := by
  have e0 := hfa.symm.trans (PySem.W.mg_of X G a_law)
  cases e0
  have L_Known : ClsF K K_Known := ⟨pg_Known, hd_Known, po_Known, sa_Known, ha_Known, ob_Known, m0_Known, m1_Known, m2_Known, m3_Known, m4_Known, ⟨_, cl_Known⟩, ty_Known⟩
  have L_Plan : ClsF K K_Plan := ⟨pg_Plan, hd_Plan, po_Plan, sa_Plan, ha_Plan, ob_Plan, m0_Plan, m1_Plan, m2_Plan, m3_Plan, m4_Plan, ⟨_, cl_Plan⟩, ty_Plan⟩
  have gC_Known := PySem.W.mg_of X G aC_Known
  have gC_Plan := PySem.W.mg_of X G aC_Plan
  have iok : ∀ c ∈ clsL, ∀ A, mg c = some (.ref A) → ClsA K A := fun c hc A e => by
    simp only [clsL, List.mem_cons, List.not_mem_nil, or_false] at hc
    rcases hc with rfl | rfl
    · rw [gC_Known] at e; cases e; exact L_Known.isa hn htk
    · rw [gC_Plan] at e; cases e; exact L_Plan.isa hn htk
  have ine : ∀ c ∈ clsL, ∀ d ∈ clsL, c ≠ d → ∀ A B, mg c = some (.ref A) → mg d = some (.ref B) → PySem.W.kitOne K (.ref A) (.ref B) = some false := fun c hc d hd hne A B e1 e2 => by
    simp only [clsL, List.mem_cons, List.not_mem_nil, or_false] at hc hd
    rcases hc with rfl | rfl <;> rcases hd with rfl | rfl
    · exact absurd rfl hne
    · rw [gC_Known] at e1; rw [gC_Plan] at e2; cases e1; cases e2; exact L_Plan.ne df_Known_Plan ne_Known_Plan
    · rw [gC_Plan] at e1; rw [gC_Known] at e2; cases e1; cases e2; exact L_Known.ne df_Plan_Known ne_Plan_Known
    · exact absurd rfl hne
  have T : Txt K mg ⟨K_Known, K_Plan⟩ := ⟨PySem.W.mg_none_of X G z_abs, PySem.W.mg_none_of X G z_all, PySem.W.mg_none_of X G z_any, PySem.W.mg_none_of X G z_bool, PySem.W.mg_none_of X G z_divmod, PySem.W.mg_none_of X G z_enumerate, PySem.W.mg_none_of X G z_int, PySem.W.mg_none_of X G z_isinstance, PySem.W.mg_none_of X G z_len, PySem.W.mg_none_of X G z_list, PySem.W.mg_none_of X G z_max, PySem.W.mg_none_of X G z_min, PySem.W.mg_none_of X G z_range, PySem.W.mg_none_of X G z_repr, PySem.W.mg_none_of X G z_sorted, PySem.W.mg_none_of X G z_tuple, PySem.W.mg_none_of X G z_zip, ⟨_, PySem.W.mg_of X G g_MOST_SIZE, _, rfl⟩, gC_Known, gC_Plan, (fun A e => by rw [gC_Plan] at e; cases e; exact ⟨⟨pg_Plan, hd_Plan, po_Plan, sa_Plan⟩, no_Plan_own_arrows⟩), (fun A e => by rw [gC_Plan] at e; cases e; exact ⟨⟨pg_Plan, hd_Plan, po_Plan, sa_Plan⟩, no_Plan_own_ties⟩), (fun A e => by rw [gC_Plan] at e; cases e; exact ⟨⟨pg_Plan, hd_Plan, po_Plan, sa_Plan⟩, no_Plan_own_width⟩), iok, ine⟩
  have F_f_law_draw := fun_d (st := s_f_law_draw) l_f_law_draw c_f_law_draw k_f_law_draw
  have B_f_law_draw := F_f_law_draw.bindsN (ps := p_f_law_draw) fun _ _ _ _ _ _ us hl => match us, hl with | [_, _], _ => rfl
  have F_f_law_order := fun_d (st := s_f_law_order) l_f_law_order c_f_law_order k_f_law_order
  have B_f_law_order := F_f_law_order.bindsN (ps := p_f_law_order) fun _ _ _ _ _ _ us hl => match us, hl with | [_, _], _ => rfl
  have F_f_law_world := fun_d (st := s_f_law_world) l_f_law_world c_f_law_world k_f_law_world
  have B_f_law_world := F_f_law_world.bindsN (ps := p_f_law_world) fun _ _ _ _ _ _ us hl => match us, hl with | [_, _], _ => rfl
  have F_is_integer := fun_d (st := s_is_integer) l_is_integer c_is_integer k_is_integer
  have B_is_integer := F_is_integer.bindsN (ps := p_is_integer) fun _ _ _ _ _ _ us hl => match us, hl with | [_], _ => rfl
  have F_is_count := fun_d (st := s_is_count) l_is_count c_is_count k_is_count
  have B_is_count := F_is_count.bindsN (ps := p_is_count) fun _ _ _ _ _ _ us hl => match us, hl with | [_], _ => rfl
  have F_is_list := fun_d (st := s_is_list) l_is_list c_is_list k_is_list
  have B_is_list := F_is_list.bindsN (ps := p_is_list) fun _ _ _ _ _ _ us hl => match us, hl with | [_], _ => rfl
  have F_is_thing := fun_d (st := s_is_thing) l_is_thing c_is_thing k_is_thing
  have B_is_thing := F_is_thing.bindsN (ps := p_is_thing) fun _ _ _ _ _ _ us hl => match us, hl with | [_, _], _ => rfl
  have F_is_arrow := fun_d (st := s_is_arrow) l_is_arrow c_is_arrow k_is_arrow
  have B_is_arrow := F_is_arrow.bindsN (ps := p_is_arrow) fun _ _ _ _ _ _ us hl => match us, hl with | [_, _], _ => rfl
  have F_arrows_in := fun_d (st := s_arrows_in) l_arrows_in c_arrows_in k_arrows_in
  have B_arrows_in := F_arrows_in.bindsN (ps := p_arrows_in) fun _ _ _ _ _ _ us hl => match us, hl with | [_, _], _ => rfl
  have F_all_unlike := fun_d (st := s_all_unlike) l_all_unlike c_all_unlike k_all_unlike
  have B_all_unlike := F_all_unlike.bindsN (ps := p_all_unlike) fun _ _ _ _ _ _ us hl => match us, hl with | [_], _ => rfl
  have F_order_of := fun_d (st := s_order_of) l_order_of c_order_of k_order_of
  have B_order_of := F_order_of.bindsN (ps := p_order_of) fun _ _ _ _ _ _ us hl => match us, hl with | [_, _], _ => rfl
  have F_are_unlike := fun_d (st := s_are_unlike) l_are_unlike c_are_unlike k_are_unlike
  have B_are_unlike := F_are_unlike.bindsN (ps := p_are_unlike) fun _ _ _ _ _ _ us hl => match us, hl with | [_, _], _ => rfl
  have F_is_tie := fun_d (st := s_is_tie) l_is_tie c_is_tie k_is_tie
  have B_is_tie := F_is_tie.bindsN (ps := p_is_tie) fun _ _ _ _ _ _ us hl => match us, hl with | [_, _], _ => rfl
  have F_ties_in := fun_d (st := s_ties_in) l_ties_in c_ties_in k_ties_in
  have B_ties_in := F_ties_in.bindsN (ps := p_ties_in) fun _ _ _ _ _ _ us hl => match us, hl with | [_, _], _ => rfl
  have F_Plan_init : FunD K ("__init__" : Str) ("Plan.__init__" : Str) (defArgs s_Plan_init) (defBody s_Plan_init) (defScope s_Plan_init) [.ref e1_Plan_init, .ref e2_Plan_init] [] f_Plan_init _ := ⟨⟨_, _, _, _, _, _, _, _, _, _, rfl, l_Plan_init, c_Plan_init, .inr ⟨by simp, T_Plan_init, _, [.ref e1_Plan_init, .ref e2_Plan_init], _, rfl, t_Plan_init, rfl, .cons rfl (.cons rfl .nil)⟩, .inl rfl⟩, k_Plan_init⟩
  obtain ⟨ds_Plan_init, dh_Plan_init, B_Plan_init⟩ := F_Plan_init.binds1 (ps := p_Plan_init) 4 2 (by simp) rfl fun T kV doc pm an cdv ct us its h1 h2 => match us, its, h1, h2 with | [_, _, _, _], [_, _], _, _ => ⟨_, rfl, rfl⟩
  cases dh_Plan_init
  have F_f_law_made := fun_d (st := s_f_law_made) l_f_law_made c_f_law_made k_f_law_made
  have B_f_law_made := F_f_law_made.bindsN (ps := p_f_law_made) fun _ _ _ _ _ _ us hl => match us, hl with | [_, _], _ => rfl
  have F_f_law_lots := fun_d (st := s_f_law_lots) l_f_law_lots c_f_law_lots k_f_law_lots
  have B_f_law_lots := F_f_law_lots.bindsN (ps := p_f_law_lots) fun _ _ _ _ _ _ us hl => match us, hl with | [_], _ => rfl
  have F_f_law_pick := fun_d (st := s_f_law_pick) l_f_law_pick c_f_law_pick k_f_law_pick
  have B_f_law_pick := F_f_law_pick.bindsN (ps := p_f_law_pick) fun _ _ _ _ _ _ us hl => match us, hl with | [_, _], _ => rfl
  have F_f_law_values := fun_d (st := s_f_law_values) l_f_law_values c_f_law_values k_f_law_values
  have B_f_law_values := F_f_law_values.bindsN (ps := p_f_law_values) fun _ _ _ _ _ _ us hl => match us, hl with | [_, _], _ => rfl
  have F_f_law_hung := fun_d (st := s_f_law_hung) l_f_law_hung c_f_law_hung k_f_law_hung
  have B_f_law_hung := F_f_law_hung.bindsN (ps := p_f_law_hung) fun _ _ _ _ _ _ us hl => match us, hl with | [_, _, _], _ => rfl
  have F_f_law_hangs := fun_d (st := s_f_law_hangs) l_f_law_hangs c_f_law_hangs k_f_law_hangs
  have B_f_law_hangs := F_f_law_hangs.bindsN (ps := p_f_law_hangs) fun _ _ _ _ _ _ us hl => match us, hl with | [_, _], _ => rfl
  have F_f_law_leaders := fun_d (st := s_f_law_leaders) l_f_law_leaders c_f_law_leaders k_f_law_leaders
  have B_f_law_leaders := F_f_law_leaders.bindsN (ps := p_f_law_leaders) fun _ _ _ _ _ _ us hl => match us, hl with | [_, _, _], _ => rfl
  have F_f_law_heads := fun_d (st := s_f_law_heads) l_f_law_heads c_f_law_heads k_f_law_heads
  have B_f_law_heads := F_f_law_heads.bindsN (ps := p_f_law_heads) fun _ _ _ _ _ _ us hl => match us, hl with | [_, _], _ => rfl
  have F_f_law_is_bar := fun_d (st := s_f_law_is_bar) l_f_law_is_bar c_f_law_is_bar k_f_law_is_bar
  have B_f_law_is_bar := F_f_law_is_bar.bindsN (ps := p_f_law_is_bar) fun _ _ _ _ _ _ us hl => match us, hl with | [_, _], _ => rfl
  have F_f_law_due := fun_d (st := s_f_law_due) l_f_law_due c_f_law_due k_f_law_due
  have B_f_law_due := F_f_law_due.bindsN (ps := p_f_law_due) fun _ _ _ _ _ _ us hl => match us, hl with | [_, _], _ => rfl
  have F_want_plan := fun_d (st := s_want_plan) l_want_plan c_want_plan k_want_plan
  have B_want_plan := F_want_plan.bindsN (ps := p_want_plan) fun _ _ _ _ _ _ us hl => match us, hl with | [_], _ => rfl
  have F_lot_in := fun_d (st := s_lot_in) l_lot_in c_lot_in k_lot_in
  have B_lot_in := F_lot_in.bindsN (ps := p_lot_in) fun _ _ _ _ _ _ us hl => match us, hl with | [_, _], _ => rfl
  have F_leaders := fun_d (st := s_leaders) l_leaders c_leaders k_leaders
  have B_leaders := F_leaders.bindsN (ps := p_leaders) fun _ _ _ _ _ _ us hl => match us, hl with | [_, _, _], _ => rfl
  have F_head_of := fun_d (st := s_head_of) l_head_of c_head_of k_head_of
  have B_head_of := F_head_of.bindsN (ps := p_head_of) fun _ _ _ _ _ _ us hl => match us, hl with | [_, _], _ => rfl
  have F_part_in := fun_d (st := s_part_in) l_part_in c_part_in k_part_in
  have B_part_in := F_part_in.bindsN (ps := p_part_in) fun _ _ _ _ _ _ us hl => match us, hl with | [_, _, _], _ => rfl
  have F_hangs_of := fun_d (st := s_hangs_of) l_hangs_of c_hangs_of k_hangs_of
  have B_hangs_of := F_hangs_of.bindsN (ps := p_hangs_of) fun _ _ _ _ _ _ us hl => match us, hl with | [_, _], _ => rfl
  have F_is_bar := fun_d (st := s_is_bar) l_is_bar c_is_bar k_is_bar
  have B_is_bar := F_is_bar.bindsN (ps := p_is_bar) fun _ _ _ _ _ _ us hl => match us, hl with | [_, _], _ => rfl
  have F_is_barred := fun_d (st := s_is_barred) l_is_barred c_is_barred k_is_barred
  have B_is_barred := F_is_barred.bindsN (ps := p_is_barred) fun _ _ _ _ _ _ us hl => match us, hl with | [_, _], _ => rfl
  have F_f_law_right := fun_d (st := s_f_law_right) l_f_law_right c_f_law_right k_f_law_right
  have B_f_law_right := F_f_law_right.bindsN (ps := p_f_law_right) fun _ _ _ _ _ _ us hl => match us, hl with | [_], _ => rfl
  have F_f_law_pot := fun_d (st := s_f_law_pot) l_f_law_pot c_f_law_pot k_f_law_pot
  have B_f_law_pot := F_f_law_pot.bindsN (ps := p_f_law_pot) fun _ _ _ _ _ _ us hl => match us, hl with | [_, _], _ => rfl
  have F_law := fun_d (st := s_law) l_law c_law k_law
  have B_law := F_law.bindsN (ps := p_law) fun _ _ _ _ _ _ us hl => match us, hl with | [_], _ => rfl
  refine ⟨PySem.W.fnOf ("law" : Str) ("law" : Str) (defArgs s_law) (defBody s_law) (defScope s_law) .none kV_law dc_law pm_law an_law cd_law ct_law, fun s u => F_law.bindsA (ps := p_law) (fun _ _ _ _ _ _ us hl => match us, hl with | [_], _ => rfl) s [u] rfl, fun base _ _ => ?_⟩
  have O_f_law_draw := ok_f_law_draw (P := P) (w := w) (base := base) F_f_law_draw T 
  have C_f_law_draw : Kn P w K mg base ("_law_draw" : Str) 1 m_f_law_draw := ⟨_, _, _, PySem.W.mg_of X G a_f_law_draw, k_f_law_draw, B_f_law_draw, O_f_law_draw⟩
  have O_f_law_order := ok_f_law_order (P := P) (w := w) (base := base) F_f_law_order T C_f_law_draw
  have C_f_law_order : Kn P w K mg base ("_law_order" : Str) 2 m_f_law_order := ⟨_, _, _, PySem.W.mg_of X G a_f_law_order, k_f_law_order, B_f_law_order, O_f_law_order⟩
  have O_f_law_world := ok_f_law_world (P := P) (w := w) (base := base) F_f_law_world T C_f_law_draw C_f_law_order
  have C_f_law_world : Kn P w K mg base ("_law_world" : Str) 3 m_f_law_world := ⟨_, _, _, PySem.W.mg_of X G a_f_law_world, k_f_law_world, B_f_law_world, O_f_law_world⟩
  have O_is_integer := ok_is_integer (P := P) (w := w) (base := base) F_is_integer T 
  have C_is_integer : Kn P w K mg base ("is_integer" : Str) 1 m_is_integer := ⟨_, _, _, PySem.W.mg_of X G a_is_integer, k_is_integer, B_is_integer, O_is_integer⟩
  have O_is_count := ok_is_count (P := P) (w := w) (base := base) F_is_count T C_is_integer
  have C_is_count : Kn P w K mg base ("is_count" : Str) 2 m_is_count := ⟨_, _, _, PySem.W.mg_of X G a_is_count, k_is_count, B_is_count, O_is_count⟩
  have O_is_list := ok_is_list (P := P) (w := w) (base := base) F_is_list T 
  have C_is_list : Kn P w K mg base ("is_list" : Str) 1 m_is_list := ⟨_, _, _, PySem.W.mg_of X G a_is_list, k_is_list, B_is_list, O_is_list⟩
  have O_is_thing := ok_is_thing (P := P) (w := w) (base := base) F_is_thing T C_is_count
  have C_is_thing : Kn P w K mg base ("is_thing" : Str) 3 m_is_thing := ⟨_, _, _, PySem.W.mg_of X G a_is_thing, k_is_thing, B_is_thing, O_is_thing⟩
  have O_is_arrow := ok_is_arrow (P := P) (w := w) (base := base) F_is_arrow T C_is_thing
  have C_is_arrow : Kn P w K mg base ("is_arrow" : Str) 4 m_is_arrow := ⟨_, _, _, PySem.W.mg_of X G a_is_arrow, k_is_arrow, B_is_arrow, O_is_arrow⟩
  have O_arrows_in := ok_arrows_in (P := P) (w := w) (base := base) F_arrows_in T C_is_arrow C_is_list
  have C_arrows_in : Kn P w K mg base ("arrows_in" : Str) 5 m_arrows_in := ⟨_, _, _, PySem.W.mg_of X G a_arrows_in, k_arrows_in, B_arrows_in, O_arrows_in⟩
  have O_all_unlike := ok_all_unlike (P := P) (w := w) (base := base) F_all_unlike T 
  have C_all_unlike : Kn P w K mg base ("all_unlike" : Str) 1 m_all_unlike := ⟨_, _, _, PySem.W.mg_of X G a_all_unlike, k_all_unlike, B_all_unlike, O_all_unlike⟩
  have O_order_of := ok_order_of (P := P) (w := w) (base := base) F_order_of T 
  have C_order_of : Kn P w K mg base ("order_of" : Str) 1 m_order_of := ⟨_, _, _, PySem.W.mg_of X G a_order_of, k_order_of, B_order_of, O_order_of⟩
  have O_are_unlike := ok_are_unlike (P := P) (w := w) (base := base) F_are_unlike T C_all_unlike C_order_of
  have C_are_unlike : Kn P w K mg base ("are_unlike" : Str) 2 m_are_unlike := ⟨_, _, _, PySem.W.mg_of X G a_are_unlike, k_are_unlike, B_are_unlike, O_are_unlike⟩
  have O_is_tie := ok_is_tie (P := P) (w := w) (base := base) F_is_tie T C_is_arrow
  have C_is_tie : Kn P w K mg base ("is_tie" : Str) 5 m_is_tie := ⟨_, _, _, PySem.W.mg_of X G a_is_tie, k_is_tie, B_is_tie, O_is_tie⟩
  have O_ties_in := ok_ties_in (P := P) (w := w) (base := base) F_ties_in T C_arrows_in C_is_tie
  have C_ties_in : Kn P w K mg base ("ties_in" : Str) 6 m_ties_in := ⟨_, _, _, PySem.W.mg_of X G a_ties_in, k_ties_in, B_ties_in, O_ties_in⟩
  have O_Plan_init := ok_Plan_init (P := P) (w := w) (base := base) F_Plan_init T C_all_unlike C_are_unlike C_arrows_in C_is_count C_ties_in
  have C_Plan : KnC P w K mg base ("Plan" : Str) 7 m_Plan_init := ⟨_, _, _, _, gC_Plan, ⟨mk_Plan, a_Plan_init, i_Plan_init, kC_Plan⟩, B_Plan_init, O_Plan_init⟩
  have O_f_law_made := ok_f_law_made (P := P) (w := w) (base := base) F_f_law_made T C_Plan C_f_law_draw
  have C_f_law_made : Kn P w K mg base ("_law_made" : Str) 9 m_f_law_made := ⟨_, _, _, PySem.W.mg_of X G a_f_law_made, k_f_law_made, B_f_law_made, O_f_law_made⟩
  have O_f_law_lots := ok_f_law_lots (P := P) (w := w) (base := base) F_f_law_lots T 
  have C_f_law_lots : Kn P w K mg base ("_law_lots" : Str) 1 m_f_law_lots := ⟨_, _, _, PySem.W.mg_of X G a_f_law_lots, k_f_law_lots, B_f_law_lots, O_f_law_lots⟩
  have O_f_law_pick := ok_f_law_pick (P := P) (w := w) (base := base) F_f_law_pick T C_f_law_draw
  have C_f_law_pick : Kn P w K mg base ("_law_pick" : Str) 2 m_f_law_pick := ⟨_, _, _, PySem.W.mg_of X G a_f_law_pick, k_f_law_pick, B_f_law_pick, O_f_law_pick⟩
  have O_f_law_values := ok_f_law_values (P := P) (w := w) (base := base) F_f_law_values T C_f_law_draw C_f_law_lots C_f_law_pick
  have C_f_law_values : Kn P w K mg base ("_law_values" : Str) 3 m_f_law_values := ⟨_, _, _, PySem.W.mg_of X G a_f_law_values, k_f_law_values, B_f_law_values, O_f_law_values⟩
  have O_f_law_hung := ok_f_law_hung (P := P) (w := w) (base := base) F_f_law_hung T 
  have C_f_law_hung : Kn P w K mg base ("_law_hung" : Str) 1 m_f_law_hung := ⟨_, _, _, PySem.W.mg_of X G a_f_law_hung, k_f_law_hung, B_f_law_hung, O_f_law_hung⟩
  have O_f_law_hangs := ok_f_law_hangs (P := P) (w := w) (base := base) F_f_law_hangs T C_f_law_hung
  have C_f_law_hangs : Kn P w K mg base ("_law_hangs" : Str) 2 m_f_law_hangs := ⟨_, _, _, PySem.W.mg_of X G a_f_law_hangs, k_f_law_hangs, B_f_law_hangs, O_f_law_hangs⟩
  have O_f_law_leaders := ok_f_law_leaders (P := P) (w := w) (base := base) F_f_law_leaders T 
  have C_f_law_leaders : Kn P w K mg base ("_law_leaders" : Str) 1 m_f_law_leaders := ⟨_, _, _, PySem.W.mg_of X G a_f_law_leaders, k_f_law_leaders, B_f_law_leaders, O_f_law_leaders⟩
  have O_f_law_heads := ok_f_law_heads (P := P) (w := w) (base := base) F_f_law_heads T C_f_law_leaders
  have C_f_law_heads : Kn P w K mg base ("_law_heads" : Str) 2 m_f_law_heads := ⟨_, _, _, PySem.W.mg_of X G a_f_law_heads, k_f_law_heads, B_f_law_heads, O_f_law_heads⟩
  have O_f_law_is_bar := ok_f_law_is_bar (P := P) (w := w) (base := base) F_f_law_is_bar T C_f_law_hangs C_f_law_heads
  have C_f_law_is_bar : Kn P w K mg base ("_law_is_bar" : Str) 3 m_f_law_is_bar := ⟨_, _, _, PySem.W.mg_of X G a_f_law_is_bar, k_f_law_is_bar, B_f_law_is_bar, O_f_law_is_bar⟩
  have O_f_law_due := ok_f_law_due (P := P) (w := w) (base := base) F_f_law_due T C_f_law_is_bar
  have C_f_law_due : Kn P w K mg base ("_law_due" : Str) 4 m_f_law_due := ⟨_, _, _, PySem.W.mg_of X G a_f_law_due, k_f_law_due, B_f_law_due, O_f_law_due⟩
  have O_want_plan := ok_want_plan (P := P) (w := w) (base := base) F_want_plan T 
  have C_want_plan : Kn P w K mg base ("want_plan" : Str) 1 m_want_plan := ⟨_, _, _, PySem.W.mg_of X G a_want_plan, k_want_plan, B_want_plan, O_want_plan⟩
  have O_lot_in := ok_lot_in (P := P) (w := w) (base := base) F_lot_in T C_is_list C_is_thing
  have C_lot_in : Kn P w K mg base ("lot_in" : Str) 4 m_lot_in := ⟨_, _, _, PySem.W.mg_of X G a_lot_in, k_lot_in, B_lot_in, O_lot_in⟩
  have O_leaders := ok_leaders (P := P) (w := w) (base := base) F_leaders T 
  have C_leaders : Kn P w K mg base ("leaders" : Str) 1 m_leaders := ⟨_, _, _, PySem.W.mg_of X G a_leaders, k_leaders, B_leaders, O_leaders⟩
  have O_head_of := ok_head_of (P := P) (w := w) (base := base) F_head_of T C_leaders
  have C_head_of : Kn P w K mg base ("head_of" : Str) 2 m_head_of := ⟨_, _, _, PySem.W.mg_of X G a_head_of, k_head_of, B_head_of, O_head_of⟩
  have O_part_in := ok_part_in (P := P) (w := w) (base := base) F_part_in T C_leaders
  have C_part_in : Kn P w K mg base ("part_in" : Str) 2 m_part_in := ⟨_, _, _, PySem.W.mg_of X G a_part_in, k_part_in, B_part_in, O_part_in⟩
  have O_hangs_of := ok_hangs_of (P := P) (w := w) (base := base) F_hangs_of T C_part_in
  have C_hangs_of : Kn P w K mg base ("hangs_of" : Str) 3 m_hangs_of := ⟨_, _, _, PySem.W.mg_of X G a_hangs_of, k_hangs_of, B_hangs_of, O_hangs_of⟩
  have O_is_bar := ok_is_bar (P := P) (w := w) (base := base) F_is_bar T C_hangs_of C_head_of
  have C_is_bar : Kn P w K mg base ("is_bar" : Str) 4 m_is_bar := ⟨_, _, _, PySem.W.mg_of X G a_is_bar, k_is_bar, B_is_bar, O_is_bar⟩
  have O_is_barred := ok_is_barred (P := P) (w := w) (base := base) F_is_barred T C_is_bar C_lot_in C_want_plan
  have C_is_barred : Kn P w K mg base ("is_barred" : Str) 5 m_is_barred := ⟨_, _, _, PySem.W.mg_of X G a_is_barred, k_is_barred, B_is_barred, O_is_barred⟩
  have K_is_barred : KnK P w K mg base ("is_barred" : Str) 5 m_is_barred [("value" : Str), ("plan" : Str)] (permD [1, 0]) := kn_k (PySem.W.mg_of X G a_is_barred) k_is_barred O_is_barred fun s ws hl => match ws, hl with | [_, _], _ => .of_eq rfl
  have O_f_law_right := ok_f_law_right (P := P) (w := w) (base := base) F_f_law_right T C_f_law_draw C_f_law_due C_f_law_made C_f_law_values C_f_law_world C_is_barred K_is_barred
  have C_f_law_right : Kn P w K mg base ("_law_right" : Str) 10 m_f_law_right := ⟨_, _, _, PySem.W.mg_of X G a_f_law_right, k_f_law_right, B_f_law_right, O_f_law_right⟩
  have O_f_law_pot := ok_f_law_pot (P := P) (w := w) (base := base) F_f_law_pot T 
  have C_f_law_pot : Kn P w K mg base ("_law_pot" : Str) 1 m_f_law_pot := ⟨_, _, _, PySem.W.mg_of X G a_f_law_pot, k_f_law_pot, B_f_law_pot, O_f_law_pot⟩
  exact ok_law (P := P) (w := w) (base := base) F_law T C_f_law_pot C_f_law_right
end DL
namespace DL
open PySem PySem.Spec PyProof.Rows L2
/-! ### the law's draws -/
def Pot (xs : List D) : Prop := ∃ a b : Int, xs = [.int a, .int b] ∧ 0 ≤ a ∧ 0 ≤ b ∧ b < 2147483550
theorem log_small {a : Int} (h0 : 0 ≤ a) (h : a < 2147483550) : a.natAbs.log2 < 40 := by
  have : a.natAbs < 2 ^ 40 := by omega
  by_cases hne : a.natAbs = 0
  · rw [hne]; decide
  · exact (Nat.log2_lt hne).mpr this
theorem draw_eq {xs : List D} {z : Int} (h : Pot xs) (hz : 1 ≤ z) (hz2 : z < 1000000) :
    ∃ (e : Int) (xs' : List D), Pot xs' ∧ 0 ≤ e ∧ e < z ∧ m_f_law_draw (.ref xs) [.int z] = .ok (.fz (.int e)) (.ref xs') := by
  obtain ⟨a, b, rfl, ha, hb, hb2⟩ := h
  show ∃ (e : Int) (xs' : List D), Pot xs' ∧ 0 ≤ e ∧ e < z ∧ (g_f_law_draw [.ref [.int a, .int b], .fz (.int z), .un]).out = _
  have ix0 : ∀ (x y : D), sIxD (.lst [x, y]) (.int 0) = some (.val x) := fun _ _ => rfl
  have ix1 : ∀ (x y : D), sIxD (.lst [x, y]) (.int 1) = some (.val y) := fun _ _ => rfl
  by_cases h0 : 0 < a
  · refine ⟨a % z, [.int (a / z), .int b], ⟨_, _, rfl, Int.ediv_nonneg ha (by omega), hb, hb2⟩, Int.emod_nonneg _ (by omega), Int.emod_lt_of_pos _ (by omega), ?_⟩
    have c1 : (0 < z ∧ z < 1073741824) := ⟨by omega, by omega⟩
    simp [g_f_law_draw, R.fl, R.bind, R.of, gNext_ap, gSeq, gIf, gExpr, gPar, gSet, gUn, gRet, gFor, put, convs, setAll, setSlot, RV.slot, retO, Fl.out, slot0, mNm, mC, mV, mO, mCons, mNil, mBin, mUn, gets, mB, mTup, mLst, Opd.get, Opd.toV, mTest, mTestB, asBl, mAndT, mOrT, mNotT, mIf, mAnd, mOr, mNot, truth, mSeq, mZip, mEnum, mRng1, mRng2, mCall, mCallR, mCallT, mCallK, RV.opd, itemsAt, putAt, Slot.items, Slot.put, bindT, setFzs, mYes, mFix, fixO, mSl, mP, mNoP, gPot, gSetIx, ix0, ix1, sGt, h0, bDivmod, c1]
  · have ea : a = 0 := by omega
    subst ea
    have hp : (0 : Int) < 2147483549 := by decide
    have hb1 : 0 ≤ (b * 39541 + 6869) % 2147483549 := Int.emod_nonneg _ (by decide)
    have hb3 : (b * 39541 + 6869) % 2147483549 < 2147483549 := Int.emod_lt_of_pos _ hp
    have l1 := log_small hb hb2
    have l2 := log_small hb1 (by omega)
    have l3 : (39541 : Int).natAbs.log2 < 40 := by decide
    have m1 : b.natAbs.log2 + (39541 : Int).natAbs.log2 < 1000000 := by omega
    have m2 : ((b * 39541 + 6869) % 2147483549).natAbs.log2 + ((b * 39541 + 6869) % 2147483549).natAbs.log2 < 1000000 := by omega
    have m3 : (0 : Int) < 23 ∧ (23 : Int).natAbs.log2 < 9000 := by decide
    refine ⟨((b * 39541 + 6869) % 2147483549 * ((b * 39541 + 6869) % 2147483549) % 2147483543 / 23) % z, [.int 0, .int ((b * 39541 + 6869) % 2147483549)], ⟨_, _, rfl, by omega, hb1, by omega⟩, Int.emod_nonneg _ (by omega), Int.emod_lt_of_pos _ (by omega), ?_⟩
    have c1 : 0 < z := by omega
    have e1 : sMul (.int b) (.int 39541) = some (.val (.int (b * 39541))) := if_pos m1
    have e2 : sMul (.int ((b * 39541 + 6869) % 2147483549)) (.int ((b * 39541 + 6869) % 2147483549)) = some (.val (.int ((b * 39541 + 6869) % 2147483549 * ((b * 39541 + 6869) % 2147483549)))) := if_pos m2
    have e3 : ∀ x : Int, sFdiv (.int x) (.int 23) = some (.val (.int (x / 23))) := fun x => by unfold sFdiv; dsimp only; rw [if_pos m3]
    simp [g_f_law_draw, R.fl, R.bind, R.of, gNext_ap, gSeq, gIf, gExpr, gPar, gSet, gUn, gRet, gFor, put, convs, setAll, setSlot, RV.slot, retO, Fl.out, slot0, mNm, mC, mV, mO, mCons, mNil, mBin, mUn, gets, mB, mTup, mLst, Opd.get, Opd.toV, mTest, mTestB, asBl, mAndT, mOrT, mNotT, mIf, mAnd, mOr, mNot, truth, mSeq, mZip, mEnum, mRng1, mRng2, mCall, mCallR, mCallT, mCallK, RV.opd, itemsAt, putAt, Slot.items, Slot.put, bindT, setFzs, mYes, mFix, fixO, mSl, mP, mNoP, gPot, gSetIx, ix0, ix1, sGt, e1, e2, e3, sAdd, sMod, bInt, c1]
/-! ### the order of the things -/
theorem perm_erase {os : List Int} {k : Nat} (h : k < os.length) : os.Perm (os[k] :: os.eraseIdx k) := by
  induction os generalizing k with
  | nil => simp at h
  | cons o os ih =>
    cases k with
    | zero => exact .refl _
    | succ k =>
      simp only [List.getElem_cons_succ, List.eraseIdx_cons_succ]
      exact ((ih (by simpa using h)).cons o).trans (.swap _ _ _)
theorem rngD_ints : ∀ (n : Nat) (lo : Int), rngD lo n = lI ((List.range n).map fun i : Nat => lo + (i : Int))
  | 0, _ => rfl
  | n + 1, lo => by
    rw [List.range_succ_eq_map, List.map_cons, List.map_map, lI_cons]
    show D.int lo :: rngD (lo + 1) n = _
    rw [rngD_ints n (lo + 1)]
    congr 1
    · simp
    · congr 1
      apply List.map_congr_left
      intro i _
      simp only [Function.comp]
      omega
def ids (n : Nat) : List Int := (List.range n).map fun i : Nat => (i : Int)
theorem ids_len (n : Nat) : (ids n).length = n := by simp [ids]
theorem sRng_eq {n : Nat} (hn : n ≤ 1000) : sRng (.int n) = some (.tmp (lI (ids n))) := by
  unfold sRng
  dsimp only
  rw [if_pos ⟨by omega, by omega⟩]
  unfold lI ids
  rw [List.map_map]
  rfl
theorem order_eq {xs : List D} {n : Nat} (h : Pot xs) (hn : n ≤ 1000) :
    ∃ (os : List Int) (xs' : List D), Pot xs' ∧ os.Perm (ids n) ∧ m_f_law_order (.ref xs) [.int n] = .ok (.own (lI os)) (.ref xs') := by
  show ∃ (os : List Int) (xs' : List D), Pot xs' ∧ os.Perm (ids n) ∧ (g_f_law_order [.ref xs, .fz (.int n), .un, .un, .un]).out = _
  have rd : (rngD 0 n).length = n := rngD_len
  obtain ⟨ρ', h1, h2⟩ := for_all (t := .nm 4) (g := gExpr (mAppend 3 (mV (mPopAt 2 (mCallR m_f_law_draw 0 (mCons (mV (mB bLen (mCons (mNm 2) mNil))) mNil))))))
    (ds := rngD 0 n) (ρ := [.ref xs, .fz (.int n), .own (lI (ids n)), .own [], .un])
    (fun done ρ => ∃ (ys : List D) (left found : List Int) (s : Slot), ρ = [.ref ys, .fz (.int n), .own (lI left), .own (lI found), s] ∧ (s = .un ∨ ∃ d, s = .fz d) ∧ Pot ys ∧ done.length + left.length = n ∧ found.length = done.length ∧ (left ++ found).Perm (ids n))
    ⟨xs, _, [], _, rfl, .inl rfl, h, by simp [ids_len], rfl, by simp⟩ (fun done d rest ρ hd ⟨ys, left, found, s, hρ, hs, hp, hl, hf, hpm⟩ => by
      subst hρ
      have hdl : done.length < n := by
        have := congrArg List.length hd
        rw [rd, List.length_append, List.length_cons] at this
        omega
      have hll : 0 < left.length := by omega
      obtain ⟨e, ys', hp', he0, he1, hdr⟩ := draw_eq (z := left.length) hp (by omega) (by omega)
      have hk : e.toNat < left.length := by omega
      refine ⟨[.ref ys, .fz (.int n), .own (lI left), .own (lI found), .fz d], [.ref ys', .fz (.int n), .own (lI (left.eraseIdx e.toNat)), .own (lI (found ++ [left[e.toNat]])), .fz d], ?_, .inl ?_, ys', _, _, _, rfl, .inr ⟨d, rfl⟩, hp', ?_, ?_, ?_⟩
      · rcases hs with rfl | ⟨d', rfl⟩ <;> simp [bindT, setSlot, RV.slot]
      · have c1 : 0 ≤ e ∧ e < 1000000 := ⟨he0, by omega⟩
        have c3 : found.length < 1000000 := by omega
        simp [mAppend, mPopAt, R.fl, R.bind, R.of, gNext_ap, gSeq, gIf, gExpr, gPar, gSet, gUn, gRet, gFor, put, convs, setAll, setSlot, RV.slot, retO, Fl.out, slot0, mNm, mC, mV, mO, mCons, mNil, mBin, mUn, gets, mB, mTup, mLst, Opd.get, Opd.toV, mTest, mTestB, asBl, mAndT, mOrT, mNotT, mIf, mAnd, mOr, mNot, truth, mSeq, mZip, mEnum, mRng1, mRng2, mCall, mCallR, mCallT, mCallK, RV.opd, itemsAt, putAt, Slot.items, Slot.put, bindT, setFzs, mYes, mFix, fixO, mSl, mP, mNoP, bLen, hdr, c1, c3, hk, lI_erase, lI_app]
      · rw [List.length_append, List.length_eraseIdx_of_lt hk]; simp; omega
      · simp [hf]
      · refine List.Perm.trans ?_ hpm
        refine List.Perm.trans ?_ ((perm_erase hk).symm.append_right found)
        rw [← List.append_assoc]
        exact List.perm_append_comm.trans (.refl _))
  obtain ⟨ys, left, found, s, rfl, hs, hp, hl, hf, hpm⟩ := h2
  have e0 : left = [] := by
    have : left.length = 0 := by omega
    exact List.length_eq_zero_iff.mp this
  subst e0
  refine ⟨found, ys, hp, by simpa using hpm, ?_⟩
  simp [g_f_law_order, R.fl, R.bind, R.of, gNext_ap, gSeq, gIf, gExpr, gPar, gSet, gUn, gRet, gFor, put, convs, setAll, setSlot, RV.slot, retO, Fl.out, slot0, mNm, mC, mV, mO, mCons, mNil, mBin, mUn, gets, mB, mTup, mLst, Opd.get, Opd.toV, mTest, mTestB, asBl, mAndT, mOrT, mNotT, mIf, mAnd, mOr, mNot, truth, mSeq, mZip, mEnum, mRng1, mRng2, mCall, mCallR, mCallT, mCallK, RV.opd, itemsAt, putAt, Slot.items, Slot.put, bindT, setFzs, mYes, mFix, fixO, mSl, mP, mNoP, sRng_eq hn, Src.fixed, Src.items, show ((n : Int) ≤ 1000000 ∧ -1000000 ≤ (n : Int)) from ⟨by omega, by omega⟩]
  rw [h1]
  simp
end DL
namespace DL
open PySem PySem.Spec PyProof.Rows L2
/-! ### the law's worlds -/
theorem ids_nodup (n : Nat) : (ids n).Nodup := by
  unfold ids
  exact List.Pairwise.map _ (fun a b h z => h (by have z : (a : Int) = b := z; omega)) List.nodup_range
theorem ids_mem {n : Nat} {x : Int} : x ∈ ids n ↔ 0 ≤ x ∧ x < n := by
  unfold ids
  simp only [List.mem_map, List.mem_range]
  constructor
  · rintro ⟨i, hi, rfl⟩; omega
  · rintro ⟨h1, h2⟩; exact ⟨x.toNat, by omega, by omega⟩
structure Gw (n : Nat) (A T : List (Int × Int)) : Prop where
  aNd : A.Nodup
  aSo : A.Pairwise fun p q => leP p q = true
  aIn : ∀ p ∈ A, (0 ≤ p.1 ∧ p.1 < n) ∧ 0 ≤ p.2 ∧ p.2 < n
  aRk : ∃ r : Int → Nat, ∀ p ∈ A, r p.1 < r p.2
  tNd : T.Nodup
  tSo : T.Pairwise fun p q => leP p q = true
  tIn : ∀ p ∈ T, 0 ≤ p.1 ∧ p.1 < p.2 ∧ p.2 < n
theorem leP_trans (a b c : Int × Int) (h1 : leP a b = true) (h2 : leP b c = true) : leP a c = true := by
  unfold leP at *
  simp only [decide_eq_true_eq] at *
  omega
theorem leP_total (a b : Int × Int) : (leP a b || leP b a) = true := by
  unfold leP
  simp only [Bool.or_eq_true, decide_eq_true_eq]
  omega
theorem leP_anti {a b : Int × Int} (h1 : leP a b = true) (h2 : leP b a = true) : a = b := by
  unfold leP at *
  simp only [decide_eq_true_eq] at *
  obtain ⟨a1, a2⟩ := a
  obtain ⟨b1, b2⟩ := b
  simp only [Prod.mk.injEq]
  dsimp only at *
  omega
abbrev sortP (xs : List (Int × Int)) : List (Int × Int) := xs.mergeSort leP
def worldD (n : Nat) (A T : List (Int × Int)) : D := .tup [.int n, .lst (lP A), .lst (lP T)]
/-- the pairs so far: places i < j in the order, ahead of the place (a, t) -/
structure PairsTo (os : List Int) (a t : Nat) (A T : List (Int × Int)) : Prop where
  aOf : ∀ p ∈ A, ∃ i j, i < j ∧ (i < a ∨ (i = a ∧ j < t)) ∧ ∃ x y, os[i]? = some x ∧ os[j]? = some y ∧ p = (x, y)
  aNd : A.Nodup
  tOf : ∀ p ∈ T, ∃ i j, i < j ∧ (i < a ∨ (i = a ∧ j < t)) ∧ ∃ x y, os[i]? = some x ∧ os[j]? = some y ∧ p = (if y < x then y else x, if y > x then y else x)
  tNd : T.Nodup
theorem nd_ix {os : List Int} (nd : os.Nodup) {i j : Nat} {x : Int} (h1 : os[i]? = some x) (h2 : os[j]? = some x) : i = j := by
  obtain ⟨a, ha⟩ := List.getElem?_eq_some_iff.mp h1
  obtain ⟨b, hb⟩ := List.getElem?_eq_some_iff.mp h2
  exact (List.getElem_inj nd).mp (ha.trans hb.symm)
theorem nodup_app {α : Type} {l : List α} {x : α} (h : l.Nodup) (hx : x ∉ l) : (l ++ [x]).Nodup := List.nodup_append.mpr ⟨h, by simp, fun a ha b hb z => by
  simp only [List.mem_singleton] at hb; subst hb; subst z; exact hx ha⟩
theorem PairsTo.skip {os : List Int} {a t : Nat} {A T : List (Int × Int)} (h : PairsTo os a t A T) : PairsTo os a (t + 1) A T :=
  ⟨fun p hp => by obtain ⟨i, j, h1, h2, h3⟩ := h.aOf p hp; exact ⟨i, j, h1, by omega, h3⟩, h.aNd, fun p hp => by obtain ⟨i, j, h1, h2, h3⟩ := h.tOf p hp; exact ⟨i, j, h1, by omega, h3⟩, h.tNd⟩
theorem PairsTo.up {os : List Int} {a t : Nat} {A T : List (Int × Int)} (h : PairsTo os a t A T) : PairsTo os (a + 1) (a + 2) A T :=
  ⟨fun p hp => by obtain ⟨i, j, h1, h2, h3⟩ := h.aOf p hp; exact ⟨i, j, h1, by omega, h3⟩, h.aNd, fun p hp => by obtain ⟨i, j, h1, h2, h3⟩ := h.tOf p hp; exact ⟨i, j, h1, by omega, h3⟩, h.tNd⟩
theorem PairsTo.addA {os : List Int} {a t : Nat} {A T : List (Int × Int)} {x y : Int} (nd : os.Nodup) (hat : a < t) (hx : os[a]? = some x) (hy : os[t]? = some y) (h : PairsTo os a t A T) : ((x, y) ∉ A) ∧ ∀ p ∈ A ++ [(x, y)], ∃ i j, i < j ∧ (i < a ∨ (i = a ∧ j < t + 1)) ∧ ∃ x y, os[i]? = some x ∧ os[j]? = some y ∧ p = (x, y) := by
  refine ⟨fun hm => ?_, fun p hp => ?_⟩
  · obtain ⟨i, j, h1, h2, u, v, h3, h4, h5⟩ := h.aOf _ hm
    simp only [Prod.mk.injEq] at h5
    have e1 := nd_ix nd hx (h5.1 ▸ h3)
    have e2 := nd_ix nd hy (h5.2 ▸ h4)
    omega
  · rcases List.mem_append.mp hp with hp | hp
    · obtain ⟨i, j, h1, h2, h3⟩ := h.aOf p hp; exact ⟨i, j, h1, by omega, h3⟩
    · simp only [List.mem_singleton] at hp
      exact ⟨a, t, hat, by omega, x, y, hx, hy, hp⟩
theorem PairsTo.addT {os : List Int} {a t : Nat} {A T : List (Int × Int)} {x y : Int} (nd : os.Nodup) (hat : a < t) (hx : os[a]? = some x) (hy : os[t]? = some y) (h : PairsTo os a t A T) :
    ((if y < x then y else x, if y > x then y else x) ∉ T) ∧ ∀ p ∈ T ++ [(if y < x then y else x, if y > x then y else x)], ∃ i j, i < j ∧ (i < a ∨ (i = a ∧ j < t + 1)) ∧ ∃ x y, os[i]? = some x ∧ os[j]? = some y ∧ p = (if y < x then y else x, if y > x then y else x) := by
  refine ⟨fun hm => ?_, fun p hp => ?_⟩
  · obtain ⟨i, j, h1, h2, u, v, h3, h4, h5⟩ := h.tOf _ hm
    simp only [Prod.mk.injEq] at h5
    have hxy : x ≠ y := fun z => by subst z; have := nd_ix nd hx hy; omega
    have huv : u ≠ v := fun z => by subst z; have := nd_ix nd h3 h4; omega
    have : (x = u ∧ y = v) ∨ (x = v ∧ y = u) := by
      obtain ⟨h5, h6⟩ := h5
      split at h5 <;> split at h5 <;> split at h6 <;> split at h6 <;> omega
    rcases this with ⟨rfl, rfl⟩ | ⟨rfl, rfl⟩
    · have e1 := nd_ix nd hx h3
      have e2 := nd_ix nd hy h4
      omega
    · have e1 := nd_ix nd hx h4
      have e2 := nd_ix nd hy h3
      omega
  · rcases List.mem_append.mp hp with hp | hp
    · obtain ⟨i, j, h1, h2, h3⟩ := h.tOf p hp; exact ⟨i, j, h1, by omega, h3⟩
    · simp only [List.mem_singleton] at hp
      exact ⟨a, t, hat, by omega, x, y, hx, hy, hp⟩
theorem gw_of {n : Nat} {os : List Int} {A T : List (Int × Int)} {a t : Nat} (hp : os.Perm (ids n)) (h : PairsTo os a t A T) : Gw n (sortP A) (sortP T) := by
  have nd := hp.symm.nodup (ids_nodup n)
  have mem : ∀ {i : Nat} {x : Int}, os[i]? = some x → 0 ≤ x ∧ x < n := fun {i x} e => ids_mem.mp (hp.mem_iff.mp (List.mem_of_getElem? e))
  refine ⟨(List.mergeSort_perm _ _).symm.nodup h.aNd, List.pairwise_mergeSort leP_trans leP_total _, fun p hp => ?_, ⟨fun x => os.idxOf x, fun p hp => ?_⟩, (List.mergeSort_perm _ _).symm.nodup h.tNd, List.pairwise_mergeSort leP_trans leP_total _, fun p hp => ?_⟩
  · obtain ⟨i, j, _, _, x, y, h1, h2, rfl⟩ := h.aOf p ((List.mergeSort_perm _ _).mem_iff.mp hp)
    exact ⟨mem h1, mem h2⟩
  · obtain ⟨i, j, hij, _, x, y, h1, h2, rfl⟩ := h.aOf p ((List.mergeSort_perm _ _).mem_iff.mp hp)
    obtain ⟨k1, e1⟩ := List.getElem?_eq_some_iff.mp h1
    obtain ⟨k2, e2⟩ := List.getElem?_eq_some_iff.mp h2
    show os.idxOf x < os.idxOf y
    rw [← e1, ← e2, nd.idxOf_getElem, nd.idxOf_getElem]
    exact hij
  · obtain ⟨i, j, hij, _, x, y, h1, h2, rfl⟩ := h.tOf p ((List.mergeSort_perm _ _).mem_iff.mp hp)
    have hxy : x ≠ y := fun z => by subst z; have := nd_ix nd h1 h2; omega
    have m1 := mem h1
    have m2 := mem h2
    dsimp only
    split <;> split <;> omega
noncomputable def gInner : G := (gSeq (gIf (mTestB (mBin sLe (mCallR m_f_law_draw 0 (mCons (mV (mC (.int (4)))) mNil)) (mNm 5)))
  (gExpr (mAppend 3 (mV (mTup (mCons (mV (mBin sIxD (mNm 2) (mNm 6))) (mCons (mV (mBin sIxD (mNm 2) (mNm 7))) mNil))))))
  gNext)
  (gIf (mTestB (mBin sLe (mCallR m_f_law_draw 0 (mCons (mV (mC (.int (4)))) mNil)) (mNm 5)))
  (gExpr (mAppend 4 (mV (mTup (mCons (mV (mB bMin (mCons (mBin sIxD (mNm 2) (mNm 6)) (mCons (mBin sIxD (mNm 2) (mNm 7)) mNil)))) (mCons (mV (mB bMax (mCons (mBin sIxD (mNm 2) (mNm 6)) (mCons (mBin sIxD (mNm 2) (mNm 7)) mNil)))) mNil))))))
  gNext))
def stW (ys : List D) (n : Nat) (os : List Int) (A T : List (Int × Int)) (dn : Int) (s6 s7 : Slot) : Rho := [.ref ys, .fz (.int n), .fz (.lst (lI os)), .own (lP A), .own (lP T), .fz (.int dn), s6, s7]
theorem ix_int {os : List Int} {a : Nat} {x : Int} (h : os[a]? = some x) : sIxD (.lst (lI os)) (.int a) = some (.val (.int x)) := by
  show (atI (lI os) (a : Int)).map Opd.val = _
  obtain ⟨h1, h2⟩ := List.getElem?_eq_some_iff.mp h
  have : atI (lI os) (a : Int) = some (.int x) := by
    unfold atI
    rw [ixn_nat (by omega) (by simp; omega)]
    simp [h]
  rw [this]; rfl
theorem inner_eq {ys : List D} {n a t : Nat} {os : List Int} {A T : List (Int × Int)} {dn : Int} (hp : Pot ys) (nd : os.Nodup) (hat : a < t) (ht : t < os.length) (P : PairsTo os a t A T) (hA : A.length < 1000000) (hT : T.length < 1000000) :
    ∃ ys' A' T', gInner (stW ys n os A T dn (.fz (.int a)) (.fz (.int t))) = .nx (stW ys' n os A' T' dn (.fz (.int a)) (.fz (.int t))) ∧ Pot ys' ∧ PairsTo os a (t + 1) A' T' ∧ A'.length ≤ A.length + 1 ∧ T'.length ≤ T.length + 1 := by
  obtain ⟨x, hx⟩ : ∃ x, os[a]? = some x := ⟨os[a], List.getElem?_eq_getElem (by omega)⟩
  obtain ⟨y, hy⟩ : ∃ y, os[t]? = some y := ⟨os[t], List.getElem?_eq_getElem ht⟩
  obtain ⟨e1, ys1, hp1, _, _, hd1⟩ := draw_eq (z := 4) hp (by decide) (by decide)
  obtain ⟨e2, ys2, hp2, _, _, hd2⟩ := draw_eq (z := 4) hp1 (by decide) (by decide)
  have ia := ix_int hx
  have it := ix_int hy
  obtain ⟨na, fa⟩ := P.addA nd hat hx hy
  obtain ⟨nt, ft⟩ := P.addT nd hat hx hy
  have Q := P.skip
  have ap : ∀ (ps : List (Int × Int)) (u v : Int), lP ps ++ [D.tup [.int u, .int v]] = lP (ps ++ [(u, v)]) := fun ps u v => by rw [lP_app]; rfl
  by_cases c1 : e1 ≤ dn <;> by_cases c2 : e2 ≤ dn
  · refine ⟨ys2, A ++ [(x, y)], T ++ [(if y < x then y else x, if y > x then y else x)], ?_, hp2, ⟨fa, nodup_app P.aNd na, ft, nodup_app P.tNd nt⟩, by simp, by simp⟩
    simp [gInner, stW, mAppend, R.fl, R.bind, R.of, gNext_ap, gSeq, gIf, gExpr, gPar, gSet, gUn, gRet, gFor, put, convs, setAll, setSlot, RV.slot, retO, Fl.out, slot0, mNm, mC, mV, mO, mCons, mNil, mBin, mUn, gets, mB, mTup, mLst, Opd.get, Opd.toV, mTest, mTestB, asBl, mAndT, mOrT, mNotT, mIf, mAnd, mOr, mNot, truth, mSeq, mZip, mEnum, mRng1, mRng2, mCall, mCallR, mCallT, mCallK, RV.opd, itemsAt, putAt, Slot.items, Slot.put, bindT, setFzs, mYes, mFix, fixO, mSl, mP, mNoP, hd1, hd2, sLe, c1, c2, ia, it, bMin, bMax, hA, hT, ap]
  · refine ⟨ys2, A ++ [(x, y)], T, ?_, hp2, ⟨fa, nodup_app P.aNd na, Q.tOf, Q.tNd⟩, by simp, by simp⟩
    simp [gInner, stW, mAppend, R.fl, R.bind, R.of, gNext_ap, gSeq, gIf, gExpr, gPar, gSet, gUn, gRet, gFor, put, convs, setAll, setSlot, RV.slot, retO, Fl.out, slot0, mNm, mC, mV, mO, mCons, mNil, mBin, mUn, gets, mB, mTup, mLst, Opd.get, Opd.toV, mTest, mTestB, asBl, mAndT, mOrT, mNotT, mIf, mAnd, mOr, mNot, truth, mSeq, mZip, mEnum, mRng1, mRng2, mCall, mCallR, mCallT, mCallK, RV.opd, itemsAt, putAt, Slot.items, Slot.put, bindT, setFzs, mYes, mFix, fixO, mSl, mP, mNoP, hd1, hd2, sLe, c1, c2, ia, it, bMin, bMax, hA, hT, ap]
  · refine ⟨ys2, A, T ++ [(if y < x then y else x, if y > x then y else x)], ?_, hp2, ⟨Q.aOf, Q.aNd, ft, nodup_app P.tNd nt⟩, by simp, by simp⟩
    simp [gInner, stW, mAppend, R.fl, R.bind, R.of, gNext_ap, gSeq, gIf, gExpr, gPar, gSet, gUn, gRet, gFor, put, convs, setAll, setSlot, RV.slot, retO, Fl.out, slot0, mNm, mC, mV, mO, mCons, mNil, mBin, mUn, gets, mB, mTup, mLst, Opd.get, Opd.toV, mTest, mTestB, asBl, mAndT, mOrT, mNotT, mIf, mAnd, mOr, mNot, truth, mSeq, mZip, mEnum, mRng1, mRng2, mCall, mCallR, mCallT, mCallK, RV.opd, itemsAt, putAt, Slot.items, Slot.put, bindT, setFzs, mYes, mFix, fixO, mSl, mP, mNoP, hd1, hd2, sLe, c1, c2, ia, it, bMin, bMax, hA, hT, ap]
  · refine ⟨ys2, A, T, ?_, hp2, Q, by simp, by simp⟩
    simp [gInner, stW, mAppend, R.fl, R.bind, R.of, gNext_ap, gSeq, gIf, gExpr, gPar, gSet, gUn, gRet, gFor, put, convs, setAll, setSlot, RV.slot, retO, Fl.out, slot0, mNm, mC, mV, mO, mCons, mNil, mBin, mUn, gets, mB, mTup, mLst, Opd.get, Opd.toV, mTest, mTestB, asBl, mAndT, mOrT, mNotT, mIf, mAnd, mOr, mNot, truth, mSeq, mZip, mEnum, mRng1, mRng2, mCall, mCallR, mCallT, mCallK, RV.opd, itemsAt, putAt, Slot.items, Slot.put, bindT, setFzs, mYes, mFix, fixO, mSl, mP, mNoP, hd1, hd2, sLe, c1, c2, ia, it, bMin, bMax, hA, hT, ap]
theorem rngD_at {n : Nat} {lo : Int} {done rest : List D} {d : D} (h : rngD lo n = done ++ d :: rest) : d = .int (lo + done.length) ∧ done.length < n := by
  have h1 : (rngD lo n)[done.length]? = some d := by rw [h, List.getElem?_append_right (Nat.le_refl _)]; simp
  have := rngD_get h1
  exact ⟨this.2, this.1⟩
theorem innerFor {n a : Nat} {os : List Int} {dn : Int} {ys : List D} {A T : List (Int × Int)} {s7 : Slot} (hn : n ≤ 100) (hl : os.length = n) (nd : os.Nodup) (ha : a < n) (hp : Pot ys) (P : PairsTo os a (a + 1) A T) (h7 : s7 = .un ∨ ∃ d, s7 = .fz d) (hA : A.length ≤ 100 * a) (hT : T.length ≤ 100 * a) :
    ∃ ys' A' T' s7', (gFor (mRng2 (mCons (mBin sAdd (mNm 6) (mC (.int (1)))) (mCons (mNm 1) mNil))) (.nm 7) gInner) (stW ys n os A T dn (.fz (.int a)) s7) = .nx (stW ys' n os A' T' dn (.fz (.int a)) s7') ∧ Pot ys' ∧ PairsTo os (a + 1) (a + 2) A' T' ∧ (s7' = .un ∨ ∃ d, s7' = .fz d) ∧ A'.length ≤ 100 * (a + 1) ∧ T'.length ≤ 100 * (a + 1) := by
  have rl : (rngD ((a : Int) + 1) ((n : Int) - (a + 1)).toNat).length = n - (a + 1) := by rw [rngD_len]; omega
  obtain ⟨ρ', h1, h2⟩ := for_all (t := .nm 7) (g := gInner) (ds := rngD ((a : Int) + 1) ((n : Int) - (a + 1)).toNat) (ρ := stW ys n os A T dn (.fz (.int a)) s7)
    (fun done ρ => ∃ ys' A' T' s7', ρ = stW ys' n os A' T' dn (.fz (.int a)) s7' ∧ Pot ys' ∧ PairsTo os a (a + 1 + done.length) A' T' ∧ (s7' = .un ∨ ∃ d, s7' = .fz d) ∧ A'.length ≤ 100 * a + done.length ∧ T'.length ≤ 100 * a + done.length)
    ⟨ys, A, T, s7, rfl, hp, P, h7, hA, hT⟩ (fun done d rest ρ hd ⟨ys', A', T', s7', hρ, hp', P', h7', hA', hT'⟩ => by
      subst hρ
      obtain ⟨rfl, hlt⟩ := rngD_at hd
      obtain ⟨ys2, A2, T2, e, hp2, P2, l1, l2⟩ := inner_eq (n := n) (dn := dn) (t := a + 1 + done.length) hp' nd (by omega) (by omega) P' (by omega) (by omega)
      refine ⟨stW ys' n os A' T' dn (.fz (.int a)) (.fz (.int ((a + 1 + done.length : Nat) : Int))), _, ?_, .inl e, ys2, A2, T2, _, rfl, hp2, by rw [List.length_append]; exact P2, .inr ⟨_, rfl⟩, by rw [List.length_append]; simp; omega, by rw [List.length_append]; simp; omega⟩
      have e7 : ((a : Int) + 1 + (done.length : Int)) = ((a + 1 + done.length : Nat) : Int) := by omega
      rw [e7]
      rcases h7' with rfl | ⟨d', rfl⟩ <;> rfl)
  obtain ⟨ys', A', T', s7', rfl, hp', P', h7', hA', hT'⟩ := h2
  rw [rl] at P' hA' hT'
  refine ⟨ys', A', T', s7', ?_, hp', ?_, h7', by omega, by omega⟩
  · have c : ((n : Int) ≤ 1000000 ∧ -1000000 ≤ (n : Int)) ∧ ((a : Int) + 1 ≤ 1000000 ∧ -1000000 ≤ (a : Int) + 1) := ⟨⟨by omega, by omega⟩, by omega, by omega⟩
    simp [gFor, mRng2, R.fl, R.bind, R.of, gNext_ap, gSeq, gIf, gExpr, gPar, gSet, gUn, gRet, gFor, put, convs, setAll, setSlot, RV.slot, retO, Fl.out, slot0, mNm, mC, mV, mO, mCons, mNil, mBin, mUn, gets, mB, mTup, mLst, Opd.get, Opd.toV, mTest, mTestB, asBl, mAndT, mOrT, mNotT, mIf, mAnd, mOr, mNot, truth, mSeq, mZip, mEnum, mRng1, mRng2, mCall, mCallR, mCallT, mCallK, RV.opd, itemsAt, putAt, Slot.items, Slot.put, bindT, setFzs, mYes, mFix, fixO, mSl, mP, mNoP, stW, sAdd, Src.fixed, Src.items]
    rw [if_pos (by omega)]
    exact h1
  · exact ⟨fun p hp => by obtain ⟨i, j, g1, g2, g3⟩ := P'.aOf p hp; exact ⟨i, j, g1, by omega, g3⟩, P'.aNd, fun p hp => by obtain ⟨i, j, g1, g2, g3⟩ := P'.tOf p hp; exact ⟨i, j, g1, by omega, g3⟩, P'.tNd⟩
end DL
namespace DL
open PySem PySem.Spec PyProof.Rows L2
theorem world_eq {xs : List D} {n : Nat} (h : Pot xs) (hn : n ≤ 100) :
    ∃ (A T : List (Int × Int)) (xs' : List D), Pot xs' ∧ Gw n A T ∧ A.length ≤ 100 * n ∧ T.length ≤ 100 * n ∧ m_f_law_world (.ref xs) [.int n] = .ok (.fz (worldD n A T)) (.ref xs') := by
  show ∃ (A T : List (Int × Int)) (xs' : List D), Pot xs' ∧ Gw n A T ∧ A.length ≤ 100 * n ∧ T.length ≤ 100 * n ∧ (g_f_law_world [.ref xs, .fz (.int n), .un, .un, .un, .un, .un, .un]).out = _
  obtain ⟨os, ys, hp1, hpm, ho⟩ := order_eq h (by omega : n ≤ 1000)
  obtain ⟨dn, ys1, hp2, _, _, hd⟩ := draw_eq (z := 3) hp1 (by decide) (by decide)
  have hl : os.length = n := by rw [hpm.length_eq, ids_len]
  have nd := hpm.symm.nodup (ids_nodup n)
  have rl : (rngD 0 n).length = n := rngD_len
  obtain ⟨ρ', h1, h2⟩ := for_all (t := .nm 6) (g := gFor (mRng2 (mCons (mBin sAdd (mNm 6) (mC (.int (1)))) (mCons (mNm 1) mNil))) (.nm 7) gInner) (ds := rngD 0 n) (ρ := stW ys1 n os [] [] dn .un .un)
    (fun done ρ => ∃ ys' A' T' s6 s7, ρ = stW ys' n os A' T' dn s6 s7 ∧ Pot ys' ∧ PairsTo os done.length (done.length + 1) A' T' ∧ (s6 = .un ∨ ∃ d, s6 = .fz d) ∧ (s7 = .un ∨ ∃ d, s7 = .fz d) ∧ A'.length ≤ 100 * done.length ∧ T'.length ≤ 100 * done.length)
    ⟨ys1, [], [], .un, .un, rfl, hp2, ⟨fun p hp => by simp at hp, .nil, fun p hp => by simp at hp, .nil⟩, .inl rfl, .inl rfl, by simp, by simp⟩ (fun done d rest ρ hd ⟨ys', A', T', s6, s7, hρ, hp', P', h6, h7, hA', hT'⟩ => by
      subst hρ
      obtain ⟨rfl, hlt⟩ := rngD_at hd
      obtain ⟨ys2, A2, T2, s7', e, hp2, P2, h7', l1, l2⟩ := innerFor (dn := dn) hn hl nd hlt hp' P' h7 hA' hT'
      refine ⟨stW ys' n os A' T' dn (.fz (.int (done.length : Nat))) s7, _, ?_, .inl e, ys2, A2, T2, _, _, rfl, hp2, by rw [List.length_append]; exact P2, .inr ⟨_, rfl⟩, h7', by rw [List.length_append]; exact l1, by rw [List.length_append]; exact l2⟩
      rw [Int.zero_add]
      rcases h6 with rfl | ⟨d', rfl⟩ <;> rfl)
  obtain ⟨ys', A', T', s6, s7, rfl, hp', P', _, _, hA', hT'⟩ := h2
  rw [rl] at hA' hT'
  refine ⟨sortP A', sortP T', ys', hp', gw_of hpm P', by rw [List.length_mergeSort]; exact hA', by rw [List.length_mergeSort]; exact hT', ?_⟩
  have c : ((n : Int) ≤ 1000000 ∧ -1000000 ≤ (n : Int)) := ⟨by omega, by omega⟩
  have sA := bSorted_pairs (xs := A') (by omega)
  have sT := bSorted_pairs (xs := T') (by omega)
  have h1' : forLoop (Tgt.nm 6) (gFor (mRng2 (mCons (mBin sAdd (mNm 6) (mC (.int (1)))) (mCons (mNm 1) mNil))) (.nm 7) gInner) (rngD 0 n) [Slot.ref ys1, Slot.fz (D.int n), Slot.fz (D.lst (lI os)), Slot.own [], Slot.own [], Slot.fz (D.int dn), Slot.un, Slot.un] = .nx (stW ys' n os A' T' dn s6 s7) := h1
  unfold gInner at h1'
  simp [g_f_law_world, R.fl, R.bind, R.of, gNext_ap, gSeq, gIf, gExpr, gPar, gSet, gUn, gRet, gFor, put, convs, setAll, setSlot, RV.slot, retO, Fl.out, slot0, mNm, mC, mV, mO, mCons, mNil, mBin, mUn, gets, mB, mTup, mLst, Opd.get, Opd.toV, mTest, mTestB, asBl, mAndT, mOrT, mNotT, mIf, mAnd, mOr, mNot, truth, mSeq, mZip, mEnum, mRng1, mRng2, mCall, mCallR, mCallT, mCallK, RV.opd, itemsAt, putAt, Slot.items, Slot.put, bindT, setFzs, mYes, mFix, fixO, mSl, mP, mNoP, ho, hd, Src.fixed, Src.items, c]
  rw [h1']
  simp [stW, sA, sT, worldD, sortP, R.fl, R.bind, R.of, gNext_ap, gSeq, gIf, gExpr, gPar, gSet, gUn, gRet, gFor, put, convs, setAll, setSlot, RV.slot, retO, Fl.out, slot0, mNm, mC, mV, mO, mCons, mNil, mBin, mUn, gets, mB, mTup, mLst, Opd.get, Opd.toV, mTest, mTestB, asBl, mAndT, mOrT, mNotT, mIf, mAnd, mOr, mNot, truth, mSeq, mZip, mEnum, mRng1, mRng2, mCall, mCallR, mCallT, mCallK, RV.opd, itemsAt, putAt, Slot.items, Slot.put, bindT, setFzs, mYes, mFix, fixO, mSl, mP, mNoP]
/-! ### the library's small tests -/
def isI : D → Bool
  | .int _ => true
  | _ => false
/-- what a law hands in: no object of an own class, no script -/
def Plainy : D → Prop
  | .ins _ _ => False
  | .scr _ => False
  | _ => True
theorem is_integer_eq {d : D} (h : Plainy d) : m_is_integer (.fz d) [] = .ok (.fz (.bl (isI d))) (.fz d) := by
  cases d <;> first | exact h.elim | rfl
theorem is_count_eq {d : D} (h : Plainy d) : m_is_count (.fz d) [] = .ok (.fz (.bl (match d with | .int i => decide (0 ≤ i) | _ => false))) (.fz d) := by
  cases d <;> first | exact h.elim | rfl
def thing (w : Int) : D → Bool
  | .int i => decide (0 ≤ i) && decide (i < w)
  | _ => false
theorem is_thing_eq {w : Int} {d : D} (h : Plainy d) : m_is_thing (.fz (.int w)) [d] = .ok (.fz (.bl (thing w d))) (.fz (.int w)) := by
  cases d with
  | int i => 
    show (g_is_thing [.fz (.int w), .fz (.int i)]).out = _
    by_cases h0 : 0 ≤ i
    · simp [g_is_thing, R.fl, R.bind, R.of, gNext_ap, gSeq, gIf, gExpr, gPar, gSet, gUn, gRet, gFor, put, convs, setAll, setSlot, RV.slot, retO, Fl.out, slot0, mNm, mC, mV, mO, mCons, mNil, mBin, mUn, gets, mB, mTup, mLst, Opd.get, Opd.toV, mTest, mTestB, asBl, mAndT, mOrT, mNotT, mIf, mAnd, mOr, mNot, truth, mSeq, mZip, mEnum, mRng1, mRng2, mCall, mCallR, mCallT, mCallK, RV.opd, itemsAt, putAt, Slot.items, Slot.put, bindT, setFzs, mYes, mFix, fixO, mSl, mP, mNoP, is_count_eq (d := .int i) trivial, h0, sLt, thing]
    · simp [g_is_thing, R.fl, R.bind, R.of, gNext_ap, gSeq, gIf, gExpr, gPar, gSet, gUn, gRet, gFor, put, convs, setAll, setSlot, RV.slot, retO, Fl.out, slot0, mNm, mC, mV, mO, mCons, mNil, mBin, mUn, gets, mB, mTup, mLst, Opd.get, Opd.toV, mTest, mTestB, asBl, mAndT, mOrT, mNotT, mIf, mAnd, mOr, mNot, truth, mSeq, mZip, mEnum, mRng1, mRng2, mCall, mCallR, mCallT, mCallK, RV.opd, itemsAt, putAt, Slot.items, Slot.put, bindT, setFzs, mYes, mFix, fixO, mSl, mP, mNoP, is_count_eq (d := .int i) trivial, h0, sLt, thing]
  | _ => first | exact h.elim | rfl
def isSeq : D → Bool
  | .lst _ => true
  | .tup _ => true
  | _ => false
theorem is_list_eq {d : D} (h : Plainy d) : m_is_list (.fz d) [] = .ok (.fz (.bl (isSeq d))) (.fz d) := by
  cases d <;> first | exact h.elim | rfl
/-- the items of a list or a tuple -/
def seqOf : D → Option (List D)
  | .lst xs => some xs
  | .tup xs => some xs
  | _ => none
theorem bools_map {α : Type} (f : α → Bool) : ∀ xs : List α, bools (xs.map fun x => D.bl (f x)) = some (xs.map f)
  | [] => rfl
  | x :: xs => by simp [bools, bools_map f xs]
theorem filter_yes {α : Type} (xs : List α) : xs.filter (fun _ => true) = xs := by simp
end DL
namespace DL
open PySem PySem.Spec PyProof.Rows L2
theorem cut1 (xs : List D) : cutD xs (some 1) none = xs.tail := by
  cases xs with
  | nil => rfl
  | cons x xs =>
    unfold cutD HT.sIx
    simp
theorem sSl1L (xs : List D) : sSl (some 1) none (.lst xs) = some (.tmp xs.tail) := by unfold sSl; dsimp only; rw [cut1]
theorem sSl1T (xs : List D) : sSl (some 1) none (.tup xs) = some (.val (.tup xs.tail)) := by unfold sSl; dsimp only; rw [cut1]
theorem asInt1 : asInt (.int 1) = some 1 := rfl
/-! ### all of one kind -/
theorem comp_things {w : Int} {v : D} {xs : List D} {rest : Rho} (hv : seqOf v = some xs) (hp : ∀ x ∈ xs, Plainy x) (hl : xs.length ≤ 1000000) :
    mComp (mSeq (mNm 1)) [2] (.nm 2) mYes (mV (mCall m_is_thing (mCons (mV (mNm 0)) (mCons (mV (mNm 2)) mNil)))) (.fz (.int w) :: .fz v :: .un :: rest) = .ok (.tmp (xs.map fun d => .bl (thing w d))) (.fz (.int w) :: .fz v :: .un :: rest) := by
  have go : ∀ src : Src, src.items (.fz (.int w) :: .fz v :: .un :: rest) = some xs → mSeq (mNm 1) (.fz (.int w) :: .fz v :: .un :: rest) = .ok src (.fz (.int w) :: .fz v :: .un :: rest) →
      mComp (mSeq (mNm 1)) [2] (.nm 2) mYes (mV (mCall m_is_thing (mCons (mV (mNm 0)) (mCons (mV (mNm 2)) mNil)))) (.fz (.int w) :: .fz v :: .un :: rest) = .ok (.tmp (xs.map fun d => .bl (thing w d))) (.fz (.int w) :: .fz v :: .un :: rest) := fun src hi hs => by
    have e := comp_pure (own := [2]) (t := .nm 2) (test := mYes) (elt := mV (mCall m_is_thing (mCons (mV (mNm 0)) (mCons (mV (mNm 2)) mNil)))) (ds := xs) (fun _ => true) (fun d => .bl (thing w d)) hs (by simp [ownOk, Slot.mine]) (by simpa [wipeR] using hi) hl (fun d hd => by
      refine ⟨.fz (.int w) :: .fz v :: .fz d :: rest, by simp [bindT, setSlot, RV.slot, wipeR], by simp [ownOk, Slot.mine], by simp [wipeR], rfl, fun _ => ?_⟩
      simp [R.fl, R.bind, R.of, gNext_ap, gSeq, gIf, gExpr, gPar, gSet, gUn, gRet, gFor, put, convs, setAll, setSlot, RV.slot, retO, Fl.out, slot0, mNm, mC, mV, mO, mCons, mNil, mBin, mUn, gets, mB, mTup, mLst, Opd.get, Opd.toV, mTest, mTestB, asBl, mAndT, mOrT, mNotT, mIf, mAnd, mOr, mNot, truth, mSeq, mZip, mEnum, mRng1, mRng2, mCall, mCallR, mCallT, mCallK, RV.opd, itemsAt, putAt, Slot.items, Slot.put, bindT, setFzs, mYes, mFix, fixO, mSl, mP, mNoP, is_thing_eq (w := w) (hp d hd)])
    rw [e, filter_yes]
  cases v with
  | lst ys => cases hv; exact go (.seqL (.nm 1)) (by simp [Src.items, Opd.get, asL]) (by simp [R.fl, R.bind, R.of, gNext_ap, gSeq, gIf, gExpr, gPar, gSet, gUn, gRet, gFor, put, convs, setAll, setSlot, RV.slot, retO, Fl.out, slot0, mNm, mC, mV, mO, mCons, mNil, mBin, mUn, gets, mB, mTup, mLst, Opd.get, Opd.toV, mTest, mTestB, asBl, mAndT, mOrT, mNotT, mIf, mAnd, mOr, mNot, truth, mSeq, mZip, mEnum, mRng1, mRng2, mCall, mCallR, mCallT, mCallK, RV.opd, itemsAt, putAt, Slot.items, Slot.put, bindT, setFzs, mYes, mFix, fixO, mSl, mP, mNoP])
  | tup ys => cases hv; exact go (.seqT (.nm 1)) (by simp [Src.items, Opd.get, asT]) (by simp [R.fl, R.bind, R.of, gNext_ap, gSeq, gIf, gExpr, gPar, gSet, gUn, gRet, gFor, put, convs, setAll, setSlot, RV.slot, retO, Fl.out, slot0, mNm, mC, mV, mO, mCons, mNil, mBin, mUn, gets, mB, mTup, mLst, Opd.get, Opd.toV, mTest, mTestB, asBl, mAndT, mOrT, mNotT, mIf, mAnd, mOr, mNot, truth, mSeq, mZip, mEnum, mRng1, mRng2, mCall, mCallR, mCallT, mCallK, RV.opd, itemsAt, putAt, Slot.items, Slot.put, bindT, setFzs, mYes, mFix, fixO, mSl, mP, mNoP])
  | _ => cases hv
theorem all_bl {α : Type} (f : α → Bool) (xs : List α) : bAll [.lst (xs.map fun x => .bl (f x))] = some (.val (.bl (xs.all f))) := by
  unfold bAll
  dsimp only
  rw [bools_map]
  simp [List.all_map, Function.comp_def]
theorem any_bl {α : Type} (f : α → Bool) (xs : List α) : bAny [.lst (xs.map fun x => .bl (f x))] = some (.val (.bl (xs.any f))) := by
  unfold bAny
  dsimp only
  rw [bools_map]
  simp [List.any_map, Function.comp_def]
/-- neighbours -/
def adj (r : Int → Int → Bool) : List Int → Bool
  | [] => true
  | [_] => true
  | x :: y :: l => r x y && adj r (y :: l)
def adjP (r : Int × Int → Int × Int → Bool) : List (Int × Int) → Bool
  | [] => true
  | [_] => true
  | x :: y :: l => r x y && adjP r (y :: l)
theorem zipD_map {α : Type} (f : α → D) : ∀ xs ys : List α, zipD (xs.map f) (ys.map f) = (xs.zip ys).map fun p => .tup [f p.1, f p.2]
  | [], _ => rfl
  | _ :: _, [] => rfl
  | x :: xs, y :: ys => by
    show D.tup [f x, f y] :: zipD (xs.map f) (ys.map f) = _
    rw [zipD_map f xs ys]; rfl
theorem all_adj (r : Int → Int → Bool) : ∀ xs : List Int, ((xs.zip xs.tail).all fun p => r p.1 p.2) = adj r xs
  | [] => rfl
  | [_] => rfl
  | x :: y :: l => by
    show (r x y && (((y :: l).zip l).all fun p => r p.1 p.2)) = _
    have := all_adj r (y :: l)
    rw [show (y :: l).tail = l from rfl] at this
    rw [this]; rfl
theorem all_adjP (r : Int × Int → Int × Int → Bool) : ∀ xs : List (Int × Int), ((xs.zip xs.tail).all fun p => r p.1 p.2) = adjP r xs
  | [] => rfl
  | [_] => rfl
  | x :: y :: l => by
    show (r x y && (((y :: l).zip l).all fun p => r p.1 p.2)) = _
    have := all_adjP r (y :: l)
    rw [show (y :: l).tail = l from rfl] at this
    rw [this]; rfl
end DL
namespace DL
open PySem PySem.Spec PyProof.Rows L2
theorem comp_call {m : Df} {w : Int} {v : D} {xs : List D} {rest : Rho} (f : D → Bool) (hv : seqOf v = some xs) (hm : ∀ d ∈ xs, ∃ s', m (.fz (.int w)) [d] = .ok (.fz (.bl (f d))) s') (hl : xs.length ≤ 1000000) :
    mComp (mSeq (mNm 1)) [2] (.nm 2) mYes (mV (mCall m (mCons (mV (mNm 0)) (mCons (mV (mNm 2)) mNil)))) (.fz (.int w) :: .fz v :: .un :: rest) = .ok (.tmp (xs.map fun d => .bl (f d))) (.fz (.int w) :: .fz v :: .un :: rest) := by
  have go : ∀ src : Src, src.items (.fz (.int w) :: .fz v :: .un :: rest) = some xs → mSeq (mNm 1) (.fz (.int w) :: .fz v :: .un :: rest) = .ok src (.fz (.int w) :: .fz v :: .un :: rest) →
      mComp (mSeq (mNm 1)) [2] (.nm 2) mYes (mV (mCall m (mCons (mV (mNm 0)) (mCons (mV (mNm 2)) mNil)))) (.fz (.int w) :: .fz v :: .un :: rest) = .ok (.tmp (xs.map fun d => .bl (f d))) (.fz (.int w) :: .fz v :: .un :: rest) := fun src hi hs => by
    have e := comp_pure (own := [2]) (t := .nm 2) (test := mYes) (elt := mV (mCall m (mCons (mV (mNm 0)) (mCons (mV (mNm 2)) mNil)))) (ds := xs) (fun _ => true) (fun d => .bl (f d)) hs (by simp [ownOk, Slot.mine]) (by simpa [wipeR] using hi) hl (fun d hd => by
      refine ⟨.fz (.int w) :: .fz v :: .fz d :: rest, by simp [bindT, setSlot, RV.slot, wipeR], by simp [ownOk, Slot.mine], by simp [wipeR], rfl, fun _ => ?_⟩
      obtain ⟨s', e⟩ := hm d hd
      simp [R.fl, R.bind, R.of, gNext_ap, gSeq, gIf, gExpr, gPar, gSet, gUn, gRet, gFor, put, convs, setAll, setSlot, RV.slot, retO, Fl.out, slot0, mNm, mC, mV, mO, mCons, mNil, mBin, mUn, gets, mB, mTup, mLst, Opd.get, Opd.toV, mTest, mTestB, asBl, mAndT, mOrT, mNotT, mIf, mAnd, mOr, mNot, truth, mSeq, mZip, mEnum, mRng1, mRng2, mCall, mCallR, mCallT, mCallK, RV.opd, itemsAt, putAt, Slot.items, Slot.put, bindT, setFzs, mYes, mFix, fixO, mSl, mP, mNoP, e])
    rw [e, filter_yes]
  cases v with
  | lst ys => cases hv; exact go (.seqL (.nm 1)) (by simp [Src.items, Opd.get, asL]) (by simp [R.fl, R.bind, R.of, gNext_ap, gSeq, gIf, gExpr, gPar, gSet, gUn, gRet, gFor, put, convs, setAll, setSlot, RV.slot, retO, Fl.out, slot0, mNm, mC, mV, mO, mCons, mNil, mBin, mUn, gets, mB, mTup, mLst, Opd.get, Opd.toV, mTest, mTestB, asBl, mAndT, mOrT, mNotT, mIf, mAnd, mOr, mNot, truth, mSeq, mZip, mEnum, mRng1, mRng2, mCall, mCallR, mCallT, mCallK, RV.opd, itemsAt, putAt, Slot.items, Slot.put, bindT, setFzs, mYes, mFix, fixO, mSl, mP, mNoP])
  | tup ys => cases hv; exact go (.seqT (.nm 1)) (by simp [Src.items, Opd.get, asT]) (by simp [R.fl, R.bind, R.of, gNext_ap, gSeq, gIf, gExpr, gPar, gSet, gUn, gRet, gFor, put, convs, setAll, setSlot, RV.slot, retO, Fl.out, slot0, mNm, mC, mV, mO, mCons, mNil, mBin, mUn, gets, mB, mTup, mLst, Opd.get, Opd.toV, mTest, mTestB, asBl, mAndT, mOrT, mNotT, mIf, mAnd, mOr, mNot, truth, mSeq, mZip, mEnum, mRng1, mRng2, mCall, mCallR, mCallT, mCallK, RV.opd, itemsAt, putAt, Slot.items, Slot.put, bindT, setFzs, mYes, mFix, fixO, mSl, mP, mNoP])
  | _ => cases hv
/-- a pair of unlike things -/
def Arr (n : Nat) (p : Int × Int) : Prop := (0 ≤ p.1 ∧ p.1 < n) ∧ (0 ≤ p.2 ∧ p.2 < n) ∧ p.1 ≠ p.2
theorem is_arrow_eq {n : Nat} {p : Int × Int} (h : Arr n p) : m_is_arrow (.fz (.int n)) [pD p] = .ok (.fz (.bl true)) (.fz (.int n)) := by
  show (g_is_arrow [.fz (.int n), .fz (pD p), .un]).out = _
  obtain ⟨h1, h2, h3⟩ := h
  have hc := comp_call (m := m_is_thing) (w := n) (v := pD p) (xs := [.int p.1, .int p.2]) (rest := []) (thing n) rfl (fun d hd => ⟨_, is_thing_eq (by
    simp only [List.mem_cons, List.not_mem_nil, or_false] at hd
    rcases hd with rfl | rfl <;> trivial)⟩) (by simp)
  have e := all_bl (thing n) [.int p.1, .int p.2]
  have t1 : thing n (.int p.1) = true := by simp [thing, h1]
  have t2 : thing n (.int p.2) = true := by simp [thing, h2]
  have i0 : ∀ x y : D, sIxD (.tup [x, y]) (.int 0) = some (.val x) := fun _ _ => rfl
  have i1 : ∀ x y : D, sIxD (.tup [x, y]) (.int 1) = some (.val y) := fun _ _ => rfl
  have ib : ∀ xs : List D, isB clsL "tuple" (.tup xs) = some (.val (.bl true)) := fun _ => rfl
  simp only [List.map_cons, List.map_nil, t1, t2, List.all_cons, List.all_nil, Bool.and_self] at e hc
  simp [g_is_arrow, R.fl, R.bind, R.of, gNext_ap, gSeq, gIf, gExpr, gPar, gSet, gUn, gRet, gFor, put, convs, setAll, setSlot, RV.slot, retO, Fl.out, slot0, mNm, mC, mV, mO, mCons, mNil, mBin, mUn, gets, mB, mTup, mLst, Opd.get, Opd.toV, mTest, mTestB, asBl, mAndT, mOrT, mNotT, mIf, mAnd, mOr, mNot, truth, mSeq, mZip, mEnum, mRng1, mRng2, mCall, mCallR, mCallT, mCallK, RV.opd, itemsAt, putAt, Slot.items, Slot.put, bindT, setFzs, mYes, mFix, fixO, mSl, mP, mNoP, hc, e, ib, bLen, sNe, dEq_int, i0, i1, h3]
theorem is_list_seq {v : D} {xs : List D} (hv : seqOf v = some xs) : m_is_list (.fz v) [] = .ok (.fz (.bl true)) (.fz v) := by
  cases v <;> first | (cases hv; done) | rfl
theorem seq_sorted {v : D} {A : List (Int × Int)} (hv : seqOf v = some (lP A)) (hl : A.length ≤ 1000000) : bSorted [v] = some (.tmp (lP (sortP A))) := by
  cases v with
  | lst ys => cases hv; exact bSorted_pairs hl
  | tup ys => cases hv; exact bSorted_pairsT hl
  | _ => cases hv
theorem lP_mem {d : D} {A : List (Int × Int)} (h : d ∈ lP A) : ∃ p ∈ A, d = pD p := by
  obtain ⟨p, hp, rfl⟩ := List.mem_map.mp h
  exact ⟨p, hp, rfl⟩
theorem map_true {A : List (Int × Int)} : bAll [.lst ((lP A).map fun _ => D.bl true)] = some (.val (.bl true)) := by
  have := all_bl (fun _ : D => true) (lP A)
  rw [this]; simp
theorem arrows_in_eq {n : Nat} {v : D} {A : List (Int × Int)} (hv : seqOf v = some (lP A)) (hA : ∀ p ∈ A, Arr n p) (hl : A.length ≤ 1000000) : m_arrows_in (.fz (.int n)) [v] = .ok (.own (lP (sortP A))) (.fz (.int n)) := by
  show (g_arrows_in [.fz (.int n), .fz v, .un]).out = _
  have hc := comp_call (m := m_is_arrow) (w := n) (v := v) (xs := lP A) (rest := []) (fun _ => true) hv (fun d hd => by
    obtain ⟨p, hp, rfl⟩ := lP_mem hd
    exact ⟨_, is_arrow_eq (hA p hp)⟩) (by simpa using hl)
  simp [g_arrows_in, R.fl, R.bind, R.of, gNext_ap, gSeq, gIf, gExpr, gPar, gSet, gUn, gRet, gFor, put, convs, setAll, setSlot, RV.slot, retO, Fl.out, slot0, mNm, mC, mV, mO, mCons, mNil, mBin, mUn, gets, mB, mTup, mLst, Opd.get, Opd.toV, mTest, mTestB, asBl, mAndT, mOrT, mNotT, mIf, mAnd, mOr, mNot, truth, mSeq, mZip, mEnum, mRng1, mRng2, mCall, mCallR, mCallT, mCallK, RV.opd, itemsAt, putAt, Slot.items, Slot.put, bindT, setFzs, mYes, mFix, fixO, mSl, mP, mNoP, hc, is_list_seq hv, map_true, seq_sorted hv hl]
theorem is_tie_eq {n : Nat} {p : Int × Int} (h : Arr n p) (h2 : p.1 < p.2) : m_is_tie (.fz (.int n)) [pD p] = .ok (.fz (.bl true)) (.fz (.int n)) := by
  show (g_is_tie [.fz (.int n), .fz (pD p)]).out = _
  have i0 : ∀ x y : D, sIxD (.tup [x, y]) (.int 0) = some (.val x) := fun _ _ => rfl
  have i1 : ∀ x y : D, sIxD (.tup [x, y]) (.int 1) = some (.val y) := fun _ _ => rfl
  have e : m_is_arrow (.fz (.int n)) [.tup [.int p.1, .int p.2]] = .ok (.fz (.bl true)) (.fz (.int n)) := is_arrow_eq h
  simp [g_is_tie, R.fl, R.bind, R.of, gNext_ap, gSeq, gIf, gExpr, gPar, gSet, gUn, gRet, gFor, put, convs, setAll, setSlot, RV.slot, retO, Fl.out, slot0, mNm, mC, mV, mO, mCons, mNil, mBin, mUn, gets, mB, mTup, mLst, Opd.get, Opd.toV, mTest, mTestB, asBl, mAndT, mOrT, mNotT, mIf, mAnd, mOr, mNot, truth, mSeq, mZip, mEnum, mRng1, mRng2, mCall, mCallR, mCallT, mCallK, RV.opd, itemsAt, putAt, Slot.items, Slot.put, bindT, setFzs, mYes, mFix, fixO, mSl, mP, mNoP, e, i0, i1, sLt, h2]
theorem ties_in_eq {n : Nat} {v : D} {T : List (Int × Int)} (hv : seqOf v = some (lP T)) (hT : ∀ p ∈ T, Arr n p ∧ p.1 < p.2) (hl : T.length ≤ 1000000) : m_ties_in (.fz (.int n)) [v] = .ok (.fz (.lst (lP (sortP T)))) (.fz (.int n)) := by
  show (g_ties_in [.fz (.int n), .fz v, .un, .un]).out = _
  have ha := arrows_in_eq hv (fun p hp => (hT p hp).1) hl
  have hS : ∀ p ∈ sortP T, Arr n p ∧ p.1 < p.2 := fun p hp => hT p ((List.mergeSort_perm _ _).mem_iff.mp hp)
  have hc := comp_pure (ms := mSeq (mNm 2)) (own := [3]) (t := .nm 3) (test := mYes) (elt := mV (mCall m_is_tie (mCons (mV (mNm 0)) (mCons (mV (mNm 3)) mNil)))) (ρ := [.fz (.int n), .fz v, .fz (.lst (lP (sortP T))), .un]) (ρ1 := [.fz (.int n), .fz v, .fz (.lst (lP (sortP T))), .un]) (src := .seqL (.nm 2)) (ds := lP (sortP T)) (fun _ => true) (fun _ => .bl true)
    (by simp [R.fl, R.bind, R.of, gNext_ap, gSeq, gIf, gExpr, gPar, gSet, gUn, gRet, gFor, put, convs, setAll, setSlot, RV.slot, retO, Fl.out, slot0, mNm, mC, mV, mO, mCons, mNil, mBin, mUn, gets, mB, mTup, mLst, Opd.get, Opd.toV, mTest, mTestB, asBl, mAndT, mOrT, mNotT, mIf, mAnd, mOr, mNot, truth, mSeq, mZip, mEnum, mRng1, mRng2, mCall, mCallR, mCallT, mCallK, RV.opd, itemsAt, putAt, Slot.items, Slot.put, bindT, setFzs, mYes, mFix, fixO, mSl, mP, mNoP]) (by simp [ownOk, Slot.mine]) (by simp [wipeR, Src.items, Opd.get, asL]) (by simpa [sortP] using hl) (fun d hd => by
      obtain ⟨p, hp, rfl⟩ := lP_mem hd
      refine ⟨[.fz (.int n), .fz v, .fz (.lst (lP (sortP T))), .fz (pD p)], by simp [bindT, setSlot, RV.slot, wipeR], by simp [ownOk, Slot.mine], by simp [wipeR], rfl, fun _ => ?_⟩
      have e : m_is_tie (.fz (.int n)) [.tup [.int p.1, .int p.2]] = .ok (.fz (.bl true)) (.fz (.int n)) := is_tie_eq (hS p hp).1 (hS p hp).2
      simp [R.fl, R.bind, R.of, gNext_ap, gSeq, gIf, gExpr, gPar, gSet, gUn, gRet, gFor, put, convs, setAll, setSlot, RV.slot, retO, Fl.out, slot0, mNm, mC, mV, mO, mCons, mNil, mBin, mUn, gets, mB, mTup, mLst, Opd.get, Opd.toV, mTest, mTestB, asBl, mAndT, mOrT, mNotT, mIf, mAnd, mOr, mNot, truth, mSeq, mZip, mEnum, mRng1, mRng2, mCall, mCallR, mCallT, mCallK, RV.opd, itemsAt, putAt, Slot.items, Slot.put, bindT, setFzs, mYes, mFix, fixO, mSl, mP, mNoP, e])
  rw [filter_yes] at hc
  simp [g_ties_in, R.fl, R.bind, R.of, gNext_ap, gSeq, gIf, gExpr, gPar, gSet, gUn, gRet, gFor, put, convs, setAll, setSlot, RV.slot, retO, Fl.out, slot0, mNm, mC, mV, mO, mCons, mNil, mBin, mUn, gets, mB, mTup, mLst, Opd.get, Opd.toV, mTest, mTestB, asBl, mAndT, mOrT, mNotT, mIf, mAnd, mOr, mNot, truth, mSeq, mZip, mEnum, mRng1, mRng2, mCall, mCallR, mCallT, mCallK, RV.opd, itemsAt, putAt, Slot.items, Slot.put, bindT, setFzs, mYes, mFix, fixO, mSl, mP, mNoP, ha, hc, sIsN, D.isNon, map_true]
theorem all_unlike_eq {A : List (Int × Int)} (hl : A.length ≤ 1000000) (hA : adjP (fun p q => !decide (p = q)) A = true) : m_all_unlike (.fz (.lst (lP A))) [] = .ok (.fz (.bl true)) (.fz (.lst (lP A))) := by
  show (g_all_unlike [.fz (.lst (lP A)), .un, .un]).out = _
  have d1 : (lP A).tail = lP A.tail := by cases A <;> rfl
  have hz : zipD (lP A) (lP A.tail) = (A.zip A.tail).map fun p => .tup [pD p.1, pD p.2] := zipD_map pD A A.tail
  have hc := comp_enc (ms := mZip (mCons (mNm 0) (mCons (mSl (mNm 0) (mP (mC (.int (1)))) mNoP) mNil))) (own := [1, 2]) (t := .tup [1, 2]) (test := mYes) (elt := mV (mBin sNe (mNm 1) (mNm 2))) (ρ := [.fz (.lst (lP A)), .un, .un]) (ρ1 := [.fz (.lst (lP A)), .un, .un]) (src := .zipL (.nm 0) (.tmp (lP A.tail))) (xs := A.zip A.tail) (en := fun p => .tup [pD p.1, pD p.2]) (fun _ => true) (fun p => .bl (!decide (p.1 = p.2)))
    (by simp [R.fl, R.bind, R.of, gNext_ap, gSeq, gIf, gExpr, gPar, gSet, gUn, gRet, gFor, put, convs, setAll, setSlot, RV.slot, retO, Fl.out, slot0, mNm, mC, mV, mO, mCons, mNil, mBin, mUn, gets, mB, mTup, mLst, Opd.get, Opd.toV, mTest, mTestB, asBl, mAndT, mOrT, mNotT, mIf, mAnd, mOr, mNot, truth, mSeq, mZip, mEnum, mRng1, mRng2, mCall, mCallR, mCallT, mCallK, RV.opd, itemsAt, putAt, Slot.items, Slot.put, bindT, setFzs, mYes, mFix, fixO, mSl, mP, mNoP, sSl1L, asInt1, d1]) (by simp [ownOk, Slot.mine]) (by simp [wipeR, Src.items, Opd.get, asL]; exact hz) (by rw [List.length_zip]; omega) (fun a b e => by
      obtain ⟨⟨a1, a2⟩, a3, a4⟩ := a
      obtain ⟨⟨b1, b2⟩, b3, b4⟩ := b
      simp at e ⊢
      omega) (fun p hp => by
      refine ⟨[.fz (.lst (lP A)), .fz (pD p.1), .fz (pD p.2)], by simp [bindT, setFzs, setSlot, RV.slot, wipeR], by simp [ownOk, Slot.mine], by simp [wipeR], rfl, fun _ => ?_⟩
      have := dEq_pair p.1 p.2
      simp [R.fl, R.bind, R.of, gNext_ap, gSeq, gIf, gExpr, gPar, gSet, gUn, gRet, gFor, put, convs, setAll, setSlot, RV.slot, retO, Fl.out, slot0, mNm, mC, mV, mO, mCons, mNil, mBin, mUn, gets, mB, mTup, mLst, Opd.get, Opd.toV, mTest, mTestB, asBl, mAndT, mOrT, mNotT, mIf, mAnd, mOr, mNot, truth, mSeq, mZip, mEnum, mRng1, mRng2, mCall, mCallR, mCallT, mCallK, RV.opd, itemsAt, putAt, Slot.items, Slot.put, bindT, setFzs, mYes, mFix, fixO, mSl, mP, mNoP, sNe, this])
  rw [filter_yes] at hc
  have e := all_bl (fun p : (Int × Int) × (Int × Int) => !decide (p.1 = p.2)) (A.zip A.tail)
  rw [all_adjP (fun p q => !decide (p = q)) A, hA] at e
  simp [g_all_unlike, R.fl, R.bind, R.of, gNext_ap, gSeq, gIf, gExpr, gPar, gSet, gUn, gRet, gFor, put, convs, setAll, setSlot, RV.slot, retO, Fl.out, slot0, mNm, mC, mV, mO, mCons, mNil, mBin, mUn, gets, mB, mTup, mLst, Opd.get, Opd.toV, mTest, mTestB, asBl, mAndT, mOrT, mNotT, mIf, mAnd, mOr, mNot, truth, mSeq, mZip, mEnum, mRng1, mRng2, mCall, mCallR, mCallT, mCallK, RV.opd, itemsAt, putAt, Slot.items, Slot.put, bindT, setFzs, mYes, mFix, fixO, mSl, mP, mNoP, hc, e]
end DL
namespace DL
open PySem PySem.Spec PyProof.Rows L2
/-! ### an order of the things -/
def ableOf (A : List (Int × Int)) (left : List Int) : List Int := left.filter fun x => !(A.any fun p => decide (p.2 = x) && decide (p.1 ∈ left))
theorem able_some {A : List (Int × Int)} {left : List Int} (h : left ≠ []) {r : Int → Nat} (hr : ∀ p ∈ A, r p.1 < r p.2) : ableOf A left ≠ [] := by
  have key : ∀ k, (∃ x ∈ left, r x ≤ k) → ableOf A left ≠ [] := by
    intro k
    induction k using Nat.strongRecOn with
    | ind k ih =>
      rintro ⟨x, hx, hk⟩
      by_cases hb : (A.any fun p => decide (p.2 = x) && decide (p.1 ∈ left)) = true
      · obtain ⟨p, hp, h2⟩ := List.any_eq_true.mp hb
        simp only [Bool.and_eq_true, decide_eq_true_eq] at h2
        have := hr p hp
        rw [h2.1] at this
        exact ih (r p.1) (by omega) ⟨p.1, h2.2, Nat.le_refl _⟩
      · intro e
        have : x ∈ ableOf A left := List.mem_filter.mpr ⟨hx, by simp only [Bool.not_eq_true] at hb; rw [hb]; rfl⟩
        rw [e] at this; cases this
  cases left with
  | nil => exact absurd rfl h
  | cons x l => exact key (r x) ⟨x, List.mem_cons_self, Nat.le_refl _⟩
def stO (n : Nat) (A : List (Int × Int)) (found left : List Int) (s4 s5 : Slot) : Rho := [.fz (.int n), .fz (.lst (lP A)), .own (lI found), .own (lI left), s4, s5, .un, .un]
theorem order_inner {n : Nat} {A : List (Int × Int)} {found left : List Int} {s4 : Slot} {x : Int} (hl : A.length ≤ 1000000) :
    mComp (mSeq (mNm 1)) [6, 7] (.tup [6, 7]) mYes (mV (mAnd (mBin sEq (mNm 7) (mNm 5)) (mBin sIn (mNm 6) (mNm 3)))) (stO n A found left s4 (.fz (.int x))) = .ok (.tmp (A.map fun p => .bl (decide (p.2 = x) && decide (p.1 ∈ left)))) (stO n A found left s4 (.fz (.int x))) := by
  have hc := comp_enc (ms := mSeq (mNm 1)) (own := [6, 7]) (t := .tup [6, 7]) (test := mYes) (elt := mV (mAnd (mBin sEq (mNm 7) (mNm 5)) (mBin sIn (mNm 6) (mNm 3)))) (ρ := stO n A found left s4 (.fz (.int x))) (ρ1 := stO n A found left s4 (.fz (.int x))) (src := .seqL (.nm 1)) (xs := A) (en := pD) (fun _ => true) (fun p => .bl (decide (p.2 = x) && decide (p.1 ∈ left)))
    (by simp [stO, R.fl, R.bind, R.of, gNext_ap, gSeq, gIf, gExpr, gPar, gSet, gUn, gRet, gFor, put, convs, setAll, setSlot, RV.slot, retO, Fl.out, slot0, mNm, mC, mV, mO, mCons, mNil, mBin, mUn, gets, mB, mTup, mLst, Opd.get, Opd.toV, mTest, mTestB, asBl, mAndT, mOrT, mNotT, mIf, mAnd, mOr, mNot, truth, mSeq, mZip, mEnum, mRng1, mRng2, mCall, mCallR, mCallT, mCallK, RV.opd, itemsAt, putAt, Slot.items, Slot.put, bindT, setFzs, mYes, mFix, fixO, mSl, mP, mNoP]) (by simp [stO, ownOk, Slot.mine]) (by simp [stO, wipeR, Src.items, Opd.get, asL]; rfl) hl (fun a b e => by
      obtain ⟨a1, a2⟩ := a
      obtain ⟨b1, b2⟩ := b
      simpa using e) (fun p hp => by
      refine ⟨[.fz (.int n), .fz (.lst (lP A)), .own (lI found), .own (lI left), s4, .fz (.int x), .fz (.int p.1), .fz (.int p.2)], by simp [stO, bindT, setFzs, setSlot, RV.slot, wipeR], by simp [ownOk, Slot.mine], by simp [stO, wipeR], rfl, fun _ => ?_⟩
      by_cases hx : p.2 = x <;> simp [R.fl, R.bind, R.of, gNext_ap, gSeq, gIf, gExpr, gPar, gSet, gUn, gRet, gFor, put, convs, setAll, setSlot, RV.slot, retO, Fl.out, slot0, mNm, mC, mV, mO, mCons, mNil, mBin, mUn, gets, mB, mTup, mLst, Opd.get, Opd.toV, mTest, mTestB, asBl, mAndT, mOrT, mNotT, mIf, mAnd, mOr, mNot, truth, mSeq, mZip, mEnum, mRng1, mRng2, mCall, mCallR, mCallT, mCallK, RV.opd, itemsAt, putAt, Slot.items, Slot.put, bindT, setFzs, mYes, mFix, fixO, mSl, mP, mNoP, sEq, sIn, hx])
  rw [filter_yes] at hc
  exact hc
theorem order_outer {n : Nat} {A : List (Int × Int)} {found left : List Int} {s4 : Slot} (hl : A.length ≤ 1000000) (hl2 : left.length ≤ 1000000) :
    mComp (mSeq (mNm 3)) [5] (.nm 5) (mNotT (mTest (mB bAny (mCons (mComp (mSeq (mNm 1)) [6, 7] (.tup [6, 7]) mYes (mV (mAnd (mBin sEq (mNm 7) (mNm 5)) (mBin sIn (mNm 6) (mNm 3))))) mNil)))) (mV (mNm 5)) (stO n A found left s4 .un) = .ok (.tmp (lI (ableOf A left))) (stO n A found left s4 .un) := by
  refine comp_enc (src := .seqL (.nm 3)) (xs := left) (en := D.int) (fun x => !(A.any fun p => decide (p.2 = x) && decide (p.1 ∈ left))) D.int (by simp [stO, R.fl, R.bind, R.of, gNext_ap, gSeq, gIf, gExpr, gPar, gSet, gUn, gRet, gFor, put, convs, setAll, setSlot, RV.slot, retO, Fl.out, slot0, mNm, mC, mV, mO, mCons, mNil, mBin, mUn, gets, mB, mTup, mLst, Opd.get, Opd.toV, mTest, mTestB, asBl, mAndT, mOrT, mNotT, mIf, mAnd, mOr, mNot, truth, mSeq, mZip, mEnum, mRng1, mRng2, mCall, mCallR, mCallT, mCallK, RV.opd, itemsAt, putAt, Slot.items, Slot.put, bindT, setFzs, mYes, mFix, fixO, mSl, mP, mNoP]) (by simp [stO, ownOk, Slot.mine]) (by simp [stO, wipeR, Src.items, Opd.get, asL]; rfl) hl2 (fun a b e => by simpa using e) (fun x hx => ?_)
  refine ⟨stO n A found left s4 (.fz (.int x)), by simp [stO, bindT, setSlot, RV.slot, wipeR], by simp [stO, ownOk, Slot.mine], by simp [stO, wipeR], ?_, fun _ => by simp [stO, R.fl, R.bind, R.of, gNext_ap, gSeq, gIf, gExpr, gPar, gSet, gUn, gRet, gFor, put, convs, setAll, setSlot, RV.slot, retO, Fl.out, slot0, mNm, mC, mV, mO, mCons, mNil, mBin, mUn, gets, mB, mTup, mLst, Opd.get, Opd.toV, mTest, mTestB, asBl, mAndT, mOrT, mNotT, mIf, mAnd, mOr, mNot, truth, mSeq, mZip, mEnum, mRng1, mRng2, mCall, mCallR, mCallT, mCallK, RV.opd, itemsAt, putAt, Slot.items, Slot.put, bindT, setFzs, mYes, mFix, fixO, mSl, mP, mNoP]⟩
  have e := any_bl (fun p : Int × Int => decide (p.2 = x) && decide (p.1 ∈ left)) A
  simp only [mNotT, mTest, mB, mCons, mNil, order_inner hl, R.bind_ok, gets, Opd.get, Option.bind_some, e, R.of_some, truth]
theorem order_of_eq {n : Nat} {A : List (Int × Int)} (hn : n ≤ 1000) (hl : A.length ≤ 1000000) {r : Int → Nat} (hr : ∀ p ∈ A, r p.1 < r p.2) : ∃ found s, m_order_of (.fz (.int n)) [.lst (lP A)] = .ok (.own (lI found)) s := by
  show ∃ found s, (g_order_of [.fz (.int n), .fz (.lst (lP A)), .un, .un, .un, .un, .un, .un]).out = _
  have hw := while_inv (t := mTestB (mBin sNe (mNm 3) (mLst mNil))) (g := gSeq (gSet false 4 (mComp (mSeq (mNm 3)) [5] (.nm 5) (mNotT (mTest (mB bAny (mCons (mComp (mSeq (mNm 1)) [6, 7] (.tup [6, 7]) mYes (mV (mAnd (mBin sEq (mNm 7) (mNm 5)) (mBin sIn (mNm 6) (mNm 3))))) mNil)))) (mV (mNm 5))))
      (gSeq (gIf (mTestB (mBin sEq (mNm 4) (mLst mNil))) (gRet (mC .non)) gNext)
      (gSeq (gExpr (mAppend 2 (mV (mBin sIxD (mNm 4) (mC (.int (0))))))) (gExpr (mRemove 3 (mBin sIxD (mNm 4) (mC (.int (0)))))))))
    (fun k ρ => ∃ found left s4, ρ = stO n A found left s4 .un ∧ k = left.length ∧ found.length + left.length ≤ 1000 ∧ (s4 = .un ∨ ∃ d, s4 = .fz d)) (fun fl => ∃ found s4, fl = .nx (stO n A found [] s4 .un)) (fun ⟨_, _, z⟩ => by cases z)
    (fun k ρ ⟨found, left, s4, hρ, hk, hlen, h4⟩ => by
      subst hρ
      by_cases hn : left = []
      · subst hn
        exact .inl ⟨stO n A found [] s4 .un, by simp [R.fl, R.bind, R.of, gNext_ap, gSeq, gIf, gExpr, gPar, gSet, gUn, gRet, gFor, put, convs, setAll, setSlot, RV.slot, retO, Fl.out, slot0, mNm, mC, mV, mO, mCons, mNil, mBin, mUn, gets, mB, mTup, mLst, Opd.get, Opd.toV, mTest, mTestB, asBl, mAndT, mOrT, mNotT, mIf, mAnd, mOr, mNot, truth, mSeq, mZip, mEnum, mRng1, mRng2, mCall, mCallR, mCallT, mCallK, RV.opd, itemsAt, putAt, Slot.items, Slot.put, bindT, setFzs, mYes, mFix, fixO, mSl, mP, mNoP, stO, sNe], found, s4, rfl⟩
      · refine .inr ⟨stO n A found left s4 .un, by simp [R.fl, R.bind, R.of, gNext_ap, gSeq, gIf, gExpr, gPar, gSet, gUn, gRet, gFor, put, convs, setAll, setSlot, RV.slot, retO, Fl.out, slot0, mNm, mC, mV, mO, mCons, mNil, mBin, mUn, gets, mB, mTup, mLst, Opd.get, Opd.toV, mTest, mTestB, asBl, mAndT, mOrT, mNotT, mIf, mAnd, mOr, mNot, truth, mSeq, mZip, mEnum, mRng1, mRng2, mCall, mCallR, mCallT, mCallK, RV.opd, itemsAt, putAt, Slot.items, Slot.put, bindT, setFzs, mYes, mFix, fixO, mSl, mP, mNoP, stO, sNe, hn], .inl ?_⟩
        have ha := able_some hn hr
        obtain ⟨x, rest, hx⟩ : ∃ x rest, ableOf A left = x :: rest := by
          cases e : ableOf A left with
          | nil => exact absurd e ha
          | cons x rest => exact ⟨x, rest, rfl⟩
        have hm : x ∈ left := (List.mem_filter.mp (by rw [show left.filter _ = ableOf A left from rfl, hx]; exact List.mem_cons_self)).1
        have hle := List.length_erase_of_mem hm
        have hpos : 0 < left.length := List.length_pos_iff.mpr hn
        refine ⟨stO n A (found ++ [x]) (left.erase x) (.fz (.lst (lI (ableOf A left)))) .un, (left.erase x).length, .inl ?_, by omega, _, _, _, rfl, rfl, by simp; omega, .inr ⟨_, rfl⟩⟩
        have ho := order_outer (n := n) (found := found) (left := left) (s4 := s4) hl (by omega)
        have c3 : found.length < 1000000 := by omega
        have e2 : dEq (.lst (.int x :: lI rest)) (.lst []) = some false := by simpa using dEq_ints (x :: rest) []
        rw [hx] at ho ⊢
        rcases h4 with rfl | ⟨d4, rfl⟩
        · simp only [stO] at ho ⊢
          simp [ho, mAppend, mRemove, R.fl, R.bind, R.of, gNext_ap, gSeq, gIf, gExpr, gPar, gSet, gUn, gRet, gFor, put, convs, setAll, setSlot, RV.slot, retO, Fl.out, slot0, mNm, mC, mV, mO, mCons, mNil, mBin, mUn, gets, mB, mTup, mLst, Opd.get, Opd.toV, mTest, mTestB, asBl, mAndT, mOrT, mNotT, mIf, mAnd, mOr, mNot, truth, mSeq, mZip, mEnum, mRng1, mRng2, mCall, mCallR, mCallT, mCallK, RV.opd, itemsAt, putAt, Slot.items, Slot.put, bindT, setFzs, mYes, mFix, fixO, mSl, mP, mNoP, sEq, e2, hm, c3, lI_app]
          rfl
        · simp only [stO] at ho ⊢
          simp [ho, mAppend, mRemove, R.fl, R.bind, R.of, gNext_ap, gSeq, gIf, gExpr, gPar, gSet, gUn, gRet, gFor, put, convs, setAll, setSlot, RV.slot, retO, Fl.out, slot0, mNm, mC, mV, mO, mCons, mNil, mBin, mUn, gets, mB, mTup, mLst, Opd.get, Opd.toV, mTest, mTestB, asBl, mAndT, mOrT, mNotT, mIf, mAnd, mOr, mNot, truth, mSeq, mZip, mEnum, mRng1, mRng2, mCall, mCallR, mCallT, mCallK, RV.opd, itemsAt, putAt, Slot.items, Slot.put, bindT, setFzs, mYes, mFix, fixO, mSl, mP, mNoP, sEq, e2, hm, c3, lI_app]
          rfl)
    (n := n) (ρ := stO n A [] (ids n) .un .un) ⟨[], ids n, .un, rfl, (ids_len n).symm, by simp [ids_len]; exact hn, .inl rfl⟩
  obtain ⟨found, s4, e⟩ := hw
  refine ⟨found, .fz (.int n), ?_⟩
  simp [g_order_of, R.fl, R.bind, R.of, gNext_ap, gSeq, gIf, gExpr, gPar, gSet, gUn, gRet, gFor, put, convs, setAll, setSlot, RV.slot, retO, Fl.out, slot0, mNm, mC, mV, mO, mCons, mNil, mBin, mUn, gets, mB, mTup, mLst, Opd.get, Opd.toV, mTest, mTestB, asBl, mAndT, mOrT, mNotT, mIf, mAnd, mOr, mNot, truth, mSeq, mZip, mEnum, mRng1, mRng2, mCall, mCallR, mCallT, mCallK, RV.opd, itemsAt, putAt, Slot.items, Slot.put, bindT, setFzs, mYes, mFix, fixO, mSl, mP, mNoP, sRng_eq hn]
  have e' := e
  simp only [stO, lI_nil] at e'
  rw [e']
  simp
end DL
namespace DL
open PySem PySem.Spec PyProof.Rows L2
theorem are_unlike_eq {n : Nat} {A : List (Int × Int)} (hn : n ≤ 1000) (hl : A.length ≤ 1000000) (hA : adjP (fun p q => !decide (p = q)) A = true) {r : Int → Nat} (hr : ∀ p ∈ A, r p.1 < r p.2) : m_are_unlike (.fz (.int n)) [.lst (lP A)] = .ok (.fz (.bl true)) (.fz (.int n)) := by
  show (g_are_unlike [.fz (.int n), .fz (.lst (lP A))]).out = _
  obtain ⟨found, s, e⟩ := order_of_eq hn hl hr
  simp [g_are_unlike, R.fl, R.bind, R.of, gNext_ap, gSeq, gIf, gExpr, gPar, gSet, gUn, gRet, gFor, put, convs, setAll, setSlot, RV.slot, retO, Fl.out, slot0, mNm, mC, mV, mO, mCons, mNil, mBin, mUn, gets, mB, mTup, mLst, Opd.get, Opd.toV, mTest, mTestB, asBl, mAndT, mOrT, mNotT, mIf, mAnd, mOr, mNot, truth, mSeq, mZip, mEnum, mRng1, mRng2, mCall, mCallR, mCallT, mCallK, RV.opd, itemsAt, putAt, Slot.items, Slot.put, bindT, setFzs, mYes, mFix, fixO, mSl, mP, mNoP, all_unlike_eq hl hA, e, sIsN, D.isNon]
theorem adjP_of {r : Int × Int → Int × Int → Bool} : ∀ {xs : List (Int × Int)}, xs.Pairwise (fun p q => r p q = true) → adjP r xs = true
  | [], _ => rfl
  | [_], _ => rfl
  | x :: y :: l, h => by
    cases h with
    | cons h1 h2 =>
      show (r x y && adjP r (y :: l)) = true
      rw [h1 y List.mem_cons_self, adjP_of h2]; rfl
theorem adj_ne {xs : List (Int × Int)} (h : xs.Nodup) : adjP (fun p q => !decide (p = q)) xs = true := adjP_of (h.imp fun {a b} z => by simp [z])
theorem sortP_id {A : List (Int × Int)} (h : A.Pairwise fun p q => leP p q = true) : sortP A = A := List.mergeSort_of_pairwise h
theorem sortP_rev {A : List (Int × Int)} (h : A.Pairwise fun p q => leP p q = true) : sortP A.reverse = A := by
  refine List.Perm.eq_of_pairwise (le := fun p q => leP p q = true) (fun a b _ _ h1 h2 => leP_anti h1 h2) (List.pairwise_mergeSort leP_trans leP_total _) h ?_
  exact (List.mergeSort_perm _ _).trans (List.reverse_perm _)
theorem lP_rev (A : List (Int × Int)) : (lP A).reverse = lP A.reverse := List.map_reverse.symm
def planD (n : Nat) (A T : List (Int × Int)) : D := .ins "Plan" [("own_width", .int n), ("own_arrows", .lst (lP A)), ("own_ties", .lst (lP T))]
theorem k12 : ¬ (("own_width" : Str) = "own_arrows") := by decide +kernel
theorem k13 : ¬ (("own_width" : Str) = "own_ties") := by decide +kernel
theorem k23 : ¬ (("own_arrows" : Str) = "own_ties") := by decide +kernel
theorem put1 (d : D) : putD ("own_width" : Str) d [] = [(("own_width" : Str), d)] := rfl
theorem put2 (d e : D) : putD ("own_arrows" : Str) e [(("own_width" : Str), d)] = [(("own_width" : Str), d), (("own_arrows" : Str), e)] := by
  unfold putD; rw [if_neg k12]; rfl
theorem put3 (d e f : D) : putD ("own_ties" : Str) f [(("own_width" : Str), d), (("own_arrows" : Str), e)] = [(("own_width" : Str), d), (("own_arrows" : Str), e), (("own_ties" : Str), f)] := by
  unfold putD; rw [if_neg k13]; unfold putD; rw [if_neg k23]; rfl
theorem look2 (d e : D) : List.lookup ("own_arrows" : Str) [(("own_width" : Str), d), ("own_arrows", e)] = some e := by
  have h1 : (("own_arrows" : Str) == ("own_width" : Str)) = false := by decide +kernel
  have h2 : (("own_arrows" : Str) == ("own_arrows" : Str)) = true := by decide +kernel
  simp [List.lookup, h1, h2]
theorem look3 (d e f : D) : List.lookup ("own_ties" : Str) [(("own_width" : Str), d), ("own_arrows", e), ("own_ties", f)] = some f := by
  have h1 : (("own_ties" : Str) == ("own_width" : Str)) = false := by decide +kernel
  have h2 : (("own_ties" : Str) == ("own_arrows" : Str)) = false := by decide +kernel
  have h3 : (("own_ties" : Str) == ("own_ties" : Str)) = true := by decide +kernel
  simp [List.lookup, h1, h2, h3]
theorem gw_arr {n : Nat} {A T : List (Int × Int)} (G : Gw n A T) : (∀ p ∈ A, Arr n p) ∧ ∀ p ∈ T, Arr n p ∧ p.1 < p.2 := by
  refine ⟨fun p hp => ⟨(G.aIn p hp).1, (G.aIn p hp).2, fun z => ?_⟩, fun p hp => ?_⟩
  · obtain ⟨r, hr⟩ := G.aRk
    have := hr p hp
    rw [z] at this
    omega
  · have := G.tIn p hp
    exact ⟨⟨by omega, by omega, by omega⟩, by omega⟩
theorem init_eq {n : Nat} {A T A' T' : List (Int × Int)} {va vt : D} (hn : n ≤ 6) (G : Gw n A T) (ha : seqOf va = some (lP A')) (ht : seqOf vt = some (lP T')) (hA : sortP A' = A) (hT : sortP T' = T) (lA : A'.length ≤ 1000000) (lT : T'.length ≤ 1000000) :
    m_Plan_init (.obj "Plan" []) [.int n, va, vt] = .ok (.fz .non) (.obj "Plan" [("own_width", .int n), ("own_arrows", .lst (lP A)), ("own_ties", .lst (lP T))]) := by
  show (g_Plan_init [.obj "Plan" [], .fz (.int n), .fz va, .fz vt]).out = _
  have pA : ∀ p ∈ A', p ∈ A := fun p hp => by rw [← hA]; exact (List.mergeSort_perm _ _).mem_iff.mpr hp
  have pT : ∀ p ∈ T', p ∈ T := fun p hp => by rw [← hT]; exact (List.mergeSort_perm _ _).mem_iff.mpr hp
  obtain ⟨gA, gT⟩ := gw_arr G
  have e1 := arrows_in_eq (n := n) ha (fun p hp => gA p (pA p hp)) lA
  have e2 := ties_in_eq (n := n) ht (fun p hp => gT p (pT p hp)) lT
  rw [hA] at e1
  rw [hT] at e2
  obtain ⟨r, hr⟩ := G.aRk
  have lA2 : A.length ≤ 1000000 := by rw [← hA]; simpa [sortP] using lA
  have lT2 : T.length ≤ 1000000 := by rw [← hT]; simpa [sortP] using lT
  have e3 := are_unlike_eq (n := n) (by omega) lA2 (adj_ne G.aNd) hr
  have e4 := all_unlike_eq lT2 (adj_ne G.tNd)
  have e5 := is_count_eq (d := .int n) trivial
  have e6 : isC clsL "Known" (.int n) = some (.val (.bl false)) := rfl
  have h6 : ¬ ((6 : Int) < n) := by omega
  have h0 : (0 : Int) ≤ n := by omega
  simp only [h0, decide_true] at e5
  simp [g_Plan_init, R.fl, R.bind, R.of, gNext_ap, gSeq, gIf, gExpr, gPar, gSet, gUn, gRet, gFor, put, convs, setAll, setSlot, RV.slot, retO, Fl.out, slot0, mNm, mC, mV, mO, mCons, mNil, mBin, mUn, gets, mB, mTup, mLst, Opd.get, Opd.toV, mTest, mTestB, asBl, mAndT, mOrT, mNotT, mIf, mAnd, mOr, mNot, truth, mSeq, mZip, mEnum, mRng1, mRng2, mCall, mCallR, mCallT, mCallK, RV.opd, itemsAt, putAt, Slot.items, Slot.put, bindT, setFzs, mYes, mFix, fixO, mSl, mP, mNoP, gFldO, mFldO, e1, e2, e3, e4, e5, e6, sGt, h6, put1, put2, put3, look2, look3, sIs, D.isNon]
theorem made_eq {xs : List D} {n : Nat} {A T : List (Int × Int)} (h : Pot xs) (hn : n ≤ 6) (G : Gw n A T) (lA : A.length ≤ 1000000) (lT : T.length ≤ 1000000) : ∃ xs', Pot xs' ∧ m_f_law_made (.ref xs) [worldD n A T] = .ok (.fz (planD n A T)) (.ref xs') := by
  show ∃ xs', Pot xs' ∧ (g_f_law_made [.ref xs, .fz (worldD n A T), .un, .un]).out = _
  obtain ⟨e, ys, hp, h0, h1, hd⟩ := draw_eq (z := 2) h (by decide) (by decide)
  refine ⟨ys, hp, ?_⟩
  have i0 : sIxD (worldD n A T) (.int 0) = some (.val (.int n)) := by unfold worldD; simp
  have i1 : sIxD (worldD n A T) (.int 1) = some (.val (.lst (lP A))) := rfl
  have i2 : sIxD (worldD n A T) (.int 2) = some (.val (.lst (lP T))) := rfl
  by_cases he : e = 0
  · subst he
    have ei := init_eq (va := .lst (lP A.reverse)) (vt := .tup (lP T)) hn G rfl rfl (sortP_rev G.aSo) (sortP_id G.tSo) (by simpa using lA) lT
    simp [g_f_law_made, R.fl, R.bind, R.of, gNext_ap, gSeq, gIf, gExpr, gPar, gSet, gUn, gRet, gFor, put, convs, setAll, setSlot, RV.slot, retO, Fl.out, slot0, mNm, mC, mV, mO, mCons, mNil, mBin, mUn, gets, mB, mTup, mLst, Opd.get, Opd.toV, mTest, mTestB, asBl, mAndT, mOrT, mNotT, mIf, mAnd, mOr, mNot, truth, mSeq, mZip, mEnum, mRng1, mRng2, mCall, mCallR, mCallT, mCallK, RV.opd, itemsAt, putAt, Slot.items, Slot.put, bindT, setFzs, mYes, mFix, fixO, mSl, mP, mNoP, i0, i1, i2, bList, bTuple, hd, sEq, sRev, lP_rev, mMake, ei, planD]
  · have ei := init_eq (va := .lst (lP A)) (vt := .lst (lP T)) hn G rfl rfl (sortP_id G.aSo) (sortP_id G.tSo) lA lT
    simp [g_f_law_made, R.fl, R.bind, R.of, gNext_ap, gSeq, gIf, gExpr, gPar, gSet, gUn, gRet, gFor, put, convs, setAll, setSlot, RV.slot, retO, Fl.out, slot0, mNm, mC, mV, mO, mCons, mNil, mBin, mUn, gets, mB, mTup, mLst, Opd.get, Opd.toV, mTest, mTestB, asBl, mAndT, mOrT, mNotT, mIf, mAnd, mOr, mNot, truth, mSeq, mZip, mEnum, mRng1, mRng2, mCall, mCallR, mCallT, mCallK, RV.opd, itemsAt, putAt, Slot.items, Slot.put, bindT, setFzs, mYes, mFix, fixO, mSl, mP, mNoP, i0, i1, i2, bList, bTuple, hd, sEq, he, sRev, lP_rev, mMake, ei, planD]
end DL
namespace DL
open PySem PySem.Spec PyProof.Rows L2
/-! ### roads to a thing -/
inductive Rch (A : List (Int × Int)) (l : List Int) (t : Int) : Int → Prop
  | base : Rch A l t t
  | step {x y : Int} : Rch A l t y → (x, y) ∈ A → x ∈ l → Rch A l t x
open Classical in
noncomputable def rs (A : List (Int × Int)) (l : List Int) (t : Int) : List Int := l.filter fun x => decide (Rch A l t x)
def Inc (l : List Int) : Prop := l.Pairwise (· < ·)
theorem Inc.nodup {l : List Int} (h : Inc l) : l.Nodup := h.imp fun {a b} z => by omega
theorem Rch.inl {A : List (Int × Int)} {l : List Int} {t x : Int} (ht : t ∈ l) (h : Rch A l t x) : x ∈ l := by
  cases h with
  | base => exact ht
  | step _ _ h => exact h
abbrev sortI (xs : List Int) : List Int := xs.mergeSort fun a b => decide (a ≤ b)
theorem rs_of {A : List (Int × Int)} {l found : List Int} {t : Int} (hl : Inc l) (ht : t ∈ l) (nd : found.Nodup) (h : ∀ x, x ∈ found ↔ Rch A l t x) : sortI found = rs A l t := by
  classical
  refine List.Perm.eq_of_pairwise (le := fun a b => a ≤ b) (fun a b _ _ h1 h2 => by omega) ?_ ?_ ?_
  · have := List.pairwise_mergeSort (le := fun a b : Int => decide (a ≤ b)) (fun a b c h1 h2 => by simp at *; omega) (fun a b => by simp; omega) found
    exact this.imp fun {a b} z => by simpa using z
  · exact (List.Pairwise.filter _ hl).imp fun {a b} z => by omega
  · refine (List.mergeSort_perm _ _).trans ((List.perm_ext_iff_of_nodup nd (List.Pairwise.filter _ hl.nodup)).mpr fun x => ?_)
    rw [List.mem_filter, decide_eq_true_iff, h x]
    exact ⟨fun z => ⟨z.inl ht, z⟩, fun z => z.2⟩
theorem nd_len {l found : List Int} (nd : found.Nodup) (sub : ∀ x ∈ found, x ∈ l) : found.length ≤ l.length := by
  induction found generalizing l with
  | nil => simp
  | cons x xs ih =>
    have hx := sub x List.mem_cons_self
    have := ih (l := l.erase x) (List.nodup_cons.mp nd).2 fun y hy => (List.mem_erase_of_ne fun z => by subst z; exact (List.nodup_cons.mp nd).1 hy).mpr (sub y (List.mem_cons_of_mem _ hy))
    rw [List.length_erase_of_mem hx] at this
    have hp : 0 < l.length := List.length_pos_of_mem hx
    simp only [List.length_cons]
    omega
/-- all that reach a thing of found in one step are in found -/
theorem closed_all {A : List (Int × Int)} {l found : List Int} {t : Int} (h0 : t ∈ found) (hc : ∀ x y, (x, y) ∈ A → y ∈ found → x ∈ l → x ∈ found) : ∀ x, Rch A l t x → x ∈ found := by
  intro x h
  induction h with
  | base => exact h0
  | step _ h1 h2 ih => exact hc _ _ h1 ih h2
def lateOf (A : List (Int × Int)) (l found fresh : List Int) : List Int := (A.filter fun p => decide (p.2 ∈ fresh) && (decide (p.1 ∈ l) && !decide (p.1 ∈ found))).map (·.1)
def freshOf (l late : List Int) : List Int := l.filter fun x => decide (x ∈ late)
def stL (A : List (Int × Int)) (l : List Int) (t : Int) (found fresh : List Int) (s5 : Slot) : Rho := [.fz (.lst (lP A)), .fz (.lst (lI l)), .fz (.int t), .fz (.lst (lI found)), .fz (.lst (lI fresh)), s5, .un, .un, .un]
theorem lI_map {α : Type} (f : α → Int) (xs : List α) : xs.map (fun x => D.int (f x)) = lI (xs.map f) := by unfold lI; rw [List.map_map]; rfl
theorem late_eq {A : List (Int × Int)} {l found fresh : List Int} {t : Int} {s5 : Slot} (hl : A.length ≤ 1000000) :
    mComp (mSeq (mNm 0)) [6, 7] (.tup [6, 7]) (mAndT (mTestB (mBin sIn (mNm 7) (mNm 4))) (mAndT (mTestB (mBin sIn (mNm 6) (mNm 1))) (mTestB (mBin sNin (mNm 6) (mNm 3))))) (mV (mNm 6)) (stL A l t found fresh s5) = .ok (.tmp (lI (lateOf A l found fresh))) (stL A l t found fresh s5) := by
  have hc := comp_enc (ms := mSeq (mNm 0)) (own := [6, 7]) (t := .tup [6, 7]) (test := mAndT (mTestB (mBin sIn (mNm 7) (mNm 4))) (mAndT (mTestB (mBin sIn (mNm 6) (mNm 1))) (mTestB (mBin sNin (mNm 6) (mNm 3))))) (elt := mV (mNm 6)) (ρ := stL A l t found fresh s5) (ρ1 := stL A l t found fresh s5) (src := .seqL (.nm 0)) (xs := A) (en := pD) (fun p => decide (p.2 ∈ fresh) && (decide (p.1 ∈ l) && !decide (p.1 ∈ found))) (fun p => .int p.1)
    (by simp [stL, R.fl, R.bind, R.of, gNext_ap, gSeq, gIf, gExpr, gPar, gSet, gUn, gRet, gFor, put, convs, setAll, setSlot, RV.slot, retO, Fl.out, slot0, mNm, mC, mV, mO, mCons, mNil, mBin, mUn, gets, mB, mTup, mLst, Opd.get, Opd.toV, mTest, mTestB, asBl, mAndT, mOrT, mNotT, mIf, mAnd, mOr, mNot, truth, mSeq, mZip, mEnum, mRng1, mRng2, mCall, mCallR, mCallT, mCallK, RV.opd, itemsAt, putAt, Slot.items, Slot.put, bindT, setFzs, mYes, mFix, fixO, mSl, mP, mNoP]) (by simp [stL, ownOk, Slot.mine]) (by simp [stL, wipeR, Src.items, Opd.get, asL]; rfl) hl (fun a b e => by
      obtain ⟨a1, a2⟩ := a
      obtain ⟨b1, b2⟩ := b
      simpa using e) (fun p hp => by
      refine ⟨[.fz (.lst (lP A)), .fz (.lst (lI l)), .fz (.int t), .fz (.lst (lI found)), .fz (.lst (lI fresh)), s5, .fz (.int p.1), .fz (.int p.2), .un], by simp [stL, bindT, setFzs, setSlot, RV.slot, wipeR], by simp [ownOk, Slot.mine], by simp [stL, wipeR], ?_, fun _ => by simp [R.fl, R.bind, R.of, gNext_ap, gSeq, gIf, gExpr, gPar, gSet, gUn, gRet, gFor, put, convs, setAll, setSlot, RV.slot, retO, Fl.out, slot0, mNm, mC, mV, mO, mCons, mNil, mBin, mUn, gets, mB, mTup, mLst, Opd.get, Opd.toV, mTest, mTestB, asBl, mAndT, mOrT, mNotT, mIf, mAnd, mOr, mNot, truth, mSeq, mZip, mEnum, mRng1, mRng2, mCall, mCallR, mCallT, mCallK, RV.opd, itemsAt, putAt, Slot.items, Slot.put, bindT, setFzs, mYes, mFix, fixO, mSl, mP, mNoP]⟩
      by_cases h1 : p.2 ∈ fresh <;> by_cases h2 : p.1 ∈ l <;> simp [R.fl, R.bind, R.of, gNext_ap, gSeq, gIf, gExpr, gPar, gSet, gUn, gRet, gFor, put, convs, setAll, setSlot, RV.slot, retO, Fl.out, slot0, mNm, mC, mV, mO, mCons, mNil, mBin, mUn, gets, mB, mTup, mLst, Opd.get, Opd.toV, mTest, mTestB, asBl, mAndT, mOrT, mNotT, mIf, mAnd, mOr, mNot, truth, mSeq, mZip, mEnum, mRng1, mRng2, mCall, mCallR, mCallT, mCallK, RV.opd, itemsAt, putAt, Slot.items, Slot.put, bindT, setFzs, mYes, mFix, fixO, mSl, mP, mNoP, sIn, sNin, h1, h2])
  rw [hc, lI_map]; rfl
theorem fresh_eq {A : List (Int × Int)} {l found fresh late : List Int} {t : Int} (hl : l.length ≤ 1000000) :
    mComp (mSeq (mNm 1)) [8] (.nm 8) (mTestB (mBin sIn (mNm 8) (mNm 5))) (mV (mNm 8)) (stL A l t found fresh (.fz (.lst (lI late)))) = .ok (.tmp (lI (freshOf l late))) (stL A l t found fresh (.fz (.lst (lI late)))) := by
  have hc := comp_enc (ms := mSeq (mNm 1)) (own := [8]) (t := .nm 8) (test := mTestB (mBin sIn (mNm 8) (mNm 5))) (elt := mV (mNm 8)) (ρ := stL A l t found fresh (.fz (.lst (lI late)))) (ρ1 := stL A l t found fresh (.fz (.lst (lI late)))) (src := .seqL (.nm 1)) (xs := l) (en := D.int) (fun x => decide (x ∈ late)) (fun x => .int x)
    (by simp [stL, R.fl, R.bind, R.of, gNext_ap, gSeq, gIf, gExpr, gPar, gSet, gUn, gRet, gFor, put, convs, setAll, setSlot, RV.slot, retO, Fl.out, slot0, mNm, mC, mV, mO, mCons, mNil, mBin, mUn, gets, mB, mTup, mLst, Opd.get, Opd.toV, mTest, mTestB, asBl, mAndT, mOrT, mNotT, mIf, mAnd, mOr, mNot, truth, mSeq, mZip, mEnum, mRng1, mRng2, mCall, mCallR, mCallT, mCallK, RV.opd, itemsAt, putAt, Slot.items, Slot.put, bindT, setFzs, mYes, mFix, fixO, mSl, mP, mNoP]) (by simp [stL, ownOk, Slot.mine]) (by simp [stL, wipeR, Src.items, Opd.get, asL]; rfl) hl (fun a b e => by simpa using e) (fun x hx => by
      refine ⟨[.fz (.lst (lP A)), .fz (.lst (lI l)), .fz (.int t), .fz (.lst (lI found)), .fz (.lst (lI fresh)), .fz (.lst (lI late)), .un, .un, .fz (.int x)], by simp [stL, bindT, setFzs, setSlot, RV.slot, wipeR], by simp [ownOk, Slot.mine], by simp [stL, wipeR], ?_, fun _ => by simp [R.fl, R.bind, R.of, gNext_ap, gSeq, gIf, gExpr, gPar, gSet, gUn, gRet, gFor, put, convs, setAll, setSlot, RV.slot, retO, Fl.out, slot0, mNm, mC, mV, mO, mCons, mNil, mBin, mUn, gets, mB, mTup, mLst, Opd.get, Opd.toV, mTest, mTestB, asBl, mAndT, mOrT, mNotT, mIf, mAnd, mOr, mNot, truth, mSeq, mZip, mEnum, mRng1, mRng2, mCall, mCallR, mCallT, mCallK, RV.opd, itemsAt, putAt, Slot.items, Slot.put, bindT, setFzs, mYes, mFix, fixO, mSl, mP, mNoP]⟩
      simp [R.fl, R.bind, R.of, gNext_ap, gSeq, gIf, gExpr, gPar, gSet, gUn, gRet, gFor, put, convs, setAll, setSlot, RV.slot, retO, Fl.out, slot0, mNm, mC, mV, mO, mCons, mNil, mBin, mUn, gets, mB, mTup, mLst, Opd.get, Opd.toV, mTest, mTestB, asBl, mAndT, mOrT, mNotT, mIf, mAnd, mOr, mNot, truth, mSeq, mZip, mEnum, mRng1, mRng2, mCall, mCallR, mCallT, mCallK, RV.opd, itemsAt, putAt, Slot.items, Slot.put, bindT, setFzs, mYes, mFix, fixO, mSl, mP, mNoP, sIn])
  rw [hc]; rfl
theorem mem_fresh {A : List (Int × Int)} {l found fresh : List Int} {x : Int} : x ∈ freshOf l (lateOf A l found fresh) ↔ x ∈ l ∧ x ∉ found ∧ ∃ y, (x, y) ∈ A ∧ y ∈ fresh := by
  unfold freshOf lateOf
  rw [List.mem_filter, decide_eq_true_iff, List.mem_map]
  constructor
  · rintro ⟨h1, p, h2, rfl⟩
    rw [List.mem_filter] at h2
    obtain ⟨h2, h3⟩ := h2
    simp only [Bool.and_eq_true, decide_eq_true_eq, Bool.not_eq_true', decide_eq_false_iff_not] at h3
    exact ⟨h1, h3.2.2, p.2, h2, h3.1⟩
  · rintro ⟨h1, h2, y, h3, h4⟩
    exact ⟨h1, (x, y), List.mem_filter.mpr ⟨h3, by simp [h1, h2, h4]⟩, rfl⟩
theorem leaders_eq {A : List (Int × Int)} {l : List Int} {t : Int} (hA : A.length ≤ 1000000) (hl : Inc l) (ht : t ∈ l) (hz : l.length ≤ 1000) :
    ∃ s, m_leaders (.fz (.lst (lP A))) [.lst (lI l), .int t] = .ok (.own (lI (rs A l t))) s := by
  show ∃ s, (g_leaders [.fz (.lst (lP A)), .fz (.lst (lI l)), .fz (.int t), .un, .un, .un, .un, .un, .un]).out = _
  have hw := while_inv (t := mTestB (mBin sNe (mNm 4) (mLst mNil))) (g := gSeq (gSet false 5 (mComp (mSeq (mNm 0)) [6, 7] (.tup [6, 7]) (mAndT (mTestB (mBin sIn (mNm 7) (mNm 4))) (mAndT (mTestB (mBin sIn (mNm 6) (mNm 1))) (mTestB (mBin sNin (mNm 6) (mNm 3))))) (mV (mNm 6))))
      (gSeq (gSet false 4 (mComp (mSeq (mNm 1)) [8] (.nm 8) (mTestB (mBin sIn (mNm 8) (mNm 5))) (mV (mNm 8)))) (gSet false 3 (mBin sAdd (mNm 3) (mNm 4)))))
    (fun k ρ => ∃ found fresh s5, ρ = stL A l t found fresh s5 ∧ (s5 = .un ∨ ∃ d, s5 = .fz d) ∧ k = 2 * (l.length - found.length) + (if fresh = [] then 0 else 1) ∧ found.Nodup ∧ (∀ x ∈ found, Rch A l t x) ∧ t ∈ found ∧ (∀ x ∈ fresh, x ∈ found) ∧ ∀ x y, (x, y) ∈ A → y ∈ found → y ∉ fresh → x ∈ l → x ∈ found)
    (fun fl => ∃ found s5, fl = .nx (stL A l t found [] s5) ∧ found.Nodup ∧ ∀ x, x ∈ found ↔ Rch A l t x) (fun ⟨_, _, z, _⟩ => by cases z)
    (fun k ρ ⟨found, fresh, s5, hρ, h5, hk, nd, hr, h0, hf, hc⟩ => by
      subst hρ
      by_cases hn : fresh = []
      · subst hn
        refine .inl ⟨stL A l t found [] s5, by simp [R.fl, R.bind, R.of, gNext_ap, gSeq, gIf, gExpr, gPar, gSet, gUn, gRet, gFor, put, convs, setAll, setSlot, RV.slot, retO, Fl.out, slot0, mNm, mC, mV, mO, mCons, mNil, mBin, mUn, gets, mB, mTup, mLst, Opd.get, Opd.toV, mTest, mTestB, asBl, mAndT, mOrT, mNotT, mIf, mAnd, mOr, mNot, truth, mSeq, mZip, mEnum, mRng1, mRng2, mCall, mCallR, mCallT, mCallK, RV.opd, itemsAt, putAt, Slot.items, Slot.put, bindT, setFzs, mYes, mFix, fixO, mSl, mP, mNoP, stL, sNe], found, s5, rfl, nd, fun x => ⟨hr x, fun z => closed_all h0 (fun x y h1 h2 h3 => hc x y h1 h2 (by simp) h3) x z⟩⟩
      · refine .inr ⟨stL A l t found fresh s5, by simp [R.fl, R.bind, R.of, gNext_ap, gSeq, gIf, gExpr, gPar, gSet, gUn, gRet, gFor, put, convs, setAll, setSlot, RV.slot, retO, Fl.out, slot0, mNm, mC, mV, mO, mCons, mNil, mBin, mUn, gets, mB, mTup, mLst, Opd.get, Opd.toV, mTest, mTestB, asBl, mAndT, mOrT, mNotT, mIf, mAnd, mOr, mNot, truth, mSeq, mZip, mEnum, mRng1, mRng2, mCall, mCallR, mCallT, mCallK, RV.opd, itemsAt, putAt, Slot.items, Slot.put, bindT, setFzs, mYes, mFix, fixO, mSl, mP, mNoP, stL, sNe, hn], .inl ?_⟩
        obtain ⟨late, elate⟩ : ∃ z, z = lateOf A l found fresh := ⟨_, rfl⟩
        obtain ⟨fr, efr⟩ : ∃ z, z = freshOf l late := ⟨_, rfl⟩
        have mfr : ∀ x, x ∈ fr ↔ x ∈ l ∧ x ∉ found ∧ ∃ y, (x, y) ∈ A ∧ y ∈ fresh := fun x => by rw [efr, elate]; exact mem_fresh
        have ndf : fr.Nodup := by
          rw [efr]
          exact List.Pairwise.filter _ hl.nodup
        have nd2 : (found ++ fr).Nodup := List.nodup_append.mpr ⟨nd, ndf, fun a ha b hb z => by subst z; exact ((mfr a).mp hb).2.1 ha⟩
        have hr2 : ∀ x ∈ found ++ fr, Rch A l t x := fun x hx => by
          rcases List.mem_append.mp hx with hx | hx
          · exact hr x hx
          · obtain ⟨h1, _, y, h2, h3⟩ := (mfr x).mp hx
            exact .step (hr y (hf y h3)) h2 h1
        have le1 := nd_len nd fun x hx => (hr x hx).inl ht
        have le2 := nd_len nd2 fun x hx => (hr2 x hx).inl ht
        rw [List.length_append] at le2
        refine ⟨stL A l t (found ++ fr) fr (.fz (.lst (lI late))), 2 * (l.length - (found ++ fr).length) + (if fr = [] then 0 else 1), .inl ?_, ?_, _, _, _, rfl, .inr ⟨_, rfl⟩, rfl, nd2, hr2, List.mem_append_left _ h0, fun x hx => List.mem_append_right _ hx, fun x y h1 h2 h3 h4 => ?_⟩
        · have e1 := late_eq (l := l) (found := found) (fresh := fresh) (t := t) (s5 := s5) hA
          have e2 := fresh_eq (A := A) (l := l) (found := found) (fresh := fresh) (late := late) (t := t) (by omega)
          rw [← elate] at e1
          rw [← efr] at e2
          have c : found.length + fr.length ≤ 1000000 := by omega
          rcases h5 with rfl | ⟨d5, rfl⟩
          · simp only [stL] at e1 e2 ⊢
            simp [e1, e2, R.fl, R.bind, R.of, gNext_ap, gSeq, gIf, gExpr, gPar, gSet, gUn, gRet, gFor, put, convs, setAll, setSlot, RV.slot, retO, Fl.out, slot0, mNm, mC, mV, mO, mCons, mNil, mBin, mUn, gets, mB, mTup, mLst, Opd.get, Opd.toV, mTest, mTestB, asBl, mAndT, mOrT, mNotT, mIf, mAnd, mOr, mNot, truth, mSeq, mZip, mEnum, mRng1, mRng2, mCall, mCallR, mCallT, mCallK, RV.opd, itemsAt, putAt, Slot.items, Slot.put, bindT, setFzs, mYes, mFix, fixO, mSl, mP, mNoP, sAdd, c, lI_app]
          · simp only [stL] at e1 e2 ⊢
            simp [e1, e2, R.fl, R.bind, R.of, gNext_ap, gSeq, gIf, gExpr, gPar, gSet, gUn, gRet, gFor, put, convs, setAll, setSlot, RV.slot, retO, Fl.out, slot0, mNm, mC, mV, mO, mCons, mNil, mBin, mUn, gets, mB, mTup, mLst, Opd.get, Opd.toV, mTest, mTestB, asBl, mAndT, mOrT, mNotT, mIf, mAnd, mOr, mNot, truth, mSeq, mZip, mEnum, mRng1, mRng2, mCall, mCallR, mCallT, mCallK, RV.opd, itemsAt, putAt, Slot.items, Slot.put, bindT, setFzs, mYes, mFix, fixO, mSl, mP, mNoP, sAdd, c, lI_app]
        · rw [hk, if_neg hn, List.length_append]
          cases e : fr with
          | nil => simp
          | cons a r =>
            have : fr.length = r.length + 1 := by rw [e]; rfl
            rw [e] at le2
            simp at le2 ⊢
            omega
        · rcases List.mem_append.mp h2 with h2 | h2
          · by_cases hx : x ∈ found
            · exact List.mem_append_left _ hx
            · by_cases hy : y ∈ fresh
              · exact List.mem_append_right _ ((mfr x).mpr ⟨h4, hx, y, h1, hy⟩)
              · exact List.mem_append_left _ (hc x y h1 h2 hy h4)
          · exact absurd h2 h3)
    (n := 2 * (l.length - 1) + 1) (ρ := stL A l t [t] [t] .un) ⟨[t], [t], .un, rfl, .inl rfl, by simp, by simp, fun x hx => by simp at hx; subst hx; exact .base, by simp, fun x hx => hx, fun x y h1 h2 h3 _ => absurd h2 h3⟩
  obtain ⟨found, s5, e, nd, hm⟩ := hw
  have le1 := nd_len nd fun x hx => ((hm x).mp hx).inl ht
  have es := bSorted_ints (xs := found) (by omega)
  rw [show found.mergeSort (fun a b => decide (a ≤ b)) = rs A l t from rs_of hl ht nd hm] at es
  refine ⟨.fz (.lst (lP A)), ?_⟩
  simp only [stL, lI_cons, lI_nil] at e
  simp [g_leaders, R.fl, R.bind, R.of, gNext_ap, gSeq, gIf, gExpr, gPar, gSet, gUn, gRet, gFor, put, convs, setAll, setSlot, RV.slot, retO, Fl.out, slot0, mNm, mC, mV, mO, mCons, mNil, mBin, mUn, gets, mB, mTup, mLst, Opd.get, Opd.toV, mTest, mTestB, asBl, mAndT, mOrT, mNotT, mIf, mAnd, mOr, mNot, truth, mSeq, mZip, mEnum, mRng1, mRng2, mCall, mCallR, mCallT, mCallK, RV.opd, itemsAt, putAt, Slot.items, Slot.put, bindT, setFzs, mYes, mFix, fixO, mSl, mP, mNoP]
  rw [e]
  simp [es, R.fl, R.bind, R.of, gNext_ap, gSeq, gIf, gExpr, gPar, gSet, gUn, gRet, gFor, put, convs, setAll, setSlot, RV.slot, retO, Fl.out, slot0, mNm, mC, mV, mO, mCons, mNil, mBin, mUn, gets, mB, mTup, mLst, Opd.get, Opd.toV, mTest, mTestB, asBl, mAndT, mOrT, mNotT, mIf, mAnd, mOr, mNot, truth, mSeq, mZip, mEnum, mRng1, mRng2, mCall, mCallR, mCallT, mCallK, RV.opd, itemsAt, putAt, Slot.items, Slot.put, bindT, setFzs, mYes, mFix, fixO, mSl, mP, mNoP]
end DL
namespace DL
open PySem PySem.Spec PyProof.Rows L2
def newOf (A : List (Int × Int)) (l found : List Int) (y : Int) : List Int := (A.filter fun p => decide (p.2 = y) && (decide (p.1 ∈ l) && !decide (p.1 ∈ found))).map (·.1)
theorem mem_new {A : List (Int × Int)} {l found : List Int} {x y : Int} : x ∈ newOf A l found y ↔ (x, y) ∈ A ∧ x ∈ l ∧ x ∉ found := by
  unfold newOf
  rw [List.mem_map]
  constructor
  · rintro ⟨p, h2, rfl⟩
    rw [List.mem_filter] at h2
    obtain ⟨h2, h3⟩ := h2
    simp only [Bool.and_eq_true, decide_eq_true_eq, Bool.not_eq_true', decide_eq_false_iff_not] at h3
    obtain ⟨rfl, h4, h5⟩ := h3
    exact ⟨h2, h4, h5⟩
  · rintro ⟨h3, h1, h2⟩
    exact ⟨(x, y), List.mem_filter.mpr ⟨h3, by simp [h1, h2]⟩, rfl⟩
theorem nd_new {A : List (Int × Int)} {l found : List Int} {y : Int} (nd : A.Nodup) : (newOf A l found y).Nodup := by
  unfold newOf
  have h : ((A.filter fun p => decide (p.2 = y) && (decide (p.1 ∈ l) && !decide (p.1 ∈ found)))).Nodup := List.Pairwise.filter _ nd
  refine List.pairwise_map.mpr (List.Pairwise.imp_of_mem (fun {a b} ha hb hne z => hne ?_) h)
  have h1 := (List.mem_filter.mp ha).2
  have h2 := (List.mem_filter.mp hb).2
  simp only [Bool.and_eq_true, decide_eq_true_eq] at h1 h2
  exact Prod.ext z (h1.1.trans h2.1.symm)
theorem ix_get {os : List Int} {k : Nat} (h : k < os.length) : sIxD (.lst (lI os)) (.int k) = some (.val (.int os[k])) := ix_int (List.getElem?_eq_getElem h)
def stA (A : List (Int × Int)) (l : List Int) (t : Int) (found : List Int) (k : Nat) : Rho := [.fz (.lst (lP A)), .fz (.lst (lI l)), .fz (.int t), .own (lI found), .fz (.int k), .un, .un]
theorem new_eq {A : List (Int × Int)} {l found : List Int} {t : Int} {k : Nat} (hl : A.length ≤ 1000000) (hk : k < found.length) :
    mComp (mSeq (mNm 0)) [5, 6] (.tup [5, 6]) (mAndT (mTestB (mBin sEq (mNm 6) (mBin sIxD (mNm 3) (mNm 4)))) (mAndT (mTestB (mBin sIn (mNm 5) (mNm 1))) (mTestB (mBin sNin (mNm 5) (mNm 3))))) (mV (mNm 5)) (stA A l t found k) = .ok (.tmp (lI (newOf A l found found[k]))) (stA A l t found k) := by
  have hc := comp_enc (ms := mSeq (mNm 0)) (own := [5, 6]) (t := .tup [5, 6]) (test := mAndT (mTestB (mBin sEq (mNm 6) (mBin sIxD (mNm 3) (mNm 4)))) (mAndT (mTestB (mBin sIn (mNm 5) (mNm 1))) (mTestB (mBin sNin (mNm 5) (mNm 3))))) (elt := mV (mNm 5)) (ρ := stA A l t found k) (ρ1 := stA A l t found k) (src := .seqL (.nm 0)) (xs := A) (en := pD) (fun p => decide (p.2 = found[k]) && (decide (p.1 ∈ l) && !decide (p.1 ∈ found))) (fun p => .int p.1)
    (by simp [stA, R.fl, R.bind, R.of, gNext_ap, gSeq, gIf, gExpr, gPar, gSet, gUn, gRet, gFor, put, convs, setAll, setSlot, RV.slot, retO, Fl.out, slot0, mNm, mC, mV, mO, mCons, mNil, mBin, mUn, gets, mB, mTup, mLst, Opd.get, Opd.toV, mTest, mTestB, asBl, mAndT, mOrT, mNotT, mIf, mAnd, mOr, mNot, truth, mSeq, mZip, mEnum, mRng1, mRng2, mCall, mCallR, mCallT, mCallK, RV.opd, itemsAt, putAt, Slot.items, Slot.put, bindT, setFzs, mYes, mFix, fixO, mSl, mP, mNoP]) (by simp [stA, ownOk, Slot.mine]) (by simp [stA, wipeR, Src.items, Opd.get, asL]; rfl) hl (fun a b e => by
      obtain ⟨a1, a2⟩ := a
      obtain ⟨b1, b2⟩ := b
      simpa using e) (fun p hp => by
      refine ⟨[.fz (.lst (lP A)), .fz (.lst (lI l)), .fz (.int t), .own (lI found), .fz (.int k), .fz (.int p.1), .fz (.int p.2)], by simp [stA, bindT, setFzs, setSlot, RV.slot, wipeR], by simp [ownOk, Slot.mine], by simp [stA, wipeR], ?_, fun _ => by simp [R.fl, R.bind, R.of, gNext_ap, gSeq, gIf, gExpr, gPar, gSet, gUn, gRet, gFor, put, convs, setAll, setSlot, RV.slot, retO, Fl.out, slot0, mNm, mC, mV, mO, mCons, mNil, mBin, mUn, gets, mB, mTup, mLst, Opd.get, Opd.toV, mTest, mTestB, asBl, mAndT, mOrT, mNotT, mIf, mAnd, mOr, mNot, truth, mSeq, mZip, mEnum, mRng1, mRng2, mCall, mCallR, mCallT, mCallK, RV.opd, itemsAt, putAt, Slot.items, Slot.put, bindT, setFzs, mYes, mFix, fixO, mSl, mP, mNoP]⟩
      have ix := ix_get hk
      by_cases h1 : p.2 = found[k] <;> by_cases h2 : p.1 ∈ l <;> simp [R.fl, R.bind, R.of, gNext_ap, gSeq, gIf, gExpr, gPar, gSet, gUn, gRet, gFor, put, convs, setAll, setSlot, RV.slot, retO, Fl.out, slot0, mNm, mC, mV, mO, mCons, mNil, mBin, mUn, gets, mB, mTup, mLst, Opd.get, Opd.toV, mTest, mTestB, asBl, mAndT, mOrT, mNotT, mIf, mAnd, mOr, mNot, truth, mSeq, mZip, mEnum, mRng1, mRng2, mCall, mCallR, mCallT, mCallK, RV.opd, itemsAt, putAt, Slot.items, Slot.put, bindT, setFzs, mYes, mFix, fixO, mSl, mP, mNoP, sIn, sNin, sEq, ix, h1, h2])
  rw [hc, lI_map]; rfl
theorem law_leaders_eq {A : List (Int × Int)} {l : List Int} {t : Int} (hA : A.length ≤ 1000000) (ndA : A.Nodup) (hl : Inc l) (ht : t ∈ l) (hz : l.length ≤ 1000) :
    ∃ s, m_f_law_leaders (.fz (.lst (lP A))) [.lst (lI l), .int t] = .ok (.own (lI (rs A l t))) s := by
  show ∃ s, (g_f_law_leaders [.fz (.lst (lP A)), .fz (.lst (lI l)), .fz (.int t), .un, .un, .un, .un]).out = _
  have hw := while_inv (t := mTestB (mBin sLt (mNm 4) (mB bLen (mCons (mNm 3) mNil)))) (g := gSeq (gExpr (mExtend 3 (mComp (mSeq (mNm 0)) [5, 6] (.tup [5, 6]) (mAndT (mTestB (mBin sEq (mNm 6) (mBin sIxD (mNm 3) (mNm 4)))) (mAndT (mTestB (mBin sIn (mNm 5) (mNm 1))) (mTestB (mBin sNin (mNm 5) (mNm 3))))) (mV (mNm 5)))))
      (gSet false 4 (mBin sAdd (mNm 4) (mC (.int (1))))))
    (fun m ρ => ∃ found k, ρ = stA A l t found k ∧ m = l.length - k ∧ k ≤ found.length ∧ found.Nodup ∧ (∀ x ∈ found, Rch A l t x) ∧ t ∈ found ∧ ∀ x y, (x, y) ∈ A → y ∈ found.take k → x ∈ l → x ∈ found)
    (fun fl => ∃ found k, fl = .nx (stA A l t found k) ∧ found.Nodup ∧ ∀ x, x ∈ found ↔ Rch A l t x) (fun ⟨_, _, z, _⟩ => by cases z)
    (fun m ρ ⟨found, k, hρ, hm, hk, nd, hr, h0, hc⟩ => by
      subst hρ
      by_cases hn : k < found.length
      · have hn2 : (k : Int) < (found.length : Int) := by omega
        refine .inr ⟨stA A l t found k, by simp [R.fl, R.bind, R.of, gNext_ap, gSeq, gIf, gExpr, gPar, gSet, gUn, gRet, gFor, put, convs, setAll, setSlot, RV.slot, retO, Fl.out, slot0, mNm, mC, mV, mO, mCons, mNil, mBin, mUn, gets, mB, mTup, mLst, Opd.get, Opd.toV, mTest, mTestB, asBl, mAndT, mOrT, mNotT, mIf, mAnd, mOr, mNot, truth, mSeq, mZip, mEnum, mRng1, mRng2, mCall, mCallR, mCallT, mCallK, RV.opd, itemsAt, putAt, Slot.items, Slot.put, bindT, setFzs, mYes, mFix, fixO, mSl, mP, mNoP, stA, sLt, bLen, hn], .inl ?_⟩
        obtain ⟨nw, enw⟩ : ∃ z, z = newOf A l found found[k] := ⟨_, rfl⟩
        have mnw : ∀ x, x ∈ nw ↔ (x, found[k]) ∈ A ∧ x ∈ l ∧ x ∉ found := fun x => by rw [enw]; exact mem_new
        have ndw : nw.Nodup := by rw [enw]; exact nd_new ndA
        have nd2 : (found ++ nw).Nodup := List.nodup_append.mpr ⟨nd, ndw, fun a ha b hb z => by subst z; exact ((mnw a).mp hb).2.2 ha⟩
        have hr2 : ∀ x ∈ found ++ nw, Rch A l t x := fun x hx => by
          rcases List.mem_append.mp hx with hx | hx
          · exact hr x hx
          · obtain ⟨h1, h2, _⟩ := (mnw x).mp hx
            exact .step (hr _ (List.getElem_mem hn)) h1 h2
        have le1 := nd_len nd fun x hx => (hr x hx).inl ht
        have le2 := nd_len nd2 fun x hx => (hr2 x hx).inl ht
        rw [List.length_append] at le2
        refine ⟨stA A l t (found ++ nw) (k + 1), l.length - (k + 1), .inl ?_, by omega, _, _, rfl, rfl, by rw [List.length_append]; omega, nd2, hr2, List.mem_append_left _ h0, fun x y h1 h2 h3 => ?_⟩
        · have e1 := new_eq (l := l) (found := found) (t := t) hA hn
          rw [← enw] at e1
          have c : found.length + nw.length ≤ 1000000 := by omega
          simp only [stA] at e1 ⊢
          simp [e1, R.fl, R.bind, R.of, gNext_ap, gSeq, gIf, gExpr, gPar, gSet, gUn, gRet, gFor, put, convs, setAll, setSlot, RV.slot, retO, Fl.out, slot0, mNm, mC, mV, mO, mCons, mNil, mBin, mUn, gets, mB, mTup, mLst, Opd.get, Opd.toV, mTest, mTestB, asBl, mAndT, mOrT, mNotT, mIf, mAnd, mOr, mNot, truth, mSeq, mZip, mEnum, mRng1, mRng2, mCall, mCallR, mCallT, mCallK, RV.opd, itemsAt, putAt, Slot.items, Slot.put, bindT, setFzs, mYes, mFix, fixO, mSl, mP, mNoP, mExtend, sAdd, c, lI_app]
        · rw [List.take_append_of_le_length (by omega)] at h2
          by_cases hx : x ∈ found
          · exact List.mem_append_left _ hx
          · rw [List.take_succ_eq_append_getElem hn] at h2
            rcases List.mem_append.mp h2 with h2 | h2
            · exact List.mem_append_left _ (hc x y h1 h2 h3)
            · simp only [List.mem_singleton] at h2
              subst h2
              exact List.mem_append_right _ ((mnw x).mpr ⟨h1, h3, hx⟩)
      · refine .inl ⟨stA A l t found k, by simp [R.fl, R.bind, R.of, gNext_ap, gSeq, gIf, gExpr, gPar, gSet, gUn, gRet, gFor, put, convs, setAll, setSlot, RV.slot, retO, Fl.out, slot0, mNm, mC, mV, mO, mCons, mNil, mBin, mUn, gets, mB, mTup, mLst, Opd.get, Opd.toV, mTest, mTestB, asBl, mAndT, mOrT, mNotT, mIf, mAnd, mOr, mNot, truth, mSeq, mZip, mEnum, mRng1, mRng2, mCall, mCallR, mCallT, mCallK, RV.opd, itemsAt, putAt, Slot.items, Slot.put, bindT, setFzs, mYes, mFix, fixO, mSl, mP, mNoP, stA, sLt, bLen, hn], found, k, rfl, nd, fun x => ⟨hr x, fun z => closed_all h0 (fun x y h1 h2 h3 => hc x y h1 (by rw [List.take_of_length_le (by omega)]; exact h2) h3) x z⟩⟩)
    (n := l.length) (ρ := stA A l t [t] 0) ⟨[t], 0, rfl, rfl, by simp, by simp, fun x hx => by simp at hx; subst hx; exact .base, by simp, fun x y _ h2 => by simp at h2⟩
  obtain ⟨found, k, e, nd, hm⟩ := hw
  have le1 := nd_len nd fun x hx => ((hm x).mp hx).inl ht
  have es := bSorted_ints (xs := found) (by omega)
  rw [show found.mergeSort (fun a b => decide (a ≤ b)) = rs A l t from rs_of hl ht nd hm] at es
  refine ⟨.fz (.lst (lP A)), ?_⟩
  simp only [stA, lI_cons, lI_nil] at e
  simp [g_f_law_leaders, R.fl, R.bind, R.of, gNext_ap, gSeq, gIf, gExpr, gPar, gSet, gUn, gRet, gFor, put, convs, setAll, setSlot, RV.slot, retO, Fl.out, slot0, mNm, mC, mV, mO, mCons, mNil, mBin, mUn, gets, mB, mTup, mLst, Opd.get, Opd.toV, mTest, mTestB, asBl, mAndT, mOrT, mNotT, mIf, mAnd, mOr, mNot, truth, mSeq, mZip, mEnum, mRng1, mRng2, mCall, mCallR, mCallT, mCallK, RV.opd, itemsAt, putAt, Slot.items, Slot.put, bindT, setFzs, mYes, mFix, fixO, mSl, mP, mNoP]
  have e' : ((0 : Nat) : Int) = 0 := rfl
  rw [e'] at e
  rw [e]
  simp [es, R.fl, R.bind, R.of, gNext_ap, gSeq, gIf, gExpr, gPar, gSet, gUn, gRet, gFor, put, convs, setAll, setSlot, RV.slot, retO, Fl.out, slot0, mNm, mC, mV, mO, mCons, mNil, mBin, mUn, gets, mB, mTup, mLst, Opd.get, Opd.toV, mTest, mTestB, asBl, mAndT, mOrT, mNotT, mIf, mAnd, mOr, mNot, truth, mSeq, mZip, mEnum, mRng1, mRng2, mCall, mCallR, mCallT, mCallK, RV.opd, itemsAt, putAt, Slot.items, Slot.put, bindT, setFzs, mYes, mFix, fixO, mSl, mP, mNoP]
end DL
namespace DL
open PySem PySem.Spec PyProof.Rows L2
def both (T : List (Int × Int)) : List (Int × Int) := T ++ T.map fun p => (p.2, p.1)
theorem mem_both {T : List (Int × Int)} {x y : Int} : (x, y) ∈ both T ↔ (x, y) ∈ T ∨ (y, x) ∈ T := by
  unfold both
  rw [List.mem_append, List.mem_map]
  constructor
  · rintro (h | ⟨p, h1, h2⟩)
    · exact .inl h
    · obtain ⟨a, b⟩ := p
      simp only [Prod.mk.injEq] at h2
      obtain ⟨rfl, rfl⟩ := h2
      exact .inr h1
  · rintro (h | h)
    · exact .inl h
    · exact .inr ⟨(y, x), h, rfl⟩
theorem part_in_eq {T : List (Int × Int)} {l : List Int} {t : Int} (hT : T.length ≤ 400000) (hl : Inc l) (ht : t ∈ l) (hz : l.length ≤ 1000) :
    ∃ s, m_part_in (.fz (.lst (lP T))) [.lst (lI l), .int t] = .ok (.own (lI (rs (both T) l t))) s := by
  show ∃ s, (g_part_in [.fz (.lst (lP T)), .fz (.lst (lI l)), .fz (.int t), .un, .un, .un]).out = _
  have hc := comp_enc (ms := mSeq (mNm 0)) (own := [4, 5]) (t := .tup [4, 5]) (test := mYes) (elt := mV (mTup (mCons (mV (mNm 5)) (mCons (mV (mNm 4)) mNil)))) (ρ := [.fz (.lst (lP T)), .fz (.lst (lI l)), .fz (.int t), .un, .un, .un]) (ρ1 := [.fz (.lst (lP T)), .fz (.lst (lI l)), .fz (.int t), .un, .un, .un]) (src := .seqL (.nm 0)) (xs := T) (en := pD) (fun _ => true) (fun p => pD (p.2, p.1))
    (by simp [R.fl, R.bind, R.of, gNext_ap, gSeq, gIf, gExpr, gPar, gSet, gUn, gRet, gFor, put, convs, setAll, setSlot, RV.slot, retO, Fl.out, slot0, mNm, mC, mV, mO, mCons, mNil, mBin, mUn, gets, mB, mTup, mLst, Opd.get, Opd.toV, mTest, mTestB, asBl, mAndT, mOrT, mNotT, mIf, mAnd, mOr, mNot, truth, mSeq, mZip, mEnum, mRng1, mRng2, mCall, mCallR, mCallT, mCallK, RV.opd, itemsAt, putAt, Slot.items, Slot.put, bindT, setFzs, mYes, mFix, fixO, mSl, mP, mNoP]) (by simp [ownOk, Slot.mine]) (by simp [wipeR, Src.items, Opd.get, asL]; rfl) (by omega) (fun a b e => by
      obtain ⟨a1, a2⟩ := a
      obtain ⟨b1, b2⟩ := b
      simpa using e) (fun p hp => by
      refine ⟨[.fz (.lst (lP T)), .fz (.lst (lI l)), .fz (.int t), .un, .fz (.int p.1), .fz (.int p.2)], by simp [bindT, setFzs, setSlot, RV.slot, wipeR], by simp [ownOk, Slot.mine], by simp [wipeR], rfl, fun _ => by simp [R.fl, R.bind, R.of, gNext_ap, gSeq, gIf, gExpr, gPar, gSet, gUn, gRet, gFor, put, convs, setAll, setSlot, RV.slot, retO, Fl.out, slot0, mNm, mC, mV, mO, mCons, mNil, mBin, mUn, gets, mB, mTup, mLst, Opd.get, Opd.toV, mTest, mTestB, asBl, mAndT, mOrT, mNotT, mIf, mAnd, mOr, mNot, truth, mSeq, mZip, mEnum, mRng1, mRng2, mCall, mCallR, mCallT, mCallK, RV.opd, itemsAt, putAt, Slot.items, Slot.put, bindT, setFzs, mYes, mFix, fixO, mSl, mP, mNoP]⟩)
  rw [filter_yes] at hc
  have eb : lP T ++ T.map (fun p => D.tup [.int p.2, .int p.1]) = lP (both T) := by
    unfold both lP
    rw [List.map_append, List.map_map]; rfl
  obtain ⟨s, e⟩ := leaders_eq (A := both T) (by unfold both; rw [List.length_append, List.length_map]; omega) hl ht hz
  have c : T.length + T.length ≤ 1000000 := by omega
  refine ⟨.fz (.lst (lP T)), ?_⟩
  simp [g_part_in, R.fl, R.bind, R.of, gNext_ap, gSeq, gIf, gExpr, gPar, gSet, gUn, gRet, gFor, put, convs, setAll, setSlot, RV.slot, retO, Fl.out, slot0, mNm, mC, mV, mO, mCons, mNil, mBin, mUn, gets, mB, mTup, mLst, Opd.get, Opd.toV, mTest, mTestB, asBl, mAndT, mOrT, mNotT, mIf, mAnd, mOr, mNot, truth, mSeq, mZip, mEnum, mRng1, mRng2, mCall, mCallR, mCallT, mCallK, RV.opd, itemsAt, putAt, Slot.items, Slot.put, bindT, setFzs, mYes, mFix, fixO, mSl, mP, mNoP, hc, sAdd, c, eb, e]
def stH (T : List (Int × Int)) (l : List Int) (t : Int) (found : List Int) (k : Nat) (s5 s6 : Slot) : Rho := [.fz (.lst (lP T)), .fz (.lst (lI l)), .fz (.int t), .own (lI found), .fz (.int k), s5, s6]
noncomputable def gHung : G := (gSeq (gIf (mAndT (mTestB (mBin sEq (mNm 5) (mBin sIxD (mNm 3) (mNm 4)))) (mAndT (mTestB (mBin sIn (mNm 6) (mNm 1))) (mTestB (mBin sNin (mNm 6) (mNm 3)))))
  (gExpr (mAppend 3 (mV (mNm 6))))
  gNext)
  (gIf (mAndT (mTestB (mBin sEq (mNm 6) (mBin sIxD (mNm 3) (mNm 4)))) (mAndT (mTestB (mBin sIn (mNm 5) (mNm 1))) (mTestB (mBin sNin (mNm 5) (mNm 3)))))
  (gExpr (mAppend 3 (mV (mNm 5))))
  gNext))
/-- x joins where it may -/
def join (l found : List Int) (c : Bool) (x : Int) : List Int := if c = true ∧ x ∈ l ∧ x ∉ found then found ++ [x] else found
theorem join_pre {l found : List Int} {c : Bool} {x : Int} : ∃ e, join l found c x = found ++ e ∧ e.length ≤ 1 := by
  unfold join
  split
  · exact ⟨[x], rfl, by simp⟩
  · exact ⟨[], by simp, by simp⟩
theorem join_nd {l found : List Int} {c : Bool} {x : Int} (nd : found.Nodup) : (join l found c x).Nodup := by
  unfold join
  split
  · rename_i h; exact nodup_app nd h.2.2
  · exact nd
theorem join_mem {l found : List Int} {c : Bool} {x y : Int} (h : y ∈ join l found c x) : y ∈ found ∨ (c = true ∧ y = x ∧ x ∈ l) := by
  unfold join at h
  split at h
  · rename_i hc
    rcases List.mem_append.mp h with h | h
    · exact .inl h
    · simp only [List.mem_singleton] at h; exact .inr ⟨hc.1, h, hc.2.1⟩
  · exact .inl h
theorem join_in {l found : List Int} {c : Bool} {x : Int} (h1 : c = true) (h2 : x ∈ l) : x ∈ join l found c x := by
  unfold join
  split
  · simp
  · rename_i h
    exact Classical.byContradiction fun z => h ⟨h1, h2, z⟩
theorem join_old {l found : List Int} {c : Bool} {x y : Int} (h : y ∈ found) : y ∈ join l found c x := by
  obtain ⟨e, h1, _⟩ := join_pre (l := l) (found := found) (c := c) (x := x)
  rw [h1]; exact List.mem_append_left _ h
theorem hung_step {T : List (Int × Int)} {l found : List Int} {t : Int} {k : Nat} {p : Int × Int} (hk : k < found.length) (hf : found.length < 900000) :
    gHung (stH T l t found k (.fz (.int p.1)) (.fz (.int p.2))) = .nx (stH T l t (join l (join l found (decide (p.1 = found[k])) p.2) (decide (p.2 = found[k])) p.1) k (.fz (.int p.1)) (.fz (.int p.2))) := by
  have step1 : (gIf (mAndT (mTestB (mBin sEq (mNm 5) (mBin sIxD (mNm 3) (mNm 4)))) (mAndT (mTestB (mBin sIn (mNm 6) (mNm 1))) (mTestB (mBin sNin (mNm 6) (mNm 3))))) (gExpr (mAppend 3 (mV (mNm 6)))) gNext) (stH T l t found k (.fz (.int p.1)) (.fz (.int p.2))) = .nx (stH T l t (join l found (decide (p.1 = found[k])) p.2) k (.fz (.int p.1)) (.fz (.int p.2))) := by
    have ix := ix_get hk
    have c : found.length < 1000000 := by omega
    by_cases h1 : p.1 = found[k] <;> by_cases h2 : p.2 ∈ l <;> by_cases h3 : p.2 ∈ found <;> simp [R.fl, R.bind, R.of, gNext_ap, gSeq, gIf, gExpr, gPar, gSet, gUn, gRet, gFor, put, convs, setAll, setSlot, RV.slot, retO, Fl.out, slot0, mNm, mC, mV, mO, mCons, mNil, mBin, mUn, gets, mB, mTup, mLst, Opd.get, Opd.toV, mTest, mTestB, asBl, mAndT, mOrT, mNotT, mIf, mAnd, mOr, mNot, truth, mSeq, mZip, mEnum, mRng1, mRng2, mCall, mCallR, mCallT, mCallK, RV.opd, itemsAt, putAt, Slot.items, Slot.put, bindT, setFzs, mYes, mFix, fixO, mSl, mP, mNoP, stH, sIn, sNin, sEq, ix, h1, h2, h3, mAppend, c, join, lI_app]
  obtain ⟨e, he, hl⟩ := join_pre (l := l) (found := found) (c := decide (p.1 = found[k])) (x := p.2)
  have hk2 : k < (join l found (decide (p.1 = found[k])) p.2).length := by rw [he, List.length_append]; omega
  have hx : (join l found (decide (p.1 = found[k])) p.2)[k] = found[k] := by simp only [he]; exact List.getElem_append_left hk
  have hz : (join l found (decide (p.1 = found[k])) p.2).length < 1000000 := by rw [he, List.length_append]; omega
  generalize hj : join l found (decide (p.1 = found[k])) p.2 = f1 at *
  have step2 : (gIf (mAndT (mTestB (mBin sEq (mNm 6) (mBin sIxD (mNm 3) (mNm 4)))) (mAndT (mTestB (mBin sIn (mNm 5) (mNm 1))) (mTestB (mBin sNin (mNm 5) (mNm 3))))) (gExpr (mAppend 3 (mV (mNm 5)))) gNext) (stH T l t f1 k (.fz (.int p.1)) (.fz (.int p.2))) = .nx (stH T l t (join l f1 (decide (p.2 = f1[k])) p.1) k (.fz (.int p.1)) (.fz (.int p.2))) := by
    have ix := ix_get hk2
    by_cases h1 : p.2 = f1[k] <;> by_cases h2 : p.1 ∈ l <;> by_cases h3 : p.1 ∈ f1 <;> simp [R.fl, R.bind, R.of, gNext_ap, gSeq, gIf, gExpr, gPar, gSet, gUn, gRet, gFor, put, convs, setAll, setSlot, RV.slot, retO, Fl.out, slot0, mNm, mC, mV, mO, mCons, mNil, mBin, mUn, gets, mB, mTup, mLst, Opd.get, Opd.toV, mTest, mTestB, asBl, mAndT, mOrT, mNotT, mIf, mAnd, mOr, mNot, truth, mSeq, mZip, mEnum, mRng1, mRng2, mCall, mCallR, mCallT, mCallK, RV.opd, itemsAt, putAt, Slot.items, Slot.put, bindT, setFzs, mYes, mFix, fixO, mSl, mP, mNoP, stH, sIn, sNin, sEq, ix, h1, h2, h3, mAppend, hz, join, lI_app]
  rw [hx] at step2
  show (match gIf _ _ _ _ with | .nx ρ1 => _ | r => r) = _
  rw [step1]
  exact step2
end DL
namespace DL
open PySem PySem.Spec PyProof.Rows L2
theorem pD_inj {p q : Int × Int} (h : pD p = pD q) : p = q := by
  obtain ⟨a, b⟩ := p
  obtain ⟨c, d⟩ := q
  simpa using h
theorem hung_for {T : List (Int × Int)} {l found : List Int} {t : Int} {k : Nat} {s5 s6 : Slot} (hT : T.length ≤ 1000) (hl : Inc l) (ht : t ∈ l) (hz : l.length ≤ 1000) (hk : k < found.length) (h5 : s5 = .un ∨ ∃ d, s5 = .fz d) (h6 : s6 = .un ∨ ∃ d, s6 = .fz d)
    (nd : found.Nodup) (hr : ∀ x ∈ found, Rch (both T) l t x) :
    ∃ f2 s5' s6' e, gFor (mSeq (mFix (mNm 0))) (.tup [5, 6]) gHung (stH T l t found k s5 s6) = .nx (stH T l t f2 k s5' s6') ∧ (s5' = .un ∨ ∃ d, s5' = .fz d) ∧ (s6' = .un ∨ ∃ d, s6' = .fz d) ∧ f2 = found ++ e ∧ f2.Nodup ∧ (∀ x ∈ f2, Rch (both T) l t x) ∧ ∀ x, (x, found[k]) ∈ both T → x ∈ l → x ∈ f2 := by
  obtain ⟨ρ', h1, h2⟩ := for_all (t := .tup [5, 6]) (g := gHung) (ds := lP T) (ρ := stH T l t found k s5 s6)
    (fun done ρ => ∃ f2 s5' s6' e, ρ = stH T l t f2 k s5' s6' ∧ (s5' = .un ∨ ∃ d, s5' = .fz d) ∧ (s6' = .un ∨ ∃ d, s6' = .fz d) ∧ f2 = found ++ e ∧ f2.Nodup ∧ (∀ x ∈ f2, Rch (both T) l t x) ∧ ∀ p, pD p ∈ done → (p.1 = found[k] → p.2 ∈ l → p.2 ∈ f2) ∧ (p.2 = found[k] → p.1 ∈ l → p.1 ∈ f2))
    ⟨found, s5, s6, [], rfl, h5, h6, by simp, nd, hr, fun p hp => by simp at hp⟩ (fun done d rest ρ hd ⟨f2, s5', s6', e, hρ, h5', h6', he, nd2, hr2, hc⟩ => by
      subst hρ
      obtain ⟨p, hp, rfl⟩ := lP_mem (A := T) (d := d) (by rw [hd]; simp)
      have hk2 : k < f2.length := by rw [he, List.length_append]; omega
      have hx : f2[k] = found[k] := by simp only [he]; exact List.getElem_append_left hk
      have le := nd_len nd2 fun x hx => (hr2 x hx).inl ht
      have hs := hung_step (T := T) (l := l) (found := f2) (t := t) (k := k) (p := p) hk2 (by omega)
      obtain ⟨e1, he1, _⟩ := join_pre (l := l) (found := f2) (c := decide (p.1 = f2[k])) (x := p.2)
      obtain ⟨e2, he2, _⟩ := join_pre (l := l) (found := join l f2 (decide (p.1 = f2[k])) p.2) (c := decide (p.2 = f2[k])) (x := p.1)
      have ry : Rch (both T) l t found[k] := hr _ (List.getElem_mem hk)
      refine ⟨stH T l t f2 k (.fz (.int p.1)) (.fz (.int p.2)), _, ?_, .inl hs, _, _, _, e ++ e1 ++ e2, rfl, .inr ⟨_, rfl⟩, .inr ⟨_, rfl⟩, by rw [he2, he1, he]; simp [List.append_assoc], join_nd (join_nd nd2), fun x hx' => ?_, fun q hq => ?_⟩
      · rcases h5' with rfl | ⟨d5, rfl⟩ <;> rcases h6' with rfl | ⟨d6, rfl⟩ <;> simp [stH, bindT, setFzs, setSlot, RV.slot]
      · rcases join_mem hx' with g0 | ⟨g0, rfl, hm⟩
        · rcases join_mem g0 with g1 | ⟨g1, rfl, hm⟩
          · exact hr2 x g1
          · rw [hx, decide_eq_true_eq] at g1
            exact .step ry (mem_both.mpr (.inr (by rw [← g1]; exact hp))) hm
        · rw [hx, decide_eq_true_eq] at g0
          exact .step ry (mem_both.mpr (.inl (by rw [← g0]; exact hp))) hm
      · rcases List.mem_append.mp hq with hq | hq
        · obtain ⟨c1, c2⟩ := hc q hq
          exact ⟨fun z1 z2 => join_old (join_old (c1 z1 z2)), fun z1 z2 => join_old (join_old (c2 z1 z2))⟩
        · simp only [List.mem_singleton] at hq
          have hq := pD_inj hq
          subst hq
          refine ⟨fun z1 z2 => join_old (join_in (by rw [hx, z1]; simp) z2), fun z1 z2 => join_in (by rw [hx, z1]; simp) z2⟩)
  obtain ⟨f2, s5', s6', e, rfl, h5', h6', he, nd2, hr2, hc⟩ := h2
  refine ⟨f2, s5', s6', e, ?_, h5', h6', he, nd2, hr2, fun x hx hxl => ?_⟩
  · have h1' := h1
    simp only [stH] at h1' ⊢
    simp [gFor, R.fl, R.bind, R.of, gNext_ap, gSeq, gIf, gExpr, gPar, gSet, gUn, gRet, gFor, put, convs, setAll, setSlot, RV.slot, retO, Fl.out, slot0, mNm, mC, mV, mO, mCons, mNil, mBin, mUn, gets, mB, mTup, mLst, Opd.get, Opd.toV, mTest, mTestB, asBl, mAndT, mOrT, mNotT, mIf, mAnd, mOr, mNot, truth, mSeq, mZip, mEnum, mRng1, mRng2, mCall, mCallR, mCallT, mCallK, RV.opd, itemsAt, putAt, Slot.items, Slot.put, bindT, setFzs, mYes, mFix, fixO, mSl, mP, mNoP, Src.fixed, Src.items, asL]
    exact h1'
  · rcases mem_both.mp hx with h | h
    · exact (hc (x, found[k]) (List.mem_map.mpr ⟨_, h, rfl⟩)).2 rfl hxl
    · exact (hc (found[k], x) (List.mem_map.mpr ⟨_, h, rfl⟩)).1 rfl hxl
theorem hung_eq {T : List (Int × Int)} {l : List Int} {t : Int} (hT : T.length ≤ 1000) (hl : Inc l) (ht : t ∈ l) (hz : l.length ≤ 1000) :
    ∃ s, m_f_law_hung (.fz (.lst (lP T))) [.lst (lI l), .int t] = .ok (.own (lI (rs (both T) l t))) s := by
  show ∃ s, (g_f_law_hung [.fz (.lst (lP T)), .fz (.lst (lI l)), .fz (.int t), .un, .un, .un, .un]).out = _
  have hw := while_inv (t := mTestB (mBin sLt (mNm 4) (mB bLen (mCons (mNm 3) mNil)))) (g := gSeq (gFor (mSeq (mFix (mNm 0))) (.tup [5, 6]) gHung) (gSet false 4 (mBin sAdd (mNm 4) (mC (.int (1))))))
    (fun m ρ => ∃ found k s5 s6, ρ = stH T l t found k s5 s6 ∧ (s5 = .un ∨ ∃ d, s5 = .fz d) ∧ (s6 = .un ∨ ∃ d, s6 = .fz d) ∧ m = l.length - k ∧ k ≤ found.length ∧ found.Nodup ∧ (∀ x ∈ found, Rch (both T) l t x) ∧ t ∈ found ∧ ∀ x y, (x, y) ∈ both T → y ∈ found.take k → x ∈ l → x ∈ found)
    (fun fl => ∃ found k s5 s6, fl = .nx (stH T l t found k s5 s6) ∧ found.Nodup ∧ ∀ x, x ∈ found ↔ Rch (both T) l t x) (fun ⟨_, _, _, _, z, _⟩ => by cases z)
    (fun m ρ ⟨found, k, s5, s6, hρ, h5, h6, hm, hk, nd, hr, h0, hc⟩ => by
      subst hρ
      by_cases hn : k < found.length
      · refine .inr ⟨stH T l t found k s5 s6, by simp [R.fl, R.bind, R.of, gNext_ap, gSeq, gIf, gExpr, gPar, gSet, gUn, gRet, gFor, put, convs, setAll, setSlot, RV.slot, retO, Fl.out, slot0, mNm, mC, mV, mO, mCons, mNil, mBin, mUn, gets, mB, mTup, mLst, Opd.get, Opd.toV, mTest, mTestB, asBl, mAndT, mOrT, mNotT, mIf, mAnd, mOr, mNot, truth, mSeq, mZip, mEnum, mRng1, mRng2, mCall, mCallR, mCallT, mCallK, RV.opd, itemsAt, putAt, Slot.items, Slot.put, bindT, setFzs, mYes, mFix, fixO, mSl, mP, mNoP, stH, sLt, bLen, hn], .inl ?_⟩
        obtain ⟨f2, s5', s6', e, hg, h5', h6', he, nd2, hr2, hc2⟩ := hung_for hT hl ht hz hn h5 h6 nd hr
        have le1 := nd_len nd fun x hx => (hr x hx).inl ht
        refine ⟨stH T l t f2 (k + 1) s5' s6', l.length - (k + 1), .inl ?_, by omega, _, _, _, _, rfl, h5', h6', rfl, by rw [he, List.length_append]; omega, nd2, hr2, by rw [he]; exact List.mem_append_left _ h0, fun x y h1 h2 h3 => ?_⟩
        · show (match gFor (mSeq (mFix (mNm 0))) (.tup [5, 6]) gHung (stH T l t found k s5 s6) with | .nx ρ1 => gSet false 4 (mBin sAdd (mNm 4) (mC (.int (1)))) ρ1 | r => r) = _
          rw [hg]
          simp [stH, R.fl, R.bind, R.of, gNext_ap, gSeq, gIf, gExpr, gPar, gSet, gUn, gRet, gFor, put, convs, setAll, setSlot, RV.slot, retO, Fl.out, slot0, mNm, mC, mV, mO, mCons, mNil, mBin, mUn, gets, mB, mTup, mLst, Opd.get, Opd.toV, mTest, mTestB, asBl, mAndT, mOrT, mNotT, mIf, mAnd, mOr, mNot, truth, mSeq, mZip, mEnum, mRng1, mRng2, mCall, mCallR, mCallT, mCallK, RV.opd, itemsAt, putAt, Slot.items, Slot.put, bindT, setFzs, mYes, mFix, fixO, mSl, mP, mNoP, sAdd]
        · rw [he, List.take_append_of_le_length (by omega), List.take_succ_eq_append_getElem hn] at h2
          rcases List.mem_append.mp h2 with h2 | h2
          · rw [he]; exact List.mem_append_left _ (hc x y h1 h2 h3)
          · simp only [List.mem_singleton] at h2
            subst h2
            exact hc2 x h1 h3
      · refine .inl ⟨stH T l t found k s5 s6, by simp [R.fl, R.bind, R.of, gNext_ap, gSeq, gIf, gExpr, gPar, gSet, gUn, gRet, gFor, put, convs, setAll, setSlot, RV.slot, retO, Fl.out, slot0, mNm, mC, mV, mO, mCons, mNil, mBin, mUn, gets, mB, mTup, mLst, Opd.get, Opd.toV, mTest, mTestB, asBl, mAndT, mOrT, mNotT, mIf, mAnd, mOr, mNot, truth, mSeq, mZip, mEnum, mRng1, mRng2, mCall, mCallR, mCallT, mCallK, RV.opd, itemsAt, putAt, Slot.items, Slot.put, bindT, setFzs, mYes, mFix, fixO, mSl, mP, mNoP, stH, sLt, bLen, hn], found, k, s5, s6, rfl, nd, fun x => ⟨hr x, fun z => closed_all h0 (fun x y h1 h2 h3 => hc x y h1 (by rw [List.take_of_length_le (by omega)]; exact h2) h3) x z⟩⟩)
    (n := l.length) (ρ := stH T l t [t] 0 .un .un) ⟨[t], 0, .un, .un, rfl, .inl rfl, .inl rfl, rfl, by simp, by simp, fun x hx => by simp at hx; subst hx; exact .base, by simp, fun x y _ h2 => by simp at h2⟩
  obtain ⟨found, k, s5, s6, e, nd, hm⟩ := hw
  have le1 := nd_len nd fun x hx => ((hm x).mp hx).inl ht
  have es := bSorted_ints (xs := found) (by omega)
  rw [show found.mergeSort (fun a b => decide (a ≤ b)) = rs (both T) l t from rs_of hl ht nd hm] at es
  refine ⟨.fz (.lst (lP T)), ?_⟩
  unfold gHung at e
  simp only [stH, lI_cons, lI_nil] at e
  simp [g_f_law_hung, R.fl, R.bind, R.of, gNext_ap, gSeq, gIf, gExpr, gPar, gSet, gUn, gRet, gFor, put, convs, setAll, setSlot, RV.slot, retO, Fl.out, slot0, mNm, mC, mV, mO, mCons, mNil, mBin, mUn, gets, mB, mTup, mLst, Opd.get, Opd.toV, mTest, mTestB, asBl, mAndT, mOrT, mNotT, mIf, mAnd, mOr, mNot, truth, mSeq, mZip, mEnum, mRng1, mRng2, mCall, mCallR, mCallT, mCallK, RV.opd, itemsAt, putAt, Slot.items, Slot.put, bindT, setFzs, mYes, mFix, fixO, mSl, mP, mNoP]
  have e' : ((0 : Nat) : Int) = 0 := rfl
  rw [e'] at e
  rw [e]
  simp [es, R.fl, R.bind, R.of, gNext_ap, gSeq, gIf, gExpr, gPar, gSet, gUn, gRet, gFor, put, convs, setAll, setSlot, RV.slot, retO, Fl.out, slot0, mNm, mC, mV, mO, mCons, mNil, mBin, mUn, gets, mB, mTup, mLst, Opd.get, Opd.toV, mTest, mTestB, asBl, mAndT, mOrT, mNotT, mIf, mAnd, mOr, mNot, truth, mSeq, mZip, mEnum, mRng1, mRng2, mCall, mCallR, mCallT, mCallK, RV.opd, itemsAt, putAt, Slot.items, Slot.put, bindT, setFzs, mYes, mFix, fixO, mSl, mP, mNoP]
end DL
namespace DL
open PySem PySem.Spec PyProof.Rows L2
noncomputable def fullB (A : List (Int × Int)) (l : List Int) (t : Int) : Bool := decide (rs A l t = l)
theorem full_len {A : List (Int × Int)} {l : List Int} {t : Int} : decide (((rs A l t).length : Int) = (l.length : Int)) = decide (rs A l t = l) := by
  by_cases h : rs A l t = l
  · rw [decide_eq_true h]
    simp [h]
  · rw [decide_eq_false h]
    refine decide_eq_false fun z => h ?_
    have z : (rs A l t).length = l.length := by omega
    unfold rs at z ⊢
    exact List.filter_eq_self.mpr (List.length_filter_eq_length_iff.mp z)
theorem fld1 (n : Nat) (A T : List (Int × Int)) : fldOf "Plan" "own_width" (planD n A T) = some (.val (.int n)) := rfl
theorem fld2 (n : Nat) (A T : List (Int × Int)) : fldOf "Plan" "own_arrows" (planD n A T) = some (.val (.lst (lP A))) := by
  unfold fldOf planD
  dsimp only
  rw [if_pos rfl]
  have h1 : (("own_arrows" : Str) == ("own_width" : Str)) = false := by decide +kernel
  have h2 : (("own_arrows" : Str) == ("own_arrows" : Str)) = true := by decide +kernel
  simp [List.lookup, h1, h2]
theorem fld3 (n : Nat) (A T : List (Int × Int)) : fldOf "Plan" "own_ties" (planD n A T) = some (.val (.lst (lP T))) := by
  unfold fldOf planD
  dsimp only
  rw [if_pos rfl]
  have h1 : (("own_ties" : Str) == ("own_width" : Str)) = false := by decide +kernel
  have h2 : (("own_ties" : Str) == ("own_arrows" : Str)) = false := by decide +kernel
  have h3 : (("own_ties" : Str) == ("own_ties" : Str)) = true := by decide +kernel
  simp [List.lookup, h1, h2, h3]
noncomputable def gHead : G := (gIf (mTestB (mBin sEq (mB bLen (mCons (mCall m_leaders (mCons (mV (mUn (fldOf ("Plan" : Str) ("own_arrows" : Str)) (mNm 0))) (mCons (mV (mNm 1)) (mCons (mV (mNm 2)) mNil)))) mNil)) (mB bLen (mCons (mNm 1) mNil))))
  (gRet (mNm 2))
  gNext)
theorem head_loop {n : Nat} {A T : List (Int × Int)} {l : List Int} (hA : A.length ≤ 1000000) (hl : Inc l) (hz : l.length ≤ 1000) :
    ∀ (xs : List Int), (∀ x ∈ xs, x ∈ l) → ∀ s2, (s2 = .un ∨ ∃ d, s2 = .fz d) →
      (xs.any (fullB A l) = true ∧ ∃ x ρ', forLoop (.nm 2) gHead (lI xs) [.fz (planD n A T), .fz (.lst (lI l)), s2] = .rt (.fz (.int x)) ρ') ∨
      (xs.any (fullB A l) = false ∧ ∃ s2', forLoop (.nm 2) gHead (lI xs) [.fz (planD n A T), .fz (.lst (lI l)), s2] = .nx [.fz (planD n A T), .fz (.lst (lI l)), s2'])
  | [], _, s2, _ => .inr ⟨rfl, s2, rfl⟩
  | x :: xs, hx, s2, h2 => by
    obtain ⟨s, e⟩ := leaders_eq hA hl (hx x List.mem_cons_self) hz
    have hb : bindT (.nm 2) (.int x) [.fz (planD n A T), .fz (.lst (lI l)), s2] = some [.fz (planD n A T), .fz (.lst (lI l)), .fz (.int x)] := by
      rcases h2 with rfl | ⟨d, rfl⟩ <;> rfl
    have hf := full_len (A := A) (l := l) (t := x)
    have hs : gHead [.fz (planD n A T), .fz (.lst (lI l)), .fz (.int x)] = if fullB A l x = true then .rt (.fz (.int x)) [.fz (planD n A T), .fz (.lst (lI l)), .fz (.int x)] else .nx [.fz (planD n A T), .fz (.lst (lI l)), .fz (.int x)] := by
      unfold fullB
      rw [← hf]
      by_cases c : ((rs A l x).length : Int) = (l.length : Int)
      · simp [gHead, R.fl, R.bind, R.of, gNext_ap, gSeq, gIf, gExpr, gPar, gSet, gUn, gRet, gFor, put, convs, setAll, setSlot, RV.slot, retO, Fl.out, slot0, mNm, mC, mV, mO, mCons, mNil, mBin, mUn, gets, mB, mTup, mLst, Opd.get, Opd.toV, mTest, mTestB, asBl, mAndT, mOrT, mNotT, mIf, mAnd, mOr, mNot, truth, mSeq, mZip, mEnum, mRng1, mRng2, mCall, mCallR, mCallT, mCallK, RV.opd, itemsAt, putAt, Slot.items, Slot.put, bindT, setFzs, mYes, mFix, fixO, mSl, mP, mNoP, fld2, e, bLen, sEq, c]
      · simp [gHead, R.fl, R.bind, R.of, gNext_ap, gSeq, gIf, gExpr, gPar, gSet, gUn, gRet, gFor, put, convs, setAll, setSlot, RV.slot, retO, Fl.out, slot0, mNm, mC, mV, mO, mCons, mNil, mBin, mUn, gets, mB, mTup, mLst, Opd.get, Opd.toV, mTest, mTestB, asBl, mAndT, mOrT, mNotT, mIf, mAnd, mOr, mNot, truth, mSeq, mZip, mEnum, mRng1, mRng2, mCall, mCallR, mCallT, mCallK, RV.opd, itemsAt, putAt, Slot.items, Slot.put, bindT, setFzs, mYes, mFix, fixO, mSl, mP, mNoP, fld2, e, bLen, sEq, c]
    rw [lI_cons]
    unfold forLoop
    rw [hb]
    dsimp only
    rw [hs]
    by_cases c : fullB A l x = true
    · rw [if_pos c]
      exact .inl ⟨by simp [c], x, _, rfl⟩
    · rw [if_neg c]
      have c' : fullB A l x = false := by simpa using c
      rcases head_loop hA hl hz xs (fun y hy => hx y (List.mem_cons_of_mem _ hy)) (.fz (.int x)) (.inr ⟨_, rfl⟩) with ⟨h1, h2⟩ | ⟨h1, h2⟩
      · exact .inl ⟨by simp [c', h1], h2⟩
      · exact .inr ⟨by rw [List.any_cons, c', h1]; rfl, h2⟩
theorem head_eq {n : Nat} {A T : List (Int × Int)} {l : List Int} (hA : A.length ≤ 1000000) (hl : Inc l) (hz : l.length ≤ 1000) : ∃ r s, m_head_of (.fz (planD n A T)) [.lst (lI l)] = .ok (.fz r) s ∧ r.isNon = !(l.any (fullB A l)) := by
  show ∃ r s, (g_head_of [.fz (planD n A T), .fz (.lst (lI l)), .un]).out = _ ∧ _
  rcases head_loop (n := n) (T := T) hA hl hz l (fun _ h => h) .un (.inl rfl) with ⟨h1, x, ρ', h2⟩ | ⟨h1, s2, h2⟩
  · refine ⟨.int x, slot0 ρ', ?_, by rw [h1]; rfl⟩
    unfold gHead at h2
    simp [g_head_of, R.fl, R.bind, R.of, gNext_ap, gSeq, gIf, gExpr, gPar, gSet, gUn, gRet, gFor, put, convs, setAll, setSlot, RV.slot, retO, Fl.out, slot0, mNm, mC, mV, mO, mCons, mNil, mBin, mUn, gets, mB, mTup, mLst, Opd.get, Opd.toV, mTest, mTestB, asBl, mAndT, mOrT, mNotT, mIf, mAnd, mOr, mNot, truth, mSeq, mZip, mEnum, mRng1, mRng2, mCall, mCallR, mCallT, mCallK, RV.opd, itemsAt, putAt, Slot.items, Slot.put, bindT, setFzs, mYes, mFix, fixO, mSl, mP, mNoP, Src.fixed, Opd.fixed, Src.items, asL]
    rw [h2]
  · refine ⟨.non, .fz (planD n A T), ?_, by rw [h1]; rfl⟩
    unfold gHead at h2
    simp [g_head_of, R.fl, R.bind, R.of, gNext_ap, gSeq, gIf, gExpr, gPar, gSet, gUn, gRet, gFor, put, convs, setAll, setSlot, RV.slot, retO, Fl.out, slot0, mNm, mC, mV, mO, mCons, mNil, mBin, mUn, gets, mB, mTup, mLst, Opd.get, Opd.toV, mTest, mTestB, asBl, mAndT, mOrT, mNotT, mIf, mAnd, mOr, mNot, truth, mSeq, mZip, mEnum, mRng1, mRng2, mCall, mCallR, mCallT, mCallK, RV.opd, itemsAt, putAt, Slot.items, Slot.put, bindT, setFzs, mYes, mFix, fixO, mSl, mP, mNoP, Src.fixed, Opd.fixed, Src.items, asL]
    rw [h2]
    simp
noncomputable def hangB (T : List (Int × Int)) : List Int → Bool
  | [] => true
  | h :: l => fullB (both T) (h :: l) h
theorem hangs_of_eq {n : Nat} {A T : List (Int × Int)} {l : List Int} (hT : T.length ≤ 1000) (hl : Inc l) (hz : l.length ≤ 1000) : ∃ s, m_hangs_of (.fz (planD n A T)) [.lst (lI l)] = .ok (.fz (.bl (hangB T l))) s := by
  show ∃ s, (g_hangs_of [.fz (planD n A T), .fz (.lst (lI l))]).out = _
  refine ⟨.fz (planD n A T), ?_⟩
  cases l with
  | nil => simp [g_hangs_of, R.fl, R.bind, R.of, gNext_ap, gSeq, gIf, gExpr, gPar, gSet, gUn, gRet, gFor, put, convs, setAll, setSlot, RV.slot, retO, Fl.out, slot0, mNm, mC, mV, mO, mCons, mNil, mBin, mUn, gets, mB, mTup, mLst, Opd.get, Opd.toV, mTest, mTestB, asBl, mAndT, mOrT, mNotT, mIf, mAnd, mOr, mNot, truth, mSeq, mZip, mEnum, mRng1, mRng2, mCall, mCallR, mCallT, mCallK, RV.opd, itemsAt, putAt, Slot.items, Slot.put, bindT, setFzs, mYes, mFix, fixO, mSl, mP, mNoP, sEq, hangB]
  | cons h r =>
    obtain ⟨s, e⟩ := part_in_eq (T := T) (l := h :: r) (t := h) (by omega) hl List.mem_cons_self hz
    have hf := full_len (A := both T) (l := h :: r) (t := h)
    have e0 : dEq (.lst (.int h :: lI r)) (.lst []) = some false := by simpa using dEq_ints (h :: r) []
    simp only [lI_cons, List.length_cons] at e hf
    simp only [hangB, fullB]
    rw [← hf]
    simp [g_hangs_of, R.fl, R.bind, R.of, gNext_ap, gSeq, gIf, gExpr, gPar, gSet, gUn, gRet, gFor, put, convs, setAll, setSlot, RV.slot, retO, Fl.out, slot0, mNm, mC, mV, mO, mCons, mNil, mBin, mUn, gets, mB, mTup, mLst, Opd.get, Opd.toV, mTest, mTestB, asBl, mAndT, mOrT, mNotT, mIf, mAnd, mOr, mNot, truth, mSeq, mZip, mEnum, mRng1, mRng2, mCall, mCallR, mCallT, mCallK, RV.opd, itemsAt, putAt, Slot.items, Slot.put, bindT, setFzs, mYes, mFix, fixO, mSl, mP, mNoP, sEq, e0, fld3, e, bLen]
theorem law_hangs_eq {T : List (Int × Int)} {l : List Int} (hT : T.length ≤ 1000) (hl : Inc l) (hz : l.length ≤ 1000) : ∃ s, m_f_law_hangs (.fz (.lst (lP T))) [.lst (lI l)] = .ok (.fz (.bl (hangB T l))) s := by
  show ∃ s, (g_f_law_hangs [.fz (.lst (lP T)), .fz (.lst (lI l))]).out = _
  refine ⟨.fz (.lst (lP T)), ?_⟩
  cases l with
  | nil => simp [g_f_law_hangs, R.fl, R.bind, R.of, gNext_ap, gSeq, gIf, gExpr, gPar, gSet, gUn, gRet, gFor, put, convs, setAll, setSlot, RV.slot, retO, Fl.out, slot0, mNm, mC, mV, mO, mCons, mNil, mBin, mUn, gets, mB, mTup, mLst, Opd.get, Opd.toV, mTest, mTestB, asBl, mAndT, mOrT, mNotT, mIf, mAnd, mOr, mNot, truth, mSeq, mZip, mEnum, mRng1, mRng2, mCall, mCallR, mCallT, mCallK, RV.opd, itemsAt, putAt, Slot.items, Slot.put, bindT, setFzs, mYes, mFix, fixO, mSl, mP, mNoP, sEq, hangB]
  | cons h r =>
    obtain ⟨s, e⟩ := hung_eq (T := T) (l := h :: r) (t := h) hT hl List.mem_cons_self hz
    have e0 : dEq (.lst (.int h :: lI r)) (.lst []) = some false := by simpa using dEq_ints (h :: r) []
    have e1 : dEq (.lst (lI (rs (both T) (h :: r) h))) (.lst (.int h :: lI r)) = some (decide (rs (both T) (h :: r) h = h :: r)) := dEq_ints _ (h :: r)
    simp only [lI_cons] at e
    simp only [hangB, fullB]
    simp [g_f_law_hangs, R.fl, R.bind, R.of, gNext_ap, gSeq, gIf, gExpr, gPar, gSet, gUn, gRet, gFor, put, convs, setAll, setSlot, RV.slot, retO, Fl.out, slot0, mNm, mC, mV, mO, mCons, mNil, mBin, mUn, gets, mB, mTup, mLst, Opd.get, Opd.toV, mTest, mTestB, asBl, mAndT, mOrT, mNotT, mIf, mAnd, mOr, mNot, truth, mSeq, mZip, mEnum, mRng1, mRng2, mCall, mCallR, mCallT, mCallK, RV.opd, itemsAt, putAt, Slot.items, Slot.put, bindT, setFzs, mYes, mFix, fixO, mSl, mP, mNoP, sEq, e0, e, e1]
theorem law_heads_eq {A : List (Int × Int)} {l : List Int} (hA : A.length ≤ 1000000) (nd : A.Nodup) (hl : Inc l) (hz : l.length ≤ 1000) : ∃ s, m_f_law_heads (.fz (.lst (lP A))) [.lst (lI l)] = .ok (.own (lI (l.filter (fullB A l)))) s := by
  show ∃ s, (g_f_law_heads [.fz (.lst (lP A)), .fz (.lst (lI l)), .un]).out = _
  have hc := comp_enc (ms := mSeq (mNm 1)) (own := [2]) (t := .nm 2) (test := mTestB (mBin sEq (mCall m_f_law_leaders (mCons (mV (mNm 0)) (mCons (mV (mNm 1)) (mCons (mV (mNm 2)) mNil)))) (mNm 1))) (elt := mV (mNm 2)) (ρ := [.fz (.lst (lP A)), .fz (.lst (lI l)), .un]) (ρ1 := [.fz (.lst (lP A)), .fz (.lst (lI l)), .un]) (src := .seqL (.nm 1)) (xs := l) (en := D.int) (fullB A l) (fun x => .int x)
    (by simp [R.fl, R.bind, R.of, gNext_ap, gSeq, gIf, gExpr, gPar, gSet, gUn, gRet, gFor, put, convs, setAll, setSlot, RV.slot, retO, Fl.out, slot0, mNm, mC, mV, mO, mCons, mNil, mBin, mUn, gets, mB, mTup, mLst, Opd.get, Opd.toV, mTest, mTestB, asBl, mAndT, mOrT, mNotT, mIf, mAnd, mOr, mNot, truth, mSeq, mZip, mEnum, mRng1, mRng2, mCall, mCallR, mCallT, mCallK, RV.opd, itemsAt, putAt, Slot.items, Slot.put, bindT, setFzs, mYes, mFix, fixO, mSl, mP, mNoP]) (by simp [ownOk, Slot.mine]) (by simp [wipeR, Src.items, Opd.get, asL]; rfl) (by omega) (fun a b e => by simpa using e) (fun x hx => by
      refine ⟨[.fz (.lst (lP A)), .fz (.lst (lI l)), .fz (.int x)], by simp [bindT, setFzs, setSlot, RV.slot, wipeR], by simp [ownOk, Slot.mine], by simp [wipeR], ?_, fun _ => by simp [R.fl, R.bind, R.of, gNext_ap, gSeq, gIf, gExpr, gPar, gSet, gUn, gRet, gFor, put, convs, setAll, setSlot, RV.slot, retO, Fl.out, slot0, mNm, mC, mV, mO, mCons, mNil, mBin, mUn, gets, mB, mTup, mLst, Opd.get, Opd.toV, mTest, mTestB, asBl, mAndT, mOrT, mNotT, mIf, mAnd, mOr, mNot, truth, mSeq, mZip, mEnum, mRng1, mRng2, mCall, mCallR, mCallT, mCallK, RV.opd, itemsAt, putAt, Slot.items, Slot.put, bindT, setFzs, mYes, mFix, fixO, mSl, mP, mNoP]⟩
      obtain ⟨s, e⟩ := law_leaders_eq hA nd hl hx hz
      simp [R.fl, R.bind, R.of, gNext_ap, gSeq, gIf, gExpr, gPar, gSet, gUn, gRet, gFor, put, convs, setAll, setSlot, RV.slot, retO, Fl.out, slot0, mNm, mC, mV, mO, mCons, mNil, mBin, mUn, gets, mB, mTup, mLst, Opd.get, Opd.toV, mTest, mTestB, asBl, mAndT, mOrT, mNotT, mIf, mAnd, mOr, mNot, truth, mSeq, mZip, mEnum, mRng1, mRng2, mCall, mCallR, mCallT, mCallK, RV.opd, itemsAt, putAt, Slot.items, Slot.put, bindT, setFzs, mYes, mFix, fixO, mSl, mP, mNoP, e, sEq, fullB])
  refine ⟨.fz (.lst (lP A)), ?_⟩
  simp [g_f_law_heads, R.fl, R.bind, R.of, gNext_ap, gSeq, gIf, gExpr, gPar, gSet, gUn, gRet, gFor, put, convs, setAll, setSlot, RV.slot, retO, Fl.out, slot0, mNm, mC, mV, mO, mCons, mNil, mBin, mUn, gets, mB, mTup, mLst, Opd.get, Opd.toV, mTest, mTestB, asBl, mAndT, mOrT, mNotT, mIf, mAnd, mOr, mNot, truth, mSeq, mZip, mEnum, mRng1, mRng2, mCall, mCallR, mCallT, mCallK, RV.opd, itemsAt, putAt, Slot.items, Slot.put, bindT, setFzs, mYes, mFix, fixO, mSl, mP, mNoP, hc]
  rfl
noncomputable def bar (A T : List (Int × Int)) (l : List Int) : Bool := decide (1 < l.length) && (l.any (fullB A l) && hangB T l)
theorem is_bar_eq {n : Nat} {A T : List (Int × Int)} {l : List Int} (hA : A.length ≤ 1000000) (hT : T.length ≤ 1000) (hl : Inc l) (hz : l.length ≤ 1000) : ∃ s, m_is_bar (.fz (planD n A T)) [.lst (lI l)] = .ok (.fz (.bl (bar A T l))) s := by
  show ∃ s, (g_is_bar [.fz (planD n A T), .fz (.lst (lI l))]).out = _
  obtain ⟨r, s1, e1, hr⟩ := head_eq (n := n) (T := T) hA hl hz
  obtain ⟨s2, e2⟩ := hangs_of_eq (n := n) (A := A) hT hl hz
  refine ⟨.fz (planD n A T), ?_⟩
  have cc : decide ((1 : Int) < (l.length : Int)) = decide (1 < l.length) := by by_cases c : 1 < l.length <;> simp [c] <;> omega
  by_cases c : 1 < l.length
  · cases h : l.any (fullB A l) <;> rw [h] at hr <;> simp [g_is_bar, R.fl, R.bind, R.of, gNext_ap, gSeq, gIf, gExpr, gPar, gSet, gUn, gRet, gFor, put, convs, setAll, setSlot, RV.slot, retO, Fl.out, slot0, mNm, mC, mV, mO, mCons, mNil, mBin, mUn, gets, mB, mTup, mLst, Opd.get, Opd.toV, mTest, mTestB, asBl, mAndT, mOrT, mNotT, mIf, mAnd, mOr, mNot, truth, mSeq, mZip, mEnum, mRng1, mRng2, mCall, mCallR, mCallT, mCallK, RV.opd, itemsAt, putAt, Slot.items, Slot.put, bindT, setFzs, mYes, mFix, fixO, mSl, mP, mNoP, bLen, sGt, cc, c, e1, e2, sIsN, hr, bar, h]
  · simp [g_is_bar, R.fl, R.bind, R.of, gNext_ap, gSeq, gIf, gExpr, gPar, gSet, gUn, gRet, gFor, put, convs, setAll, setSlot, RV.slot, retO, Fl.out, slot0, mNm, mC, mV, mO, mCons, mNil, mBin, mUn, gets, mB, mTup, mLst, Opd.get, Opd.toV, mTest, mTestB, asBl, mAndT, mOrT, mNotT, mIf, mAnd, mOr, mNot, truth, mSeq, mZip, mEnum, mRng1, mRng2, mCall, mCallR, mCallT, mCallK, RV.opd, itemsAt, putAt, Slot.items, Slot.put, bindT, setFzs, mYes, mFix, fixO, mSl, mP, mNoP, bLen, sGt, cc, c, bar]
theorem law_is_bar_eq {n : Nat} {A T : List (Int × Int)} {l : List Int} (hA : A.length ≤ 1000000) (nd : A.Nodup) (hT : T.length ≤ 1000) (hl : Inc l) (hz : l.length ≤ 1000) : ∃ s, m_f_law_is_bar (.fz (worldD n A T)) [.lst (lI l)] = .ok (.fz (.bl (bar A T l))) s := by
  show ∃ s, (g_f_law_is_bar [.fz (worldD n A T), .fz (.lst (lI l))]).out = _
  obtain ⟨s1, e1⟩ := law_hangs_eq hT hl hz
  obtain ⟨s2, e2⟩ := law_heads_eq hA nd hl hz
  have i1 : sIxD (worldD n A T) (.int 1) = some (.val (.lst (lP A))) := rfl
  have i2 : sIxD (worldD n A T) (.int 2) = some (.val (.lst (lP T))) := rfl
  refine ⟨.fz (worldD n A T), ?_⟩
  have cc : decide ((1 : Int) < (l.length : Int)) = decide (1 < l.length) := by by_cases c : 1 < l.length <;> simp [c] <;> omega
  by_cases c : 1 < l.length
  · have hf : decide (l.filter (fullB A l) = []) = !(l.any (fullB A l)) := by
      cases h : l.any (fullB A l) with
      | true =>
        obtain ⟨x, hx, hy⟩ := List.any_eq_true.mp h
        refine decide_eq_false fun z => ?_
        have := List.mem_filter.mpr ⟨hx, hy⟩
        rw [z] at this; cases this
      | false =>
        refine decide_eq_true (List.filter_eq_nil_iff.mpr fun x hx hy => ?_)
        have := List.any_eq_true.mpr ⟨x, hx, hy⟩
        rw [h] at this; cases this
    cases h : hangB T l <;> cases h2 : l.any (fullB A l) <;> rw [h] at e1 <;> rw [h2] at hf <;> simp [g_f_law_is_bar, R.fl, R.bind, R.of, gNext_ap, gSeq, gIf, gExpr, gPar, gSet, gUn, gRet, gFor, put, convs, setAll, setSlot, RV.slot, retO, Fl.out, slot0, mNm, mC, mV, mO, mCons, mNil, mBin, mUn, gets, mB, mTup, mLst, Opd.get, Opd.toV, mTest, mTestB, asBl, mAndT, mOrT, mNotT, mIf, mAnd, mOr, mNot, truth, mSeq, mZip, mEnum, mRng1, mRng2, mCall, mCallR, mCallT, mCallK, RV.opd, itemsAt, putAt, Slot.items, Slot.put, bindT, setFzs, mYes, mFix, fixO, mSl, mP, mNoP, bLen, sGt, cc, c, e1, e2, i1, i2, sNe, dEq_nilR, hf, bar, h, h2, -decide_eq_true_eq, -List.filter_eq_nil_iff]
  · simp [g_f_law_is_bar, R.fl, R.bind, R.of, gNext_ap, gSeq, gIf, gExpr, gPar, gSet, gUn, gRet, gFor, put, convs, setAll, setSlot, RV.slot, retO, Fl.out, slot0, mNm, mC, mV, mO, mCons, mNil, mBin, mUn, gets, mB, mTup, mLst, Opd.get, Opd.toV, mTest, mTestB, asBl, mAndT, mOrT, mNotT, mIf, mAnd, mOr, mNot, truth, mSeq, mZip, mEnum, mRng1, mRng2, mCall, mCallR, mCallT, mCallK, RV.opd, itemsAt, putAt, Slot.items, Slot.put, bindT, setFzs, mYes, mFix, fixO, mSl, mP, mNoP, bLen, sGt, cc, c, bar]
end DL
namespace DL
open PySem PySem.Spec PyProof.Rows L2
theorem comp_any {elt : M D} {a v : D} {xs : List D} {rest : Rho} (f : D → Bool) (hv : seqOf v = some xs) (hm : ∀ d ∈ xs, elt (.fz a :: .fz v :: .fz d :: rest) = .ok (.bl (f d)) (.fz a :: .fz v :: .fz d :: rest)) (hl : xs.length ≤ 1000000) :
    mComp (mSeq (mNm 1)) [2] (.nm 2) mYes elt (.fz a :: .fz v :: .un :: rest) = .ok (.tmp (xs.map fun d => .bl (f d))) (.fz a :: .fz v :: .un :: rest) := by
  have go : ∀ src : Src, src.items (.fz a :: .fz v :: .un :: rest) = some xs → mSeq (mNm 1) (.fz a :: .fz v :: .un :: rest) = .ok src (.fz a :: .fz v :: .un :: rest) →
      mComp (mSeq (mNm 1)) [2] (.nm 2) mYes elt (.fz a :: .fz v :: .un :: rest) = .ok (.tmp (xs.map fun d => .bl (f d))) (.fz a :: .fz v :: .un :: rest) := fun src hi hs => by
    have e := comp_pure (own := [2]) (t := .nm 2) (test := mYes) (elt := elt) (ds := xs) (fun _ => true) (fun d => .bl (f d)) hs (by simp [ownOk, Slot.mine]) (by simpa [wipeR] using hi) hl (fun d hd =>
      ⟨.fz a :: .fz v :: .fz d :: rest, by simp [bindT, setSlot, RV.slot, wipeR], by simp [ownOk, Slot.mine], by simp [wipeR], rfl, fun _ => hm d hd⟩)
    rw [e, filter_yes]
  cases v with
  | lst ys => cases hv; exact go (.seqL (.nm 1)) (by simp [Src.items, Opd.get, asL]) (by simp [R.fl, R.bind, R.of, gNext_ap, gSeq, gIf, gExpr, gPar, gSet, gUn, gRet, gFor, put, convs, setAll, setSlot, RV.slot, retO, Fl.out, slot0, mNm, mC, mV, mO, mCons, mNil, mBin, mUn, gets, mB, mTup, mLst, Opd.get, Opd.toV, mTest, mTestB, asBl, mAndT, mOrT, mNotT, mIf, mAnd, mOr, mNot, truth, mSeq, mZip, mEnum, mRng1, mRng2, mCall, mCallR, mCallT, mCallK, RV.opd, itemsAt, putAt, Slot.items, Slot.put, bindT, setFzs, mYes, mFix, fixO, mSl, mP, mNoP])
  | tup ys => cases hv; exact go (.seqT (.nm 1)) (by simp [Src.items, Opd.get, asT]) (by simp [R.fl, R.bind, R.of, gNext_ap, gSeq, gIf, gExpr, gPar, gSet, gUn, gRet, gFor, put, convs, setAll, setSlot, RV.slot, retO, Fl.out, slot0, mNm, mC, mV, mO, mCons, mNil, mBin, mUn, gets, mB, mTup, mLst, Opd.get, Opd.toV, mTest, mTestB, asBl, mAndT, mOrT, mNotT, mIf, mAnd, mOr, mNot, truth, mSeq, mZip, mEnum, mRng1, mRng2, mCall, mCallR, mCallT, mCallK, RV.opd, itemsAt, putAt, Slot.items, Slot.put, bindT, setFzs, mYes, mFix, fixO, mSl, mP, mNoP])
  | _ => cases hv
theorem lI_tail (l : List Int) : (lI l).tail = lI l.tail := by cases l <;> rfl
theorem comp_near {a v : D} {l : List Int} (hv : seqOf v = some (lI l)) (hl : l.length ≤ 1000000) :
    mComp (mZip (mCons (mNm 1) (mCons (mSl (mNm 1) (mP (mC (.int (1)))) mNoP) mNil))) [3, 4] (.tup [3, 4]) mYes (mV (mBin sLt (mNm 3) (mNm 4))) [.fz a, .fz v, .un, .un, .un] = .ok (.tmp ((l.zip l.tail).map fun p => .bl (decide (p.1 < p.2)))) [.fz a, .fz v, .un, .un, .un] := by
  have hz : zipD (lI l) (lI l.tail) = (l.zip l.tail).map fun p => .tup [.int p.1, .int p.2] := zipD_map D.int l l.tail
  have go : ∀ src : Src, src.items [.fz a, .fz v, .un, .un, .un] = some ((l.zip l.tail).map pD) → mZip (mCons (mNm 1) (mCons (mSl (mNm 1) (mP (mC (.int (1)))) mNoP) mNil)) [.fz a, .fz v, .un, .un, .un] = .ok src [.fz a, .fz v, .un, .un, .un] →
      mComp (mZip (mCons (mNm 1) (mCons (mSl (mNm 1) (mP (mC (.int (1)))) mNoP) mNil))) [3, 4] (.tup [3, 4]) mYes (mV (mBin sLt (mNm 3) (mNm 4))) [.fz a, .fz v, .un, .un, .un] = .ok (.tmp ((l.zip l.tail).map fun p => .bl (decide (p.1 < p.2)))) [.fz a, .fz v, .un, .un, .un] := fun src hi hs => by
    have e := comp_enc (own := [3, 4]) (t := .tup [3, 4]) (test := mYes) (elt := mV (mBin sLt (mNm 3) (mNm 4))) (xs := l.zip l.tail) (en := pD) (fun _ => true) (fun p => .bl (decide (p.1 < p.2))) hs (by simp [ownOk, Slot.mine]) (by simpa [wipeR] using hi) (by rw [List.length_zip]; omega) (fun a b e => pD_inj e) (fun p hp =>
      ⟨[.fz a, .fz v, .un, .fz (.int p.1), .fz (.int p.2)], by simp [bindT, setFzs, setSlot, RV.slot, wipeR], by simp [ownOk, Slot.mine], by simp [wipeR], rfl, fun _ => by simp [R.fl, R.bind, R.of, gNext_ap, gSeq, gIf, gExpr, gPar, gSet, gUn, gRet, gFor, put, convs, setAll, setSlot, RV.slot, retO, Fl.out, slot0, mNm, mC, mV, mO, mCons, mNil, mBin, mUn, gets, mB, mTup, mLst, Opd.get, Opd.toV, mTest, mTestB, asBl, mAndT, mOrT, mNotT, mIf, mAnd, mOr, mNot, truth, mSeq, mZip, mEnum, mRng1, mRng2, mCall, mCallR, mCallT, mCallK, RV.opd, itemsAt, putAt, Slot.items, Slot.put, bindT, setFzs, mYes, mFix, fixO, mSl, mP, mNoP, sLt]⟩)
    rw [e, filter_yes]
  cases v with
  | lst ys => cases hv; exact go (.zipL (.nm 1) (.tmp (lI l.tail))) (by simp [Src.items, Opd.get, asL]; exact hz) (by simp [R.fl, R.bind, R.of, gNext_ap, gSeq, gIf, gExpr, gPar, gSet, gUn, gRet, gFor, put, convs, setAll, setSlot, RV.slot, retO, Fl.out, slot0, mNm, mC, mV, mO, mCons, mNil, mBin, mUn, gets, mB, mTup, mLst, Opd.get, Opd.toV, mTest, mTestB, asBl, mAndT, mOrT, mNotT, mIf, mAnd, mOr, mNot, truth, mSeq, mZip, mEnum, mRng1, mRng2, mCall, mCallR, mCallT, mCallK, RV.opd, itemsAt, putAt, Slot.items, Slot.put, bindT, setFzs, mYes, mFix, fixO, mSl, mP, mNoP, sSl1L, asInt1, lI_tail])
  | tup ys => cases hv; exact go (.zipT (.nm 1) (.val (.tup (lI l.tail)))) (by simp [Src.items, Opd.get, asT]; exact hz) (by simp [R.fl, R.bind, R.of, gNext_ap, gSeq, gIf, gExpr, gPar, gSet, gUn, gRet, gFor, put, convs, setAll, setSlot, RV.slot, retO, Fl.out, slot0, mNm, mC, mV, mO, mCons, mNil, mBin, mUn, gets, mB, mTup, mLst, Opd.get, Opd.toV, mTest, mTestB, asBl, mAndT, mOrT, mNotT, mIf, mAnd, mOr, mNot, truth, mSeq, mZip, mEnum, mRng1, mRng2, mCall, mCallR, mCallT, mCallK, RV.opd, itemsAt, putAt, Slot.items, Slot.put, bindT, setFzs, mYes, mFix, fixO, mSl, mP, mNoP, sSl1T, asInt1, lI_tail])
  | _ => cases hv
def incB (l : List Int) : Bool := adj (fun a b => decide (a < b)) l
theorem incB_inc : ∀ {l : List Int}, incB l = true → Inc l
  | [], _ => .nil
  | [x], _ => List.pairwise_singleton _ _
  | x :: y :: l, h => by
    have h : (decide (x < y) && incB (y :: l)) = true := h
    rw [Bool.and_eq_true] at h
    have ih := incB_inc h.2
    have hxy : x < y := of_decide_eq_true h.1
    refine List.Pairwise.cons (fun z hz => ?_) ih
    rcases List.mem_cons.mp hz with rfl | hz
    · exact hxy
    · have := (List.pairwise_cons.mp ih).1 z hz
      omega
theorem near_all {l : List Int} : bAll [.lst ((l.zip l.tail).map fun p => .bl (decide (p.1 < p.2)))] = some (.val (.bl (incB l))) := by
  rw [all_bl (fun p : Int × Int => decide (p.1 < p.2)) (l.zip l.tail), all_adj (fun a b => decide (a < b)) l]; rfl
theorem bList_seq {v : D} {xs : List D} (hv : seqOf v = some xs) : bList [v] = some (.tmp xs) := by
  cases v <;> first | (cases hv; done) | (cases hv; rfl)
/-- what a law hands in, its items too -/
structure Val (v : D) : Prop where
  pl : Plainy v
  it : ∀ xs, seqOf v = some xs → (∀ x ∈ xs, Plainy x) ∧ xs.length ≤ 900
theorem ints_of_all {xs : List D} (h : xs.all isI = true) : ∃ l, xs = lI l := by
  induction xs with
  | nil => exact ⟨[], rfl⟩
  | cons x xs ih =>
    rw [List.all_cons, Bool.and_eq_true] at h
    obtain ⟨l, rfl⟩ := ih h.2
    cases x with
    | int i => exact ⟨i :: l, rfl⟩
    | _ => cases h.1
theorem thing_isI {w : Int} {d : D} (h : thing w d = true) : isI d = true := by cases d <;> first | rfl | cases h
/-- the lot of a value -/
def lotD (w : Int) (v : D) : Option (List Int) := (seqOf v).bind fun xs => if xs.all (thing w) = true then (intsOf xs).bind fun l => if incB l = true then some l else none else none
theorem lotD_none {w : Int} {v : D} (hs : seqOf v = none) : lotD w v = none := by unfold lotD; rw [hs]; rfl
theorem lotD_bad {w : Int} {v : D} {xs : List D} (hs : seqOf v = some xs) (h : xs.all (thing w) = false) : lotD w v = none := by
  unfold lotD
  rw [hs, Option.bind_some, h, if_neg Bool.false_ne_true]
theorem lotD_ints {w : Int} {v : D} {l : List Int} (hs : seqOf v = some (lI l)) (h : (lI l).all (thing w) = true) : lotD w v = if incB l = true then some l else none := by
  unfold lotD
  rw [hs, Option.bind_some, h, if_pos rfl, intsOf_lI]; rfl
theorem lot_in_eq {w : Int} {v : D} (hv : Val v) : m_lot_in (.fz (.int w)) [v] = .ok (match lotD w v with | some l => .own (lI l) | none => .fz .non) (.fz (.int w)) := by
  show (g_lot_in [.fz (.int w), .fz v, .un, .un, .un]).out = _
  cases hs : seqOf v with
  | none =>
    have hl : m_is_list (.fz v) [] = .ok (.fz (.bl false)) (.fz v) := by rw [is_list_eq hv.pl]; cases v <;> first | rfl | cases hs
    rw [lotD_none hs]
    simp [g_lot_in, R.fl, R.bind, R.of, gNext_ap, gSeq, gIf, gExpr, gPar, gSet, gUn, gRet, gFor, put, convs, setAll, setSlot, RV.slot, retO, Fl.out, slot0, mNm, mC, mV, mO, mCons, mNil, mBin, mUn, gets, mB, mTup, mLst, Opd.get, Opd.toV, mTest, mTestB, asBl, mAndT, mOrT, mNotT, mIf, mAnd, mOr, mNot, truth, mSeq, mZip, mEnum, mRng1, mRng2, mCall, mCallR, mCallT, mCallK, RV.opd, itemsAt, putAt, Slot.items, Slot.put, bindT, setFzs, mYes, mFix, fixO, mSl, mP, mNoP, hl]
  | some xs =>
    obtain ⟨h1, h2⟩ := hv.it xs hs
    have hc := comp_things (w := w) (rest := [.un, .un]) hs h1 (by omega)
    have ha := all_bl (thing w) xs
    cases ht : xs.all (thing w) with
    | false =>
      rw [ht] at ha
      rw [lotD_bad hs ht]
      simp [g_lot_in, R.fl, R.bind, R.of, gNext_ap, gSeq, gIf, gExpr, gPar, gSet, gUn, gRet, gFor, put, convs, setAll, setSlot, RV.slot, retO, Fl.out, slot0, mNm, mC, mV, mO, mCons, mNil, mBin, mUn, gets, mB, mTup, mLst, Opd.get, Opd.toV, mTest, mTestB, asBl, mAndT, mOrT, mNotT, mIf, mAnd, mOr, mNot, truth, mSeq, mZip, mEnum, mRng1, mRng2, mCall, mCallR, mCallT, mCallK, RV.opd, itemsAt, putAt, Slot.items, Slot.put, bindT, setFzs, mYes, mFix, fixO, mSl, mP, mNoP, is_list_seq hs, hc, ha]
    | true =>
      obtain ⟨l, rfl⟩ := ints_of_all (xs := xs) (List.all_eq_true.mpr fun x hx => thing_isI (List.all_eq_true.mp ht x hx))
      rw [ht] at ha
      have hn := comp_near (a := .int w) hs (by simp at h2; omega)
      have hb := near_all (l := l)
      rw [lotD_ints hs ht]
      cases hi : incB l <;> rw [hi] at hb <;> simp [g_lot_in, R.fl, R.bind, R.of, gNext_ap, gSeq, gIf, gExpr, gPar, gSet, gUn, gRet, gFor, put, convs, setAll, setSlot, RV.slot, retO, Fl.out, slot0, mNm, mC, mV, mO, mCons, mNil, mBin, mUn, gets, mB, mTup, mLst, Opd.get, Opd.toV, mTest, mTestB, asBl, mAndT, mOrT, mNotT, mIf, mAnd, mOr, mNot, truth, mSeq, mZip, mEnum, mRng1, mRng2, mCall, mCallR, mCallT, mCallK, RV.opd, itemsAt, putAt, Slot.items, Slot.put, bindT, setFzs, mYes, mFix, fixO, mSl, mP, mNoP, is_list_seq hs, hc, ha, hn, hb, bList_seq hs]
theorem due_eq {n : Nat} {A T : List (Int × Int)} {v : D} (hv : Val v) (hA : A.length ≤ 1000000) (nd : A.Nodup) (hT : T.length ≤ 1000) : ∃ s, m_f_law_due (.fz (worldD n A T)) [v] = .ok (.fz (.bl (match lotD n v with | some l => bar A T l | none => false))) s := by
  show ∃ s, (g_f_law_due [.fz (worldD n A T), .fz v, .un, .un, .un]).out = _
  refine ⟨.fz (worldD n A T), ?_⟩
  cases hs : seqOf v with
  | none =>
    have hl : isLT clsL v = some (.val (.bl false)) := by
      have := hv.pl
      cases v <;> first | exact this.elim | (cases hs; done) | rfl
    rw [lotD_none hs]
    simp [g_f_law_due, R.fl, R.bind, R.of, gNext_ap, gSeq, gIf, gExpr, gPar, gSet, gUn, gRet, gFor, put, convs, setAll, setSlot, RV.slot, retO, Fl.out, slot0, mNm, mC, mV, mO, mCons, mNil, mBin, mUn, gets, mB, mTup, mLst, Opd.get, Opd.toV, mTest, mTestB, asBl, mAndT, mOrT, mNotT, mIf, mAnd, mOr, mNot, truth, mSeq, mZip, mEnum, mRng1, mRng2, mCall, mCallR, mCallT, mCallK, RV.opd, itemsAt, putAt, Slot.items, Slot.put, bindT, setFzs, mYes, mFix, fixO, mSl, mP, mNoP, hl]
  | some xs =>
    obtain ⟨h1, h2⟩ := hv.it xs hs
    have hl : isLT clsL v = some (.val (.bl true)) := by cases v <;> first | rfl | cases hs
    have hc := comp_any (elt := mV (mAnd (mUn (isB clsL "int") (mNm 2)) (mNot (mUn (isB clsL "bool") (mNm 2))))) (a := worldD n A T) (rest := [.un, .un]) isI hs (fun d hd => by
      have := h1 d hd
      cases d <;> first | exact this.elim | rfl) (by omega)
    have ha := all_bl isI xs
    cases ht : xs.all isI with
    | false =>
      have hf : xs.all (thing n) = false := by
        cases e : xs.all (thing n) with
        | false => rfl
        | true => rw [List.all_eq_true.mpr fun x hx => thing_isI (List.all_eq_true.mp e x hx)] at ht; cases ht
      rw [ht] at ha
      rw [lotD_bad hs hf]
      simp [g_f_law_due, R.fl, R.bind, R.of, gNext_ap, gSeq, gIf, gExpr, gPar, gSet, gUn, gRet, gFor, put, convs, setAll, setSlot, RV.slot, retO, Fl.out, slot0, mNm, mC, mV, mO, mCons, mNil, mBin, mUn, gets, mB, mTup, mLst, Opd.get, Opd.toV, mTest, mTestB, asBl, mAndT, mOrT, mNotT, mIf, mAnd, mOr, mNot, truth, mSeq, mZip, mEnum, mRng1, mRng2, mCall, mCallR, mCallT, mCallK, RV.opd, itemsAt, putAt, Slot.items, Slot.put, bindT, setFzs, mYes, mFix, fixO, mSl, mP, mNoP, hl, hc, ha]
    | true =>
      obtain ⟨l, rfl⟩ := ints_of_all ht
      rw [ht] at ha
      have i0 : sIxD (worldD n A T) (.int 0) = some (.val (.int n)) := by unfold worldD; simp
      have hc2 := comp_any (elt := mV (mChain sLe sLt (mC (.int (0))) (mNm 2) (mBin sIxD (mNm 0) (mC (.int (0)))))) (a := worldD n A T) (rest := [.un, .un]) (thing n) hs (fun d hd => by
        obtain ⟨x, _, rfl⟩ := List.mem_map.mp hd
        by_cases c : 0 ≤ x <;> simp [mChain, R.fl, R.bind, R.of, gNext_ap, gSeq, gIf, gExpr, gPar, gSet, gUn, gRet, gFor, put, convs, setAll, setSlot, RV.slot, retO, Fl.out, slot0, mNm, mC, mV, mO, mCons, mNil, mBin, mUn, gets, mB, mTup, mLst, Opd.get, Opd.toV, mTest, mTestB, asBl, mAndT, mOrT, mNotT, mIf, mAnd, mOr, mNot, truth, mSeq, mZip, mEnum, mRng1, mRng2, mCall, mCallR, mCallT, mCallK, RV.opd, itemsAt, putAt, Slot.items, Slot.put, bindT, setFzs, mYes, mFix, fixO, mSl, mP, mNoP, sLe, sLt, c, i0, thing]) (by omega)
      have ha2 := all_bl (thing n) (lI l)
      cases ht2 : (lI l).all (thing n) with
      | false =>
        rw [ht2] at ha2
        rw [lotD_bad hs ht2]
        simp [g_f_law_due, R.fl, R.bind, R.of, gNext_ap, gSeq, gIf, gExpr, gPar, gSet, gUn, gRet, gFor, put, convs, setAll, setSlot, RV.slot, retO, Fl.out, slot0, mNm, mC, mV, mO, mCons, mNil, mBin, mUn, gets, mB, mTup, mLst, Opd.get, Opd.toV, mTest, mTestB, asBl, mAndT, mOrT, mNotT, mIf, mAnd, mOr, mNot, truth, mSeq, mZip, mEnum, mRng1, mRng2, mCall, mCallR, mCallT, mCallK, RV.opd, itemsAt, putAt, Slot.items, Slot.put, bindT, setFzs, mYes, mFix, fixO, mSl, mP, mNoP, hl, hc, ha, hc2, ha2]
      | true =>
        rw [ht2] at ha2
        have hn := comp_near (a := worldD n A T) hs (by simp at h2; omega)
        have hb := near_all (l := l)
        cases hi : incB l with
        | false =>
          rw [hi] at hb
          rw [lotD_ints hs ht2, hi]
          simp [g_f_law_due, R.fl, R.bind, R.of, gNext_ap, gSeq, gIf, gExpr, gPar, gSet, gUn, gRet, gFor, put, convs, setAll, setSlot, RV.slot, retO, Fl.out, slot0, mNm, mC, mV, mO, mCons, mNil, mBin, mUn, gets, mB, mTup, mLst, Opd.get, Opd.toV, mTest, mTestB, asBl, mAndT, mOrT, mNotT, mIf, mAnd, mOr, mNot, truth, mSeq, mZip, mEnum, mRng1, mRng2, mCall, mCallR, mCallT, mCallK, RV.opd, itemsAt, putAt, Slot.items, Slot.put, bindT, setFzs, mYes, mFix, fixO, mSl, mP, mNoP, hl, hc, ha, hc2, ha2, hn, hb]
        | true =>
          rw [hi] at hb
          obtain ⟨s, e⟩ := law_is_bar_eq (n := n) (A := A) (T := T) (l := l) hA nd hT (incB_inc hi) (by simp at h2; omega)
          rw [lotD_ints hs ht2, hi]
          simp [g_f_law_due, R.fl, R.bind, R.of, gNext_ap, gSeq, gIf, gExpr, gPar, gSet, gUn, gRet, gFor, put, convs, setAll, setSlot, RV.slot, retO, Fl.out, slot0, mNm, mC, mV, mO, mCons, mNil, mBin, mUn, gets, mB, mTup, mLst, Opd.get, Opd.toV, mTest, mTestB, asBl, mAndT, mOrT, mNotT, mIf, mAnd, mOr, mNot, truth, mSeq, mZip, mEnum, mRng1, mRng2, mCall, mCallR, mCallT, mCallK, RV.opd, itemsAt, putAt, Slot.items, Slot.put, bindT, setFzs, mYes, mFix, fixO, mSl, mP, mNoP, hl, hc, ha, hc2, ha2, hn, hb, bList_seq hs, e]
theorem want_eq {n : Nat} {A T : List (Int × Int)} : m_want_plan (.fz (planD n A T)) [] = .ok (.fz (planD n A T)) (.fz (planD n A T)) := by
  show (g_want_plan [.fz (planD n A T)]).out = _
  have h : isC clsL "Plan" (planD n A T) = some (.val (.bl true)) := by
    unfold isC planD
    dsimp only
    rw [if_pos rfl]
  simp [g_want_plan, R.fl, R.bind, R.of, gNext_ap, gSeq, gIf, gExpr, gPar, gSet, gUn, gRet, gFor, put, convs, setAll, setSlot, RV.slot, retO, Fl.out, slot0, mNm, mC, mV, mO, mCons, mNil, mBin, mUn, gets, mB, mTup, mLst, Opd.get, Opd.toV, mTest, mTestB, asBl, mAndT, mOrT, mNotT, mIf, mAnd, mOr, mNot, truth, mSeq, mZip, mEnum, mRng1, mRng2, mCall, mCallR, mCallT, mCallK, RV.opd, itemsAt, putAt, Slot.items, Slot.put, bindT, setFzs, mYes, mFix, fixO, mSl, mP, mNoP, h]
theorem is_barred_eq {n : Nat} {A T : List (Int × Int)} {v : D} (hv : Val v) (hA : A.length ≤ 1000000) (hT : T.length ≤ 1000) : ∃ s, m_is_barred (.fz (planD n A T)) [v] = .ok (.fz (.bl (match lotD n v with | some l => bar A T l | none => false))) s := by
  show ∃ s, (g_is_barred [.fz (planD n A T), .fz v, .un, .un]).out = _
  refine ⟨.fz (planD n A T), ?_⟩
  have e := lot_in_eq (w := n) hv
  cases hd : lotD n v with
  | none =>
    rw [hd] at e
    simp [g_is_barred, R.fl, R.bind, R.of, gNext_ap, gSeq, gIf, gExpr, gPar, gSet, gUn, gRet, gFor, put, convs, setAll, setSlot, RV.slot, retO, Fl.out, slot0, mNm, mC, mV, mO, mCons, mNil, mBin, mUn, gets, mB, mTup, mLst, Opd.get, Opd.toV, mTest, mTestB, asBl, mAndT, mOrT, mNotT, mIf, mAnd, mOr, mNot, truth, mSeq, mZip, mEnum, mRng1, mRng2, mCall, mCallR, mCallT, mCallK, RV.opd, itemsAt, putAt, Slot.items, Slot.put, bindT, setFzs, mYes, mFix, fixO, mSl, mP, mNoP, want_eq, fld1, e, sIsN, D.isNon]
  | some l =>
    rw [hd] at e
    have hi : Inc l ∧ l.length ≤ 1000 := by
      unfold lotD at hd
      simp only [Option.bind_eq_some_iff] at hd
      obtain ⟨xs, h1, h2⟩ := hd
      split at h2
      · simp only [Option.bind_eq_some_iff] at h2
        obtain ⟨l', h3, h4⟩ := h2
        split at h4
        · rename_i hz
          cases h4
          have hx : xs = lI l := by
            rename_i hall
            obtain ⟨l2, rfl⟩ := ints_of_all (xs := xs) (List.all_eq_true.mpr fun x hx => thing_isI (List.all_eq_true.mp hall x hx))
            rw [intsOf_lI] at h3; cases h3; rfl
          have := (hv.it xs h1).2
          rw [hx] at this
          simp at this
          exact ⟨incB_inc hz, by omega⟩
        · cases h4
      · cases h2
    obtain ⟨s, e2⟩ := is_bar_eq (n := n) (A := A) (T := T) hA hT hi.1 hi.2
    simp [g_is_barred, R.fl, R.bind, R.of, gNext_ap, gSeq, gIf, gExpr, gPar, gSet, gUn, gRet, gFor, put, convs, setAll, setSlot, RV.slot, retO, Fl.out, slot0, mNm, mC, mV, mO, mCons, mNil, mBin, mUn, gets, mB, mTup, mLst, Opd.get, Opd.toV, mTest, mTestB, asBl, mAndT, mOrT, mNotT, mIf, mAnd, mOr, mNot, truth, mSeq, mZip, mEnum, mRng1, mRng2, mCall, mCallR, mCallT, mCallK, RV.opd, itemsAt, putAt, Slot.items, Slot.put, bindT, setFzs, mYes, mFix, fixO, mSl, mP, mNoP, want_eq, fld1, e, sIsN, D.isNon, e2]
end DL
namespace DL
open PySem PySem.Spec PyProof.Rows L2
def Small (r : List Int) : Prop := ∀ x ∈ r, 0 ≤ x ∧ x ≤ 6
def stT (n : Nat) (F : List (List Int)) (s2 : Slot) : Rho := [.fz (.int n), .fz (.lst (lR F)), s2, .un]
theorem lots_step {n : Nat} {F : List (List Int)} {x : Int} (hF : F.length ≤ 400000) (hr : ∀ r ∈ F, r.length < 100000) :
    (gSet false 1 (mBin sAdd (mNm 1) (mComp (mSeq (mNm 1)) [3] (.nm 3) mYes (mV (mBin sAdd (mNm 3) (mLst (mCons (mV (mNm 2)) mNil))))))) (stT n F (.fz (.int x))) = .nx (stT n (F ++ F.map fun r => r ++ [x]) (.fz (.int x))) := by
  have hc := comp_enc (ms := mSeq (mNm 1)) (own := [3]) (t := .nm 3) (test := mYes) (elt := mV (mBin sAdd (mNm 3) (mLst (mCons (mV (mNm 2)) mNil)))) (ρ := stT n F (.fz (.int x))) (ρ1 := stT n F (.fz (.int x))) (src := .seqL (.nm 1)) (xs := F) (en := rD) (fun _ => true) (fun r => rD (r ++ [x]))
    (by simp [stT, R.fl, R.bind, R.of, gNext_ap, gSeq, gIf, gExpr, gPar, gSet, gUn, gRet, gFor, put, convs, setAll, setSlot, RV.slot, retO, Fl.out, slot0, mNm, mC, mV, mO, mCons, mNil, mBin, mUn, gets, mB, mTup, mLst, Opd.get, Opd.toV, mTest, mTestB, asBl, mAndT, mOrT, mNotT, mIf, mAnd, mOr, mNot, truth, mSeq, mZip, mEnum, mRng1, mRng2, mCall, mCallR, mCallT, mCallK, RV.opd, itemsAt, putAt, Slot.items, Slot.put, bindT, setFzs, mYes, mFix, fixO, mSl, mP, mNoP]) (by simp [stT, ownOk, Slot.mine]) (by simp [stT, wipeR, Src.items, Opd.get, asL]; rfl) (by omega) (fun a b e => lI_inj (by injection e)) (fun r hm => by
      refine ⟨[.fz (.int n), .fz (.lst (lR F)), .fz (.int x), .fz (rD r)], by simp [stT, bindT, setFzs, setSlot, RV.slot, wipeR], by simp [ownOk, Slot.mine], by simp [stT, wipeR], rfl, fun _ => ?_⟩
      have := hr r hm
      have c : r.length + 1 ≤ 1000000 := by omega
      simp [R.fl, R.bind, R.of, gNext_ap, gSeq, gIf, gExpr, gPar, gSet, gUn, gRet, gFor, put, convs, setAll, setSlot, RV.slot, retO, Fl.out, slot0, mNm, mC, mV, mO, mCons, mNil, mBin, mUn, gets, mB, mTup, mLst, Opd.get, Opd.toV, mTest, mTestB, asBl, mAndT, mOrT, mNotT, mIf, mAnd, mOr, mNot, truth, mSeq, mZip, mEnum, mRng1, mRng2, mCall, mCallR, mCallT, mCallK, RV.opd, itemsAt, putAt, Slot.items, Slot.put, bindT, setFzs, mYes, mFix, fixO, mSl, mP, mNoP, sAdd, rD, c, lI_app])
  rw [filter_yes] at hc
  have e : lR F ++ F.map (fun r => rD (r ++ [x])) = lR (F ++ F.map fun r => r ++ [x]) := by
    rw [lR_app]; congr 1; unfold lR; rw [List.map_map]; rfl
  have c : F.length + F.length ≤ 1000000 := by omega
  simp only [stT] at hc ⊢
  simp [hc, R.fl, R.bind, R.of, gNext_ap, gSeq, gIf, gExpr, gPar, gSet, gUn, gRet, gFor, put, convs, setAll, setSlot, RV.slot, retO, Fl.out, slot0, mNm, mC, mV, mO, mCons, mNil, mBin, mUn, gets, mB, mTup, mLst, Opd.get, Opd.toV, mTest, mTestB, asBl, mAndT, mOrT, mNotT, mIf, mAnd, mOr, mNot, truth, mSeq, mZip, mEnum, mRng1, mRng2, mCall, mCallR, mCallT, mCallK, RV.opd, itemsAt, putAt, Slot.items, Slot.put, bindT, setFzs, mYes, mFix, fixO, mSl, mP, mNoP, sAdd, c, e]
theorem lots_eq {n : Nat} (hn : n ≤ 6) : ∃ L s, m_f_law_lots (.fz (.int n)) [] = .ok (.own (lR L)) s ∧ 0 < L.length ∧ L.length ≤ 64 ∧ ∀ r ∈ L, r.length ≤ 6 ∧ Small r := by
  show ∃ L s, (g_f_law_lots [.fz (.int n), .un, .un, .un]).out = _ ∧ _
  have rl : (rngD 0 n).length = n := rngD_len
  obtain ⟨ρ', h1, h2⟩ := for_all (t := .nm 2) (g := gSet false 1 (mBin sAdd (mNm 1) (mComp (mSeq (mNm 1)) [3] (.nm 3) mYes (mV (mBin sAdd (mNm 3) (mLst (mCons (mV (mNm 2)) mNil))))))) (ds := rngD 0 n) (ρ := stT n [[]] .un)
    (fun done ρ => ∃ F s2, ρ = stT n F s2 ∧ (s2 = .un ∨ ∃ d, s2 = .fz d) ∧ F.length = 2 ^ done.length ∧ ∀ r ∈ F, r.length ≤ done.length ∧ Small r)
    ⟨[[]], .un, rfl, .inl rfl, rfl, fun r hr => by simp at hr; subst hr; exact ⟨Nat.le_refl _, fun x hx => by simp at hx⟩⟩ (fun done d rest ρ hd ⟨F, s2, hρ, h2, hF, hr⟩ => by
      subst hρ
      obtain ⟨rfl, hlt⟩ := rngD_at hd
      have hp : 2 ^ done.length ≤ 64 := by
        have : (2 : Nat) ^ done.length ≤ 2 ^ 6 := Nat.pow_le_pow_right (by decide) (by omega)
        exact this
      refine ⟨stT n F (.fz (.int (0 + done.length))), _, by rcases h2 with rfl | ⟨d, rfl⟩ <;> rfl, .inl (lots_step (by omega) fun r h => by have := (hr r h).1; omega), _, _, rfl, .inr ⟨_, rfl⟩, ?_, fun r h => ?_⟩
      · rw [List.length_append, List.length_map, hF, List.length_append, List.length_singleton, Nat.pow_succ]; omega
      · rw [List.length_append]
        rcases List.mem_append.mp h with h | h
        · exact ⟨by have := (hr r h).1; simp; omega, (hr r h).2⟩
        · obtain ⟨q, hq, rfl⟩ := List.mem_map.mp h
          refine ⟨by have := (hr q hq).1; simp; omega, fun x hx => ?_⟩
          rcases List.mem_append.mp hx with hx | hx
          · exact (hr q hq).2 x hx
          · simp only [List.mem_singleton] at hx; subst hx; omega)
  obtain ⟨F, s2, rfl, _, hF, hr⟩ := h2
  rw [rl] at hF hr
  have hp : 2 ^ n ≤ 64 := by
    have : (2 : Nat) ^ n ≤ 2 ^ 6 := Nat.pow_le_pow_right (by decide) hn
    exact this
  have es := bSorted_rows (xs := F) (by omega)
  refine ⟨F.mergeSort fun a b => decide (a ≤ b), .fz (.int n), ?_, ?_, ?_, fun r h => ?_⟩
  · have c : ((n : Int) ≤ 1000000 ∧ -1000000 ≤ (n : Int)) := ⟨by omega, by omega⟩
    simp only [stT, lR_cons, lR_nil, rD, lI_nil] at h1
    simp [g_f_law_lots, R.fl, R.bind, R.of, gNext_ap, gSeq, gIf, gExpr, gPar, gSet, gUn, gRet, gFor, put, convs, setAll, setSlot, RV.slot, retO, Fl.out, slot0, mNm, mC, mV, mO, mCons, mNil, mBin, mUn, gets, mB, mTup, mLst, Opd.get, Opd.toV, mTest, mTestB, asBl, mAndT, mOrT, mNotT, mIf, mAnd, mOr, mNot, truth, mSeq, mZip, mEnum, mRng1, mRng2, mCall, mCallR, mCallT, mCallK, RV.opd, itemsAt, putAt, Slot.items, Slot.put, bindT, setFzs, mYes, mFix, fixO, mSl, mP, mNoP, Src.fixed, Opd.fixed, Src.items, c]
    rw [h1]
    simp [R.fl, R.bind, R.of, gNext_ap, gSeq, gIf, gExpr, gPar, gSet, gUn, gRet, gFor, put, convs, setAll, setSlot, RV.slot, retO, Fl.out, slot0, mNm, mC, mV, mO, mCons, mNil, mBin, mUn, gets, mB, mTup, mLst, Opd.get, Opd.toV, mTest, mTestB, asBl, mAndT, mOrT, mNotT, mIf, mAnd, mOr, mNot, truth, mSeq, mZip, mEnum, mRng1, mRng2, mCall, mCallR, mCallT, mCallK, RV.opd, itemsAt, putAt, Slot.items, Slot.put, bindT, setFzs, mYes, mFix, fixO, mSl, mP, mNoP, es]
  · rw [List.length_mergeSort, hF]; exact Nat.two_pow_pos n
  · rw [List.length_mergeSort, hF]; exact hp
  · have := hr r ((List.mergeSort_perm _ _).mem_iff.mp h)
    exact ⟨by omega, this.2⟩
end DL
namespace DL
open PySem PySem.Spec PyProof.Rows L2
/-! ### what may be shown -/
structure Sh (k B : Nat) (d : D) : Prop where
  ex : ∃ p, toPy d = some p ∧ p.showable = true ∧ p.shown.length ≤ B ∧ p.depth ≤ k
theorem shs {k B : Nat} : ∀ {xs : List D}, (∀ d ∈ xs, Sh k B d) → ∃ ps, toPys xs = some ps ∧ PyData.showableAll ps = true ∧ (∀ t ∈ PyData.shownAll ps, t.length ≤ B) ∧ PyData.depthAll ps ≤ k ∧ (PyData.shownAll ps).length = xs.length
  | [], _ => ⟨[], rfl, rfl, (fun t h => by cases h), Nat.zero_le _, rfl⟩
  | d :: xs, h => by
    obtain ⟨p, h1, h2, h3, h4⟩ := (h d List.mem_cons_self).ex
    obtain ⟨ps, g1, g2, g3, g4, g5⟩ := shs (xs := xs) fun x hx => h x (List.mem_cons_of_mem _ hx)
    refine ⟨p :: ps, by simp only [toPys, h1, g1, Option.bind_some], by simp only [PyData.showableAll, h2, g2, Bool.and_self], fun t ht => ?_, by simp only [PyData.depthAll]; omega, by simp only [PyData.shownAll, List.length_cons, g5]⟩
    simp only [PyData.shownAll, List.mem_cons] at ht
    rcases ht with rfl | ht
    · exact h3
    · exact g3 t ht
theorem textFrom_le {B : Nat} : ∀ (ts : List Str) (k : Nat) (acc : Str), (∀ t ∈ ts, t.length ≤ B) → (textFrom k acc ts).length ≤ acc.length + ts.length * (B + 2)
  | [], k, acc, _ => by show acc.length ≤ _; simp
  | t :: r, k, acc, h => by
    have ih := textFrom_le (B := B) r (k + 1) (acc ++ (if k > 0 then ", " else "" : String) ++ t) fun u hu => h u (List.mem_cons_of_mem _ hu)
    have e : (acc ++ (if k > 0 then ", " else "" : String) ++ t).length = acc.length + (if k > 0 then 2 else 0) + t.length := by
      rw [Str.length_append, Str.length_append]
      split <;> rfl
    have ht := h t List.mem_cons_self
    rw [e] at ih
    show (textFrom (k + 1) _ r).length ≤ _
    rw [List.length_cons, Nat.succ_mul]
    have e2 : (if k > 0 then 2 else 0 : Nat) ≤ 2 := by split <;> omega
    omega
theorem listText_le {B : Nat} {ts : List Str} (h : ∀ t ∈ ts, t.length ≤ B) : (listText ts).length ≤ 2 + ts.length * (B + 2) := by
  have := textFrom_le ts 0 "[" h
  unfold listText
  rw [Str.length_append]
  have e1 : (("[" : Str)).length = 1 := by decide +kernel
  have e2 : (("]" : Str)).length = 1 := by decide +kernel
  rw [e1] at this
  show _ + (("]" : Str)).length ≤ _
  rw [e2]
  omega
theorem piled_le {B : Nat} : ∀ {ts : List Str}, (∀ t ∈ ts, t.length ≤ B) → piled ts ≤ ts.length * (B + 2)
  | [], _ => Nat.zero_le _
  | t :: r, h => by
    have ih := piled_le (B := B) (ts := r) fun u hu => h u (List.mem_cons_of_mem _ hu)
    have ht := h t List.mem_cons_self
    rw [piled_cons, List.length_cons, Nat.succ_mul]
    omega
theorem tupleText_le {B : Nat} {ts : List Str} (h : ∀ t ∈ ts, t.length ≤ B) : (tupleText ts).length ≤ 4 + ts.length * (B + 2) := by
  have hj : (Str.join ", " ts).length ≤ ts.length * (B + 2) := by
    by_cases e : ts = []
    · subst e
      have : (Str.join ", " []).length = 0 := by decide +kernel
      omega
    · have h1 := join_length_add ts e
      have h2 := piled_le h
      omega
  unfold tupleText
  rw [Str.length_append, Str.length_append]
  have e1 : (("(" : Str)).length = 1 := by decide +kernel
  have e2 : ((if ts.length == 1 then ",)" else ")" : String) : Str).length ≤ 2 := by split <;> decide +kernel
  omega
theorem Sh.lst {k B m : Nat} {xs : List D} (h : ∀ d ∈ xs, Sh k B d) (hm : xs.length ≤ m) : Sh (k + 1) (2 + m * (B + 2)) (.lst xs) := by
  obtain ⟨ps, g1, g2, g3, g4, g5⟩ := shs h
  refine ⟨.list ps, by simp only [toPy, g1, Option.map_some], by simpa only [PyData.showable] using g2, ?_, by simp only [PyData.depth]; omega⟩
  simp only [PyData.shown]
  have := listText_le g3
  rw [g5] at this
  have := Nat.mul_le_mul_right (B + 2) hm
  omega
theorem Sh.tup {k B m : Nat} {xs : List D} (h : ∀ d ∈ xs, Sh k B d) (hm : xs.length ≤ m) : Sh (k + 1) (4 + m * (B + 2)) (.tup xs) := by
  obtain ⟨ps, g1, g2, g3, g4, g5⟩ := shs h
  refine ⟨.tuple ps, by simp only [toPy, g1, Option.map_some], by simpa only [PyData.showable] using g2, ?_, by simp only [PyData.depth]; omega⟩
  simp only [PyData.shown]
  have := tupleText_le g3
  rw [g5] at this
  have := Nat.mul_le_mul_right (B + 2) hm
  omega
theorem Sh.mono {k B k' B' : Nat} {d : D} (h : Sh k B d) (h1 : k ≤ k') (h2 : B ≤ B') : Sh k' B' d := by
  obtain ⟨p, g1, g2, g3, g4⟩ := h.ex
  exact ⟨p, g1, g2, by omega, by omega⟩
theorem Sh.int {x : Int} (h : 0 ≤ x ∧ x ≤ 6) : Sh 0 4 (.int x) := by
  have : x = 0 ∨ x = 1 ∨ x = 2 ∨ x = 3 ∨ x = 4 ∨ x = 5 ∨ x = 6 := by omega
  rcases this with rfl | rfl | rfl | rfl | rfl | rfl | rfl <;> exact ⟨_, rfl, rfl, by decide +kernel, Nat.le_refl _⟩
theorem Sh.non : Sh 0 4 .non := ⟨_, rfl, rfl, by decide +kernel, Nat.le_refl _⟩
theorem Sh.ok {k B : Nat} {d : D} (h : Sh k B d) (h1 : k < 40) (h2 : B ≤ 1000000) : ∃ t, bRepr [d] = some (.val (.str t)) := by
  obtain ⟨p, g1, g2, g3, g4⟩ := h.ex
  have e : toPyR d = some p := by cases d <;> first | exact g1 | (simp only [toPy] at g1; cases g1)
  refine ⟨p.shown, ?_⟩
  unfold bRepr
  simp only [e]
  rw [if_pos ⟨g2, by omega, by omega⟩]
theorem Sh.row {r : List Int} (hr : Small r) (hl : r.length ≤ 20) : Sh 1 200 (rD r) := (Sh.lst (k := 0) (B := 4) (m := 20) (fun d hd => by obtain ⟨x, hx, rfl⟩ := List.mem_map.mp hd; exact .int (hr x hx)) (by simpa using hl)).mono (by decide) (by decide)
theorem Sh.rowT {r : List Int} (hr : Small r) (hl : r.length ≤ 20) : Sh 1 200 (.tup (lI r)) := (Sh.tup (k := 0) (B := 4) (m := 20) (fun d hd => by obtain ⟨x, hx, rfl⟩ := List.mem_map.mp hd; exact .int (hr x hx)) (by simpa using hl)).mono (by decide) (by decide)
/-- a value of the law's -/
structure Vl (v : D) : Prop where
  val : Val v
  sh : ∃ t, bRepr [v] = some (.val (.str t))
theorem plainy_ints {r : List Int} : ∀ x ∈ lI r, Plainy x := fun x hx => by obtain ⟨i, _, rfl⟩ := List.mem_map.mp hx; trivial
theorem Vl.row {r : List Int} (hr : Small r) (hl : r.length ≤ 20) : Vl (rD r) := ⟨⟨trivial, fun xs e => by cases e; exact ⟨plainy_ints, by simp; omega⟩⟩, (Sh.row hr hl).ok (by decide) (by decide)⟩
theorem Vl.rowT {r : List Int} (hr : Small r) (hl : r.length ≤ 20) : Vl (.tup (lI r)) := ⟨⟨trivial, fun xs e => by cases e; exact ⟨plainy_ints, by simp; omega⟩⟩, (Sh.rowT hr hl).ok (by decide) (by decide)⟩
theorem Vl.closed {v : D} {p : PyData} (h1 : toPyR v = some p) (h2 : (p.showable && (decide (p.shown.length ≤ 1000000) && decide (p.depth < 40))) = true) (hp : Plainy v) (hx : ∀ xs, seqOf v = some xs → (∀ x ∈ xs, Plainy x) ∧ xs.length ≤ 900) : Vl v := by
  simp only [Bool.and_eq_true, decide_eq_true_eq] at h2
  refine ⟨⟨hp, hx⟩, p.shown, ?_⟩
  unfold bRepr
  simp only [h1]
  rw [if_pos ⟨h2.1, h2.2.1, h2.2.2⟩]
end DL
namespace DL
open PySem PySem.Spec PyProof.Rows L2
/-! ### the law's values -/
def baseV : List D := [.non, .int 0, .bl true, .str "", .str "01", .dic [], .dic [(.inl 0, .int 1)], .lst [.non], .lst [.lst [.int 0, .int 1]], .lst [.str "0", .str "1"], .lst [.int 0, .bl true], .lst [.str "0", .int 1], .tup [.bl false, .int 1], .lst [.int (-1), .int 0], .int 1]
theorem baseV_ok : ∀ v ∈ baseV, Vl v := by
  have go : ∀ (v : D) (p : PyData), toPyR v = some p → (p.showable && (decide (p.shown.length ≤ 1000000) && decide (p.depth < 40))) = true → Plainy v → (∀ xs, seqOf v = some xs → (∀ x ∈ xs, Plainy x) ∧ xs.length ≤ 900) → Vl v := fun v p h1 h2 h3 h4 => Vl.closed h1 h2 h3 h4
  intro v hv
  simp only [baseV, List.mem_cons, List.not_mem_nil, or_false] at hv
  rcases hv with rfl | rfl | rfl | rfl | rfl | rfl | rfl | rfl | rfl | rfl | rfl | rfl | rfl | rfl | rfl <;>
    refine go _ _ rfl (by decide +kernel) trivial (fun xs e => ?_) <;> first | (cases e; done) | (cases e; refine ⟨fun x hx => ?_, by decide⟩; simp only [List.mem_cons, List.not_mem_nil, or_false] at hx; rcases hx with rfl | rfl <;> trivial) | (cases e; refine ⟨fun x hx => ?_, by decide⟩; simp only [List.mem_cons, List.not_mem_nil, or_false] at hx; subst hx; trivial)
theorem pick_eq {xs : List D} {L : List (List Int)} (h : Pot xs) (h0 : 0 < L.length) (h1 : L.length ≤ 64) : ∃ r ∈ L, ∃ xs', Pot xs' ∧ m_f_law_pick (.ref xs) [.lst (lR L)] = .ok (.fz (rD r)) (.ref xs') := by
  obtain ⟨e, ys, hp, he0, he1, hd⟩ := draw_eq (z := L.length) h (by omega) (by omega)
  have hk : e.toNat < L.length := by omega
  refine ⟨L[e.toNat], List.getElem_mem hk, ys, hp, ?_⟩
  show (g_f_law_pick [.ref xs, .fz (.lst (lR L))]).out = _
  have ix : sIxD (.lst (lR L)) (.int e) = some (.val (rD L[e.toNat])) := by
    show (atI (lR L) e).map Opd.val = _
    unfold atI
    rw [ixn_nat he0 (by simpa using hk)]
    have : (lR L)[e.toNat]? = some (rD L[e.toNat]) := by unfold lR; simp [hk]
    simp [this]
  simp [g_f_law_pick, R.fl, R.bind, R.of, gNext_ap, gSeq, gIf, gExpr, gPar, gSet, gUn, gRet, gFor, put, convs, setAll, setSlot, RV.slot, retO, Fl.out, slot0, mNm, mC, mV, mO, mCons, mNil, mBin, mUn, gets, mB, mTup, mLst, Opd.get, Opd.toV, mTest, mTestB, asBl, mAndT, mOrT, mNotT, mIf, mAnd, mOr, mNot, truth, mSeq, mZip, mEnum, mRng1, mRng2, mCall, mCallR, mCallT, mCallK, RV.opd, itemsAt, putAt, Slot.items, Slot.put, bindT, setFzs, mYes, mFix, fixO, mSl, mP, mNoP, bLen, hd, ix]
theorem cut_map (r : List Int) (lo hi : Option Int) : cutD (lI r) lo hi = lI (cutD r lo hi) := by
  unfold cutD
  rw [lI_len]
  unfold lI
  rw [List.map_take, List.map_drop]
theorem cut_sub {r : List Int} {lo hi : Option Int} : (∀ x ∈ cutD r lo hi, x ∈ r) ∧ (cutD r lo hi).length ≤ r.length := by
  unfold cutD
  exact ⟨fun x h => List.mem_of_mem_drop (List.mem_of_mem_take h), by rw [List.length_take, List.length_drop]; omega⟩
theorem sh_none {r : List Int} (hr : Small r) (hl : r.length ≤ 18) : Vl (.lst (lI r ++ [.non])) := by
  refine ⟨⟨trivial, fun xs e => by
    cases e
    refine ⟨fun x hx => ?_, by simp; omega⟩
    rcases List.mem_append.mp hx with hx | hx
    · exact plainy_ints x hx
    · simp only [List.mem_singleton] at hx; subst hx; trivial⟩, ?_⟩
  refine ((Sh.lst (k := 0) (B := 4) (m := 20) (fun d hd => ?_) (by simp; omega)).mono (k' := 1) (B' := 200) (by decide) (by decide)).ok (by decide) (by decide)
  rcases List.mem_append.mp hd with hd | hd
  · obtain ⟨x, hx, rfl⟩ := List.mem_map.mp hd; exact .int (hr x hx)
  · simp only [List.mem_singleton] at hd; subst hd; exact .non
theorem sh_in {r : List Int} (hr : Small r) (hl : r.length ≤ 18) : Vl (.lst [rD r]) := by
  refine ⟨⟨trivial, fun xs e => by
    cases e
    refine ⟨fun x hx => ?_, by simp⟩
    simp only [List.mem_singleton] at hx; subst hx; trivial⟩, ?_⟩
  refine (Sh.lst (k := 1) (B := 200) (m := 1) (fun d hd => ?_) (by simp)).ok (by decide) (by decide)
  simp only [List.mem_singleton] at hd; subst hd; exact .row hr (by omega)
theorem values_eq {xs : List D} {n : Nat} {A T : List (Int × Int)} (h : Pot xs) (hn : n ≤ 6) : ∃ vs xs', Pot xs' ∧ m_f_law_values (.ref xs) [worldD n A T] = .ok (.own vs) (.ref xs') ∧ vs.length ≤ 1000 ∧ ∀ v ∈ vs, Vl v := by
  show ∃ vs xs', Pot xs' ∧ (g_f_law_values [.ref xs, .fz (worldD n A T), .un, .un]).out = _ ∧ _
  obtain ⟨L, s, hL, l0, l1, hrow⟩ := lots_eq hn
  have i0 : sIxD (worldD n A T) (.int 0) = some (.val (.int n)) := by unfold worldD; simp
  obtain ⟨ρ', h1, h2⟩ := for_all (t := .nm 3) (g := gExpr (mAppend 2 (mV (mIf (mTestB (mBin sEq (mCallR m_f_law_draw 0 (mCons (mV (mC (.int (2)))) mNil)) (mC (.int (0))))) (mB bTuple (mCons (mNm 3) mNil)) (mNm 3))))) (ds := lR L) (ρ := [.ref xs, .fz (worldD n A T), .own baseV, .un])
    (fun done ρ => ∃ ys vs s3, ρ = [.ref ys, .fz (worldD n A T), .own vs, s3] ∧ (s3 = .un ∨ ∃ d, s3 = .fz d) ∧ Pot ys ∧ vs.length = 15 + done.length ∧ ∀ v ∈ vs, Vl v)
    ⟨xs, baseV, .un, rfl, .inl rfl, h, rfl, baseV_ok⟩ (fun done d rest ρ hd ⟨ys, vs, s3, hρ, h3, hp, hlen, hvs⟩ => by
      subst hρ
      have hdl : done.length ≤ 64 := by
        have := congrArg List.length hd
        rw [lR_len, List.length_append] at this
        omega
      obtain ⟨r, hr, rfl⟩ : ∃ r ∈ L, d = rD r := by
        have : d ∈ lR L := by rw [hd]; simp
        obtain ⟨r, hr, rfl⟩ := List.mem_map.mp this
        exact ⟨r, hr, rfl⟩
      obtain ⟨hr1, hr2⟩ := hrow r hr
      obtain ⟨e, ys2, hp2, he0, he1, hdr⟩ := draw_eq (z := 2) hp (by decide) (by decide)
      have c : vs.length < 1000000 := by omega
      by_cases he : e = 0
      · subst he
        refine ⟨[.ref ys, .fz (worldD n A T), .own vs, .fz (rD r)], [.ref ys2, .fz (worldD n A T), .own (vs ++ [.tup (lI r)]), .fz (rD r)], by rcases h3 with rfl | ⟨d', rfl⟩ <;> rfl, .inl (by simp [R.fl, R.bind, R.of, gNext_ap, gSeq, gIf, gExpr, gPar, gSet, gUn, gRet, gFor, put, convs, setAll, setSlot, RV.slot, retO, Fl.out, slot0, mNm, mC, mV, mO, mCons, mNil, mBin, mUn, gets, mB, mTup, mLst, Opd.get, Opd.toV, mTest, mTestB, asBl, mAndT, mOrT, mNotT, mIf, mAnd, mOr, mNot, truth, mSeq, mZip, mEnum, mRng1, mRng2, mCall, mCallR, mCallT, mCallK, RV.opd, itemsAt, putAt, Slot.items, Slot.put, bindT, setFzs, mYes, mFix, fixO, mSl, mP, mNoP, mAppend, hdr, sEq, bTuple, rD, c]), _, _, _, rfl, .inr ⟨_, rfl⟩, hp2, by simp; omega, fun v hv => ?_⟩
        rcases List.mem_append.mp hv with hv | hv
        · exact hvs v hv
        · simp only [List.mem_singleton] at hv; subst hv; exact .rowT hr2 (by omega)
      · refine ⟨[.ref ys, .fz (worldD n A T), .own vs, .fz (rD r)], [.ref ys2, .fz (worldD n A T), .own (vs ++ [rD r]), .fz (rD r)], by rcases h3 with rfl | ⟨d', rfl⟩ <;> rfl, .inl (by simp [R.fl, R.bind, R.of, gNext_ap, gSeq, gIf, gExpr, gPar, gSet, gUn, gRet, gFor, put, convs, setAll, setSlot, RV.slot, retO, Fl.out, slot0, mNm, mC, mV, mO, mCons, mNil, mBin, mUn, gets, mB, mTup, mLst, Opd.get, Opd.toV, mTest, mTestB, asBl, mAndT, mOrT, mNotT, mIf, mAnd, mOr, mNot, truth, mSeq, mZip, mEnum, mRng1, mRng2, mCall, mCallR, mCallT, mCallK, RV.opd, itemsAt, putAt, Slot.items, Slot.put, bindT, setFzs, mYes, mFix, fixO, mSl, mP, mNoP, mAppend, hdr, sEq, bTuple, rD, c, he]), _, _, _, rfl, .inr ⟨_, rfl⟩, hp2, by simp; omega, fun v hv => ?_⟩
        rcases List.mem_append.mp hv with hv | hv
        · exact hvs v hv
        · simp only [List.mem_singleton] at hv; subst hv; exact .row hr2 (by omega))
  obtain ⟨ys, vs, s3, rfl, h3, hp, hlen, hvs⟩ := h2
  rw [lR_len] at hlen
  obtain ⟨r, hr, ys2, hp2, hpk⟩ := pick_eq hp l0 l1
  obtain ⟨hr1, hr2⟩ := hrow r hr
  have c1 : r.length + (cutD r (some (-1)) none).length ≤ 1000000 := by have := (cut_sub (r := r) (lo := some (-1)) (hi := none)).2; omega
  have c2 : r.length + 1 ≤ 1000000 := by omega
  have c3 : vs.length + 5 ≤ 1000000 := by omega
  refine ⟨vs ++ [rD r.reverse, rD (r ++ cutD r (some (-1)) none), rD (r ++ [(n : Int)]), .lst [rD r], .lst (lI r ++ [.non])], ys2, hp2, ?_, by simp; omega, fun v hv => ?_⟩
  · have ai : asInt (.int (-1)) = some (-1) := rfl
    have sl : sSl (some (-1)) none (.lst (lI r)) = some (.tmp (lI (cutD r (some (-1)) none))) := by unfold sSl; dsimp only; rw [cut_map]
    have rv : (lI r).reverse = lI r.reverse := List.map_reverse.symm
    unfold baseV at h1
    have hpk' : m_f_law_pick (.ref ys) [.lst (lR L)] = .ok (.fz (.lst (lI r))) (.ref ys2) := hpk
    rcases h3 with rfl | ⟨d3, rfl⟩ <;>
    · simp [g_f_law_values, R.fl, R.bind, R.of, gNext_ap, gSeq, gIf, gExpr, gPar, gSet, gUn, gRet, gFor, put, convs, setAll, setSlot, RV.slot, retO, Fl.out, slot0, mNm, mC, mV, mO, mCons, mNil, mBin, mUn, gets, mB, mTup, mLst, Opd.get, Opd.toV, mTest, mTestB, asBl, mAndT, mOrT, mNotT, mIf, mAnd, mOr, mNot, truth, mSeq, mZip, mEnum, mRng1, mRng2, mCall, mCallR, mCallT, mCallK, RV.opd, itemsAt, putAt, Slot.items, Slot.put, bindT, setFzs, mYes, mFix, fixO, mSl, mP, mNoP, sNeg, i0, hL, Src.fixed, Opd.fixed, Src.items, asL]
      rw [h1]
      simp [R.fl, R.bind, R.of, gNext_ap, gSeq, gIf, gExpr, gPar, gSet, gUn, gRet, gFor, put, convs, setAll, setSlot, RV.slot, retO, Fl.out, slot0, mNm, mC, mV, mO, mCons, mNil, mBin, mUn, gets, mB, mTup, mLst, Opd.get, Opd.toV, mTest, mTestB, asBl, mAndT, mOrT, mNotT, mIf, mAnd, mOr, mNot, truth, mSeq, mZip, mEnum, mRng1, mRng2, mCall, mCallR, mCallT, mCallK, RV.opd, itemsAt, putAt, Slot.items, Slot.put, bindT, setFzs, mYes, mFix, fixO, mSl, mP, mNoP, i0, hL, hpk', sRev, sAdd, sNeg, ai, sl, c1, c2, c3, rv, lI_app, rD]
  · rcases List.mem_append.mp hv with hv | hv
    · exact hvs v hv
    · simp only [List.mem_cons, List.not_mem_nil, or_false] at hv
      rcases hv with rfl | rfl | rfl | rfl | rfl
      · exact .row (fun x hx => hr2 x (List.mem_reverse.mp hx)) (by simp; omega)
      · refine .row (fun x hx => ?_) ?_
        · rcases List.mem_append.mp hx with hx | hx
          · exact hr2 x hx
          · exact hr2 x (cut_sub.1 x hx)
        · rw [List.length_append]
          have := (cut_sub (r := r) (lo := some (-1)) (hi := none)).2
          omega
      · refine .row (fun x hx => ?_) (by simp; omega)
        rcases List.mem_append.mp hx with hx | hx
        · exact hr2 x hx
        · simp only [List.mem_singleton] at hx; subst hx; omega
      · exact sh_in hr2 (by omega)
      · exact sh_none hr2 (by omega)
end DL
namespace DL
open PySem PySem.Spec PyProof.Rows L2
theorem bRepr_bl (b : Bool) : ∃ t, bRepr [.bl b] = some (.val (.str t)) := by
  refine ⟨(PyData.bool b).shown, ?_⟩
  unfold bRepr
  simp only [toPyR, toPy]
  rw [if_pos (by cases b <;> exact ⟨rfl, by decide +kernel, by decide⟩)]
@[simp] theorem dEq_str (a b : Str) : dEq (.str a) (.str b) = some (decide (a = b)) := rfl
def Fz (s : Slot) : Prop := s = .un ∨ ∃ d, s = .fz d
theorem Fz.set {ρ : Rho} {i : Nat} {s : Slot} (h : ρ[i]? = some s) (hs : Fz s) (d : D) : setSlot ρ i (.fz d) = some (ρ.set i (.fz d)) := by
  unfold setSlot
  rw [h]
  rcases hs with rfl | ⟨e, rfl⟩ <;> rfl
noncomputable def gRight : G := (gSeq (gPar [false, false] [5, 6] (mCons (mCall m_f_law_due (mCons (mV (mNm 1)) (mCons (mV (mNm 4)) mNil))) (mCons (mB bRepr (mCons (mNm 4) mNil)) mNil)))
  (gSeq (gSet false 7 (mIf (mTestB (mBin sEq (mBin sMod (mB bInt (mCons (mNm 3) mNil)) (mC (.int (2)))) (mC (.int (0))))) (mCall m_is_barred (mCons (mV (mNm 2)) (mCons (mV (mNm 4)) mNil))) (mCallK m_is_barred (permD [1, 0]) (mCons (mV (mNm 4)) (mCons (mV (mNm 2)) mNil)))))
  (gIf (mOrT (mTestB (mBin sNe (mB bRepr (mCons (mNm 7) mNil)) (mB bRepr (mCons (mNm 5) mNil)))) (mTestB (mBin sNe (mB bRepr (mCons (mNm 4) mNil)) (mNm 6))))
  (gRet (mC (.bl false)))
  gNext)))
theorem right_step {ys : List D} {n : Nat} {A T : List (Int × Int)} {i : Int} {v : D} {s5 s6 s7 : Slot} (hv : Vl v) (hA : A.length ≤ 1000000) (nd : A.Nodup) (hT : T.length ≤ 1000) (h5 : Fz s5) (h6 : Fz s6) (h7 : Fz s7) :
    ∃ d5 d6 d7, gRight [.ref ys, .fz (worldD n A T), .fz (planD n A T), .fz (.int i), .fz v, s5, s6, s7] = .nx [.ref ys, .fz (worldD n A T), .fz (planD n A T), .fz (.int i), .fz v, .fz d5, .fz d6, .fz d7] := by
  obtain ⟨t, ht⟩ := hv.sh
  obtain ⟨b, s, s', e1, e2⟩ : ∃ b s s', m_f_law_due (.fz (worldD n A T)) [v] = .ok (.fz (.bl b)) s ∧ m_is_barred (.fz (planD n A T)) [v] = .ok (.fz (.bl b)) s' := by
    obtain ⟨s, e1⟩ := due_eq (n := n) hv.val hA nd hT
    obtain ⟨s', e2⟩ := is_barred_eq (n := n) hv.val hA hT
    exact ⟨_, s, s', e1, e2⟩
  obtain ⟨u, hu⟩ := bRepr_bl b
  have pm : permD [1, 0] [v, planD n A T] = [planD n A T, v] := rfl
  refine ⟨.bl b, .str t, .bl b, ?_⟩
  by_cases c : i % 2 = 0 <;> rcases h5 with rfl | ⟨_, rfl⟩ <;> rcases h6 with rfl | ⟨_, rfl⟩ <;> rcases h7 with rfl | ⟨_, rfl⟩ <;>
    simp [gRight, R.fl, R.bind, R.of, gNext_ap, gSeq, gIf, gExpr, gPar, gSet, gUn, gRet, gFor, put, convs, setAll, setSlot, RV.slot, retO, Fl.out, slot0, mNm, mC, mV, mO, mCons, mNil, mBin, mUn, gets, mB, mTup, mLst, Opd.get, Opd.toV, mTest, mTestB, asBl, mAndT, mOrT, mNotT, mIf, mAnd, mOr, mNot, truth, mSeq, mZip, mEnum, mRng1, mRng2, mCall, mCallR, mCallT, mCallK, RV.opd, itemsAt, putAt, Slot.items, Slot.put, bindT, setFzs, mYes, mFix, fixO, mSl, mP, mNoP, e1, e2, ht, hu, bInt, sMod, sEq, sNe, c, pm]
theorem enum_at {vs done rest : List D} {d : D} (h : enumD 0 vs = done ++ d :: rest) : ∃ v ∈ vs, d = .tup [.int (done.length : Nat), v] := by
  have h1 : (enumD 0 vs)[done.length]? = some d := by rw [h, List.getElem?_append_right (Nat.le_refl _)]; simp
  obtain ⟨x, e1, e2⟩ := enumD_get h1
  exact ⟨x, List.mem_of_getElem? e1, by rw [e2, Nat.zero_add]⟩
theorem right_eq {xs : List D} (h : Pot xs) : ∃ xs', m_f_law_right (.ref xs) [] = .ok (.fz (.bl true)) (.ref xs') := by
  show ∃ xs', (g_f_law_right [.ref xs, .un, .un, .un, .un, .un, .un, .un]).out = _
  obtain ⟨e, ys1, hp1, he0, he1, hd⟩ := draw_eq (z := 6) h (by decide) (by decide)
  obtain ⟨n, rfl⟩ : ∃ n : Nat, e = n := ⟨e.toNat, by omega⟩
  obtain ⟨A, T, ys2, hp2, G, lA, lT, hw⟩ := world_eq hp1 (by omega : n ≤ 100)
  obtain ⟨ys3, hp3, hm⟩ := made_eq hp2 (by omega : n ≤ 6) G (by omega) (by omega)
  obtain ⟨vs, ys4, hp4, hvs, lv, hall⟩ := values_eq (A := A) (T := T) hp3 (by omega : n ≤ 6)
  obtain ⟨ρ', h1, h2⟩ := for_all (t := .tup [3, 4]) (g := gRight) (ds := enumD 0 vs) (ρ := [.ref ys4, .fz (worldD n A T), .fz (planD n A T), .un, .un, .un, .un, .un])
    (fun done ρ => ∃ s3 s4 s5 s6 s7, ρ = [.ref ys4, .fz (worldD n A T), .fz (planD n A T), s3, s4, s5, s6, s7] ∧ Fz s3 ∧ Fz s4 ∧ Fz s5 ∧ Fz s6 ∧ Fz s7)
    ⟨_, _, _, _, _, rfl, .inl rfl, .inl rfl, .inl rfl, .inl rfl, .inl rfl⟩ (fun done d rest ρ hd ⟨s3, s4, s5, s6, s7, hρ, h3, h4, h5, h6, h7⟩ => by
      subst hρ
      obtain ⟨v, hv, rfl⟩ := enum_at hd
      obtain ⟨d5, d6, d7, hs⟩ := right_step (ys := ys4) (n := n) (i := (done.length : Nat)) (hall v hv) (by omega : A.length ≤ 1000000) G.aNd (by omega : T.length ≤ 1000) h5 h6 h7
      refine ⟨_, _, ?_, .inl hs, _, _, _, _, _, rfl, .inr ⟨_, rfl⟩, .inr ⟨_, rfl⟩, .inr ⟨_, rfl⟩, .inr ⟨_, rfl⟩, .inr ⟨_, rfl⟩⟩
      rcases h3 with rfl | ⟨_, rfl⟩ <;> rcases h4 with rfl | ⟨_, rfl⟩ <;> rfl)
  obtain ⟨s3, s4, s5, s6, s7, rfl, _⟩ := h2
  refine ⟨ys4, ?_⟩
  unfold gRight at h1
  simp [g_f_law_right, R.fl, R.bind, R.of, gNext_ap, gSeq, gIf, gExpr, gPar, gSet, gUn, gRet, gFor, put, convs, setAll, setSlot, RV.slot, retO, Fl.out, slot0, mNm, mC, mV, mO, mCons, mNil, mBin, mUn, gets, mB, mTup, mLst, Opd.get, Opd.toV, mTest, mTestB, asBl, mAndT, mOrT, mNotT, mIf, mAnd, mOr, mNot, truth, mSeq, mZip, mEnum, mRng1, mRng2, mCall, mCallR, mCallT, mCallK, RV.opd, itemsAt, putAt, Slot.items, Slot.put, bindT, setFzs, mYes, mFix, fixO, mSl, mP, mNoP, hd, hw, hm, hvs, Src.fixed, Opd.fixed, Src.items, asL]
  rw [h1]
  simp
theorem pot_eq {ns : List Int} : ∃ xs s, Pot xs ∧ m_f_law_pot (.fz (.scr ns)) [.int 0] = .ok (.own xs) s := by
  show ∃ xs s, Pot xs ∧ (g_f_law_pot [.fz (.scr ns), .fz (.int 0), .un]).out = _
  have hpow : sPow (.int 10) (.int 18) = some (.val (.int (10 ^ 18))) := by
    unfold sPow
    dsimp only
    rw [if_pos (by decide)]
    rfl
  have key : ∀ c : Int, 0 ≤ c → (gSeq (gSet false 2 (mIf (mTestB (mBin sLt (mNm 1) (mB bLen (mCons (mNm 0) mNil)))) (mB bAbs (mCons (mBin sIxD (mNm 0) (mNm 1)) mNil)) (mBin sAdd (mBin sMul (mC (.int (769))) (mNm 1)) (mC (.int (613)))))) gNext) [.fz (.scr ns), .fz (.int 0), .un] = .nx [.fz (.scr ns), .fz (.int 0), .fz (.int c)] → ∃ xs s, Pot xs ∧ (g_f_law_pot [.fz (.scr ns), .fz (.int 0), .un]).out = .ok (.own xs) s := by
    intro c hc hg
    have hm0 : 0 ≤ c % 2147483543 := Int.emod_nonneg _ (by decide)
    have hm1 : c % 2147483543 < 2147483543 := Int.emod_lt_of_pos _ (by decide)
    have l1 := log_small hm0 (by omega)
    have l2 : (40471 : Int).natAbs.log2 < 40 := by decide
    have e1 : sMul (.int (c % 2147483543)) (.int 40471) = some (.val (.int (c % 2147483543 * 40471))) := if_pos (by omega)
    have e2 : sMul (.int 6869) (.int 0) = some (.val (.int 0)) := by
      unfold sMul
      dsimp only
      rw [if_pos (by decide)]
      rfl
    refine ⟨[.int (if c - 10 ^ 18 > 0 then c - 10 ^ 18 else 0), .int ((c % 2147483543 * 40471 + 0 + 229) % 2147483549 + 1)], .fz (.scr ns), ⟨_, _, rfl, by split <;> omega, ?_, ?_⟩, ?_⟩
    · have := Int.emod_nonneg (c % 2147483543 * 40471 + 0 + 229) (by decide : (2147483549 : Int) ≠ 0)
      omega
    · have := Int.emod_lt_of_pos (c % 2147483543 * 40471 + 0 + 229) (by decide : (0 : Int) < 2147483549)
      omega
    · have hg' : (gSet false 2 (mIf (mTestB (mBin sLt (mNm 1) (mB bLen (mCons (mNm 0) mNil)))) (mB bAbs (mCons (mBin sIxD (mNm 0) (mNm 1)) mNil)) (mBin sAdd (mBin sMul (mC (.int (769))) (mNm 1)) (mC (.int (613)))))) [.fz (.scr ns), .fz (.int 0), .un] = .nx [.fz (.scr ns), .fz (.int 0), .fz (.int c)] := by
        revert hg
        show (match (gSet false 2 _ _ : Fl) with | .nx ρ1 => gNext ρ1 | r => r) = _ → _
        intro hg
        split at hg
        · rename_i e; rw [e]; exact hg
        · exact hg
      unfold g_f_law_pot gSeq
      rw [hg']
      simp [R.fl, R.bind, R.of, gNext_ap, gSeq, gIf, gExpr, gPar, gSet, gUn, gRet, gFor, put, convs, setAll, setSlot, RV.slot, retO, Fl.out, slot0, mNm, mC, mV, mO, mCons, mNil, mBin, mUn, gets, mB, mTup, mLst, Opd.get, Opd.toV, mTest, mTestB, asBl, mAndT, mOrT, mNotT, mIf, mAnd, mOr, mNot, truth, mSeq, mZip, mEnum, mRng1, mRng2, mCall, mCallR, mCallT, mCallK, RV.opd, itemsAt, putAt, Slot.items, Slot.put, bindT, setFzs, mYes, mFix, fixO, mSl, mP, mNoP, bMax, sSub, hpow, bInt, sMod, e1, e2, sAdd]
  cases ns with
  | nil =>
    refine key 613 (by decide) ?_
    have e2 : sMul (.int 769) (.int 0) = some (.val (.int 0)) := by
      unfold sMul
      dsimp only
      rw [if_pos (by decide)]
      rfl
    simp [R.fl, R.bind, R.of, gNext_ap, gSeq, gIf, gExpr, gPar, gSet, gUn, gRet, gFor, put, convs, setAll, setSlot, RV.slot, retO, Fl.out, slot0, mNm, mC, mV, mO, mCons, mNil, mBin, mUn, gets, mB, mTup, mLst, Opd.get, Opd.toV, mTest, mTestB, asBl, mAndT, mOrT, mNotT, mIf, mAnd, mOr, mNot, truth, mSeq, mZip, mEnum, mRng1, mRng2, mCall, mCallR, mCallT, mCallK, RV.opd, itemsAt, putAt, Slot.items, Slot.put, bindT, setFzs, mYes, mFix, fixO, mSl, mP, mNoP, sLt, bLen, sAdd, e2]
  | cons a r =>
    refine key (if a < 0 then -a else a) (by split <;> omega) ?_
    have ix : sIxD (.scr (a :: r)) (.int 0) = some (.val (.int a)) := by
      show (atI (a :: r) (0 : Int)).map (fun k => Opd.val (.int k)) = _
      unfold atI ixN
      simp
    have c : (0 : Int) < (r.length : Int) + 1 := by omega
    simp [R.fl, R.bind, R.of, gNext_ap, gSeq, gIf, gExpr, gPar, gSet, gUn, gRet, gFor, put, convs, setAll, setSlot, RV.slot, retO, Fl.out, slot0, mNm, mC, mV, mO, mCons, mNil, mBin, mUn, gets, mB, mTup, mLst, Opd.get, Opd.toV, mTest, mTestB, asBl, mAndT, mOrT, mNotT, mIf, mAnd, mOr, mNot, truth, mSeq, mZip, mEnum, mRng1, mRng2, mCall, mCallR, mCallT, mCallK, RV.opd, itemsAt, putAt, Slot.items, Slot.put, bindT, setFzs, mYes, mFix, fixO, mSl, mP, mNoP, sLt, bLen, ix, bAbs, c]
theorem law_true : ∀ ns : List Int, ns.length ≤ 63 → ∃ s, m_law (.fz (.scr ns)) [] = .ok (.fz (.bl true)) s := by
  intro ns _
  show ∃ s, (g_law [.fz (.scr ns)]).out = _
  obtain ⟨xs, s, hp, e1⟩ := pot_eq (ns := ns)
  obtain ⟨xs', e2⟩ := right_eq hp
  refine ⟨.fz (.scr ns), ?_⟩
  simp [g_law, R.fl, R.bind, R.of, gNext_ap, gSeq, gIf, gExpr, gPar, gSet, gUn, gRet, gFor, put, convs, setAll, setSlot, RV.slot, retO, Fl.out, slot0, mNm, mC, mV, mO, mCons, mNil, mBin, mUn, gets, mB, mTup, mLst, Opd.get, Opd.toV, mTest, mTestB, asBl, mAndT, mOrT, mNotT, mIf, mAnd, mOr, mNot, truth, mSeq, mZip, mEnum, mRng1, mRng2, mCall, mCallR, mCallT, mCallK, RV.opd, itemsAt, putAt, Slot.items, Slot.put, bindT, setFzs, mYes, mFix, fixO, mSl, mP, mNoP, e1, e2]
end DL
open PySem PySem.W PyProof.Rows
set_option maxRecDepth 100000 in
set_option maxHeartbeats 0 in
theorem PySem.Challenge.cw_toldpushes_k42_any_value_as_barred_lot_holds : PySem.Challenge.rw_toldpushes_k42_any_value_as_barred_lot.Holds := by
  w_on; o_law; k_head; (case hw => w_witness2)
  k_fill
  refine DL.walk_df (l := PySem.Challenge.rw_toldpushes_k42_any_value_as_barred_lot) (n := 63) (k := 11) (m := DL.m_law) (x := ("_law_script" : Str)) rfl (by decide) rfl ⟨rfl, by decide, by decide⟩ (fun w h Y => PySem.W.kIn_of Y) ?F DL.law_true
  intro w mg fa h KX G hmg
  refine' DL.all_mk KX G hmg ?z_abs ?z_all ?z_any ?z_bool ?z_divmod ?z_enumerate ?z_int ?z_isinstance ?z_len ?z_list ?z_max ?z_min ?z_range ?z_repr ?z_sorted ?z_tuple ?z_zip ?g_MOST_SIZE ?aC_Known ?pg_Known ?hd_Known ?po_Known ?sa_Known ?ha_Known ?ob_Known ?m0_Known ?m1_Known ?m2_Known ?m3_Known ?m4_Known ?cl_Known ?ty_Known ?aC_Plan ?pg_Plan ?hd_Plan ?po_Plan ?sa_Plan ?ha_Plan ?ob_Plan ?m0_Plan ?m1_Plan ?m2_Plan ?m3_Plan ?m4_Plan ?cl_Plan ?ty_Plan ?no_Plan_own_arrows ?no_Plan_own_ties ?no_Plan_own_width ?ne_Known_Plan ?df_Known_Plan ?ne_Plan_Known ?df_Plan_Known ?htk ?hn ?a_f_law_draw ?l_f_law_draw ?c_f_law_draw ?k_f_law_draw ?a_f_law_order ?l_f_law_order ?c_f_law_order ?k_f_law_order ?a_f_law_world ?l_f_law_world ?c_f_law_world ?k_f_law_world ?a_is_integer ?l_is_integer ?c_is_integer ?k_is_integer ?a_is_count ?l_is_count ?c_is_count ?k_is_count ?a_is_list ?l_is_list ?c_is_list ?k_is_list ?a_is_thing ?l_is_thing ?c_is_thing ?k_is_thing ?a_is_arrow ?l_is_arrow ?c_is_arrow ?k_is_arrow ?a_arrows_in ?l_arrows_in ?c_arrows_in ?k_arrows_in ?a_all_unlike ?l_all_unlike ?c_all_unlike ?k_all_unlike ?a_order_of ?l_order_of ?c_order_of ?k_order_of ?a_are_unlike ?l_are_unlike ?c_are_unlike ?k_are_unlike ?a_is_tie ?l_is_tie ?c_is_tie ?k_is_tie ?a_ties_in ?l_ties_in ?c_ties_in ?k_ties_in ?a_Plan_init ?i_Plan_init ?l_Plan_init ?c_Plan_init ?k_Plan_init ?t_Plan_init ?a_f_law_made ?l_f_law_made ?c_f_law_made ?k_f_law_made ?a_f_law_lots ?l_f_law_lots ?c_f_law_lots ?k_f_law_lots ?a_f_law_pick ?l_f_law_pick ?c_f_law_pick ?k_f_law_pick ?a_f_law_values ?l_f_law_values ?c_f_law_values ?k_f_law_values ?a_f_law_hung ?l_f_law_hung ?c_f_law_hung ?k_f_law_hung ?a_f_law_hangs ?l_f_law_hangs ?c_f_law_hangs ?k_f_law_hangs ?a_f_law_leaders ?l_f_law_leaders ?c_f_law_leaders ?k_f_law_leaders ?a_f_law_heads ?l_f_law_heads ?c_f_law_heads ?k_f_law_heads ?a_f_law_is_bar ?l_f_law_is_bar ?c_f_law_is_bar ?k_f_law_is_bar ?a_f_law_due ?l_f_law_due ?c_f_law_due ?k_f_law_due ?a_want_plan ?l_want_plan ?c_want_plan ?k_want_plan ?a_lot_in ?l_lot_in ?c_lot_in ?k_lot_in ?a_leaders ?l_leaders ?c_leaders ?k_leaders ?a_head_of ?l_head_of ?c_head_of ?k_head_of ?a_part_in ?l_part_in ?c_part_in ?k_part_in ?a_hangs_of ?l_hangs_of ?c_hangs_of ?k_hangs_of ?a_is_bar ?l_is_bar ?c_is_bar ?k_is_bar ?a_is_barred ?l_is_barred ?c_is_barred ?k_is_barred ?a_f_law_right ?l_f_law_right ?c_f_law_right ?k_f_law_right ?a_f_law_pot ?l_f_law_pot ?c_f_law_pot ?k_f_law_pot ?a_law ?l_law ?c_law ?k_law ?mk_Plan ?kC_Plan
  (case z_abs => k_is)
  (case z_all => k_is)
  (case z_any => k_is)
  (case z_bool => k_is)
  (case z_divmod => k_is)
  (case z_enumerate => k_is)
  (case z_int => k_is)
  (case z_isinstance => k_is)
  (case z_len => k_is)
  (case z_list => k_is)
  (case z_max => k_is)
  (case z_min => k_is)
  (case z_range => k_is)
  (case z_repr => k_is)
  (case z_sorted => k_is)
  (case z_tuple => k_is)
  (case z_zip => k_is)
  (case g_MOST_SIZE => k_is)
  (case aC_Known => k_is)
  (case pg_Known => k_is)
  (case hd_Known => k_is)
  (case po_Known => k_is)
  (case sa_Known => k_is)
  (case ha_Known => k_is)
  (case ob_Known => k_is)
  (case m0_Known => k_is)
  (case m1_Known => k_is)
  (case m2_Known => k_is)
  (case m3_Known => k_is)
  (case m4_Known => k_is)
  (case cl_Known => k_is)
  (case ty_Known => k_is)
  (case aC_Plan => k_is)
  (case pg_Plan => k_is)
  (case hd_Plan => k_is)
  (case po_Plan => k_is)
  (case sa_Plan => k_is)
  (case ha_Plan => k_is)
  (case ob_Plan => k_is)
  (case m0_Plan => k_is)
  (case m1_Plan => k_is)
  (case m2_Plan => k_is)
  (case m3_Plan => k_is)
  (case m4_Plan => k_is)
  (case cl_Plan => k_is)
  (case ty_Plan => k_is)
  (case no_Plan_own_arrows => k_is)
  (case no_Plan_own_ties => k_is)
  (case no_Plan_own_width => k_is)
  (case ne_Known_Plan => k_is)
  (case df_Known_Plan => decide)
  (case ne_Plan_Known => k_is)
  (case df_Plan_Known => decide)
  (case htk => k_is)
  (case hn => k_is)
  (case a_f_law_draw => k_is)
  (case l_f_law_draw => k_is)
  (case c_f_law_draw => k_is)
  (case k_f_law_draw => k_is)
  (case a_f_law_order => k_is)
  (case l_f_law_order => k_is)
  (case c_f_law_order => k_is)
  (case k_f_law_order => k_is)
  (case a_f_law_world => k_is)
  (case l_f_law_world => k_is)
  (case c_f_law_world => k_is)
  (case k_f_law_world => k_is)
  (case a_is_integer => k_is)
  (case l_is_integer => k_is)
  (case c_is_integer => k_is)
  (case k_is_integer => k_is)
  (case a_is_count => k_is)
  (case l_is_count => k_is)
  (case c_is_count => k_is)
  (case k_is_count => k_is)
  (case a_is_list => k_is)
  (case l_is_list => k_is)
  (case c_is_list => k_is)
  (case k_is_list => k_is)
  (case a_is_thing => k_is)
  (case l_is_thing => k_is)
  (case c_is_thing => k_is)
  (case k_is_thing => k_is)
  (case a_is_arrow => k_is)
  (case l_is_arrow => k_is)
  (case c_is_arrow => k_is)
  (case k_is_arrow => k_is)
  (case a_arrows_in => k_is)
  (case l_arrows_in => k_is)
  (case c_arrows_in => k_is)
  (case k_arrows_in => k_is)
  (case a_all_unlike => k_is)
  (case l_all_unlike => k_is)
  (case c_all_unlike => k_is)
  (case k_all_unlike => k_is)
  (case a_order_of => k_is)
  (case l_order_of => k_is)
  (case c_order_of => k_is)
  (case k_order_of => k_is)
  (case a_are_unlike => k_is)
  (case l_are_unlike => k_is)
  (case c_are_unlike => k_is)
  (case k_are_unlike => k_is)
  (case a_is_tie => k_is)
  (case l_is_tie => k_is)
  (case c_is_tie => k_is)
  (case k_is_tie => k_is)
  (case a_ties_in => k_is)
  (case l_ties_in => k_is)
  (case c_ties_in => k_is)
  (case k_ties_in => k_is)
  (case a_Plan_init => k_is)
  (case i_Plan_init => k_is)
  (case l_Plan_init => k_is)
  (case c_Plan_init => k_is)
  (case k_Plan_init => k_is)
  (case t_Plan_init => k_is)
  (case a_f_law_made => k_is)
  (case l_f_law_made => k_is)
  (case c_f_law_made => k_is)
  (case k_f_law_made => k_is)
  (case a_f_law_lots => k_is)
  (case l_f_law_lots => k_is)
  (case c_f_law_lots => k_is)
  (case k_f_law_lots => k_is)
  (case a_f_law_pick => k_is)
  (case l_f_law_pick => k_is)
  (case c_f_law_pick => k_is)
  (case k_f_law_pick => k_is)
  (case a_f_law_values => k_is)
  (case l_f_law_values => k_is)
  (case c_f_law_values => k_is)
  (case k_f_law_values => k_is)
  (case a_f_law_hung => k_is)
  (case l_f_law_hung => k_is)
  (case c_f_law_hung => k_is)
  (case k_f_law_hung => k_is)
  (case a_f_law_hangs => k_is)
  (case l_f_law_hangs => k_is)
  (case c_f_law_hangs => k_is)
  (case k_f_law_hangs => k_is)
  (case a_f_law_leaders => k_is)
  (case l_f_law_leaders => k_is)
  (case c_f_law_leaders => k_is)
  (case k_f_law_leaders => k_is)
  (case a_f_law_heads => k_is)
  (case l_f_law_heads => k_is)
  (case c_f_law_heads => k_is)
  (case k_f_law_heads => k_is)
  (case a_f_law_is_bar => k_is)
  (case l_f_law_is_bar => k_is)
  (case c_f_law_is_bar => k_is)
  (case k_f_law_is_bar => k_is)
  (case a_f_law_due => k_is)
  (case l_f_law_due => k_is)
  (case c_f_law_due => k_is)
  (case k_f_law_due => k_is)
  (case a_want_plan => k_is)
  (case l_want_plan => k_is)
  (case c_want_plan => k_is)
  (case k_want_plan => k_is)
  (case a_lot_in => k_is)
  (case l_lot_in => k_is)
  (case c_lot_in => k_is)
  (case k_lot_in => k_is)
  (case a_leaders => k_is)
  (case l_leaders => k_is)
  (case c_leaders => k_is)
  (case k_leaders => k_is)
  (case a_head_of => k_is)
  (case l_head_of => k_is)
  (case c_head_of => k_is)
  (case k_head_of => k_is)
  (case a_part_in => k_is)
  (case l_part_in => k_is)
  (case c_part_in => k_is)
  (case k_part_in => k_is)
  (case a_hangs_of => k_is)
  (case l_hangs_of => k_is)
  (case c_hangs_of => k_is)
  (case k_hangs_of => k_is)
  (case a_is_bar => k_is)
  (case l_is_bar => k_is)
  (case c_is_bar => k_is)
  (case k_is_bar => k_is)
  (case a_is_barred => k_is)
  (case l_is_barred => k_is)
  (case c_is_barred => k_is)
  (case k_is_barred => k_is)
  (case a_f_law_right => k_is)
  (case l_f_law_right => k_is)
  (case c_f_law_right => k_is)
  (case k_f_law_right => k_is)
  (case a_f_law_pot => k_is)
  (case l_f_law_pot => k_is)
  (case c_f_law_pot => k_is)
  (case k_f_law_pot => k_is)
  (case a_law => k_is)
  (case l_law => k_is)
  (case c_law => k_is)
  (case k_law => k_is)
  (case mk_Plan => k_is)
  (case kC_Plan => k_is)
