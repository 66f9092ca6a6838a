import PyProof.Rows.All
import Wide.All
import OpenK.AllK
import Wide.FinOn
import HandS.ForMost
import HandS.SortInts
import HandS.Star
import HandS.Conv
import HandS.TupLen
import HandS.Style
import KE.GoesEnum
import HandS.IsInst
import KE.KSuperObj
import KE.KxTruthy
import HandS.Iter
import HandS.More
import PyProof.ReprReads
import HandS.RaiseMore
import HandS.WordsDict
import HandS.SetFor
import HandS.Strs
import HandS.Zip
import HandS.OwnEq
import KE.KDictDisplayH
import HandS.TupAny
import PyProof.InstNe
import HandS.MakeKwOnly
import HandS.DictComp
import KE.KTupSum
import HandS.FStrTup
import HandS.Wide
import PySem.Challenge.RW_everyseam_k90_whole_known_lanes
set_option Elab.async false
set_option linter.all false
set_option maxRecDepth 100000
/-! data layer, part a: data, what stands for it in a heap, a frame's names -/
namespace DL
open PySem PySem.Spec PyProof.Rows L2

inductive D where
  | non | bl (b : Bool) | int (i : Int) | str (x : Str)
  | lst (xs : List D) | tup (xs : List D)
  | dK (kvs : List (Key × D)) | dT (kvs : List (List Key × D))
  | ins (C : Addr) (fs : List (Str × D))
  | raw (v : V)

/-- an object without its lock -/
def core : HO → HO
  | .frz _ (.dK k) => .dK k
  | .frz _ (.dT k) => .dT k
  | u => u
def mutb : HO → Prop
  | .tup _ => False
  | _ => True
abbrev AS := Addr → Prop
/-- what stood stands, but what may be changed at A -/
def LeA (A : AS) (H H' : Hp) : Prop := ∀ b x, H b = some x → H' b = some x ∨ (A b ∧ mutb x ∧ ∃ y, H' b = some y ∧ mutb y)
theorem LeA.refl {A : AS} (H : Hp) : LeA A H H := fun b x h => .inl h
theorem LeA.trans {A : AS} {H H1 H2 : Hp} (a : LeA A H H1) (b : LeA A H1 H2) : LeA A H H2 := fun p x h => by
  rcases a p x h with h1 | ⟨u, m1, y, h1, m2⟩
  · exact b p x h1
  · rcases b p y h1 with h2 | ⟨_, _, z, h2, m3⟩
    · exact .inr ⟨u, m1, y, h2, m2⟩
    · exact .inr ⟨u, m1, z, h2, m3⟩
theorem LeA.mono {A B : AS} {H H1 : Hp} (a : LeA A H H1) (h : ∀ b, A b → B b) : LeA B H H1 := fun p x q => (a p x q).imp id fun z => ⟨h p z.1, z.2⟩
theorem LeA.new {A : AS} {H : Hp} {p : Addr} {o : HO} (h : H p = none) : LeA A H (upd H p o) := fun b x e => .inl (by rw [upd_ne (ne_of_none e h)]; exact e)
theorem LeA.same {A : AS} {H H' : Hp} (h : ∀ a o, H a = some o → H' a = some o) : LeA A H H' := fun b x e => .inl (h b x e)
theorem LeA.put {A : AS} {H : Hp} {p : Addr} {x y : HO} (h : H p = some x) (hA : A p) (hx : mutb x) (hy : mutb y) : LeA A H (upd H p y) := fun b z e => by
  by_cases q : b = p
  · subst q
    rw [h] at e; cases e
    exact .inr ⟨hA, hx, y, upd_same, hy⟩
  · exact .inl (by rw [upd_ne q]; exact e)
/-- a new object, changed -/
theorem LeA.put0 {A : AS} {H H1 : Hp} {p : Addr} {y : HO} (h : H p = none) (l : LeA A H H1) : LeA A H (upd H1 p y) := fun b z e => by
  have q : b ≠ p := ne_of_none e h
  rw [upd_ne q]
  exact l b z e
theorem LeA.ne {A : AS} {H H' : Hp} (l : LeA A H H') {b : Addr} (h : H b ≠ none) : H' b ≠ none := by
  cases e : H b with
  | none => exact absurd e h
  | some x =>
    rcases l b x e with q | ⟨_, _, y, q, _⟩ <;> (rw [q]; intro z; cases z)
theorem LeA.nn {A : AS} {H H' : Hp} (l : LeA A H H') {b : Addr} (h : H' b = none) : H b = none := by
  cases e : H b with
  | none => rfl
  | some x =>
    rcases l b x e with q | ⟨_, _, y, q, _⟩ <;> (rw [q] at h; cases h)

/-- a list to be read that is not at S -/
def LsA (S : AS) (H : Hp) (a : Addr) (xs : List V) : Prop := H a = some (.lst xs) ∧ ¬ S a
theorem LsA.sq {K : PySem.W.Frag} {S : AS} {H : Hp} {a : Addr} {xs : List V} (h : LsA S H a xs) : SqL K H a xs := .inl (.inl h.1)
/-- a tuple to be read -/
def TpA (H : Hp) (a : Addr) (xs : List V) : Prop := H a = some (.tup xs)
theorem TpA.sq {K : PySem.W.Frag} {H : Hp} {a : Addr} {xs : List V} (h : TpA H a xs) : SqT K H a xs := .inl (.inl h)
def DcA (S : AS) (H : Hp) (a : Addr) (u : HO) : Prop := (∃ x, H a = some x ∧ core x = u) ∧ ¬ S a

mutual
/-- v stands for the datum in the heap; T: where the top may not be, S: where what hangs below may not be -/
def Rep (K : PySem.W.Frag) (S : AS) (H : Hp) : D → AS → V → Prop
  | .non, _, v => v = .non
  | .bl b, _, v => v = .bl b
  | .int i, _, v => v = .int i
  | .str x, _, v => v = .str x
  | .lst xs, T, v => ∃ a vs, v = .ref a ∧ LsA T H a vs ∧ RepL K S H xs vs
  | .tup xs, _, v => ∃ a vs, v = .ref a ∧ TpA H a vs ∧ RepL K S H xs vs
  | .dK kvs, T, v => ∃ a ws, v = .ref a ∧ DcA T H a (.dK ws) ∧ RepK K S H kvs ws
  | .dT kvs, T, v => ∃ a ws, v = .ref a ∧ DcA T H a (.dT ws) ∧ RepT K S H kvs ws
  | .ins C fs, T, v => ∃ a dx ws, v = .ref a ∧ H a = some (.ins C dx ws) ∧ ¬ T a ∧ RepF K S H fs ws
  | .raw u, _, v => v = u
def RepL (K : PySem.W.Frag) (S : AS) (H : Hp) : List D → List V → Prop
  | [], vs => vs = []
  | x :: xs, vs => ∃ v ws, vs = v :: ws ∧ Rep K S H x S v ∧ RepL K S H xs ws
def RepK (K : PySem.W.Frag) (S : AS) (H : Hp) : List (Key × D) → List (Key × V) → Prop
  | [], vs => vs = []
  | (k, x) :: xs, vs => ∃ v ws, vs = (k, v) :: ws ∧ Rep K S H x S v ∧ RepK K S H xs ws
def RepT (K : PySem.W.Frag) (S : AS) (H : Hp) : List (List Key × D) → List (List Key × V) → Prop
  | [], vs => vs = []
  | (k, x) :: xs, vs => ∃ v ws, vs = (k, v) :: ws ∧ Rep K S H x S v ∧ RepT K S H xs ws
def RepF (K : PySem.W.Frag) (S : AS) (H : Hp) : List (Str × D) → List (Str × V) → Prop
  | [], vs => vs = []
  | (k, x) :: xs, vs => ∃ v ws, vs = (k, v) :: ws ∧ Rep K S H x S v ∧ RepF K S H xs ws
end

def Mv (H H' : Hp) (S S' : AS) : Prop := ∀ b x, H b = some x → (mutb (core x) → ¬ S b) → (∃ y, H' b = some y ∧ core y = core x) ∧ (mutb (core x) → ¬ S' b)
theorem core_lst {y : HO} {xs : List V} (h : core y = .lst xs) : y = .lst xs := by
  unfold core at h
  split at h <;> first | cases h; done | exact h
theorem core_tup {y : HO} {xs : List V} (h : core y = .tup xs) : y = .tup xs := by
  unfold core at h
  split at h <;> first | cases h; done | exact h
theorem core_ins {y : HO} {C dx : Addr} {fs : List (Str × V)} (h : core y = .ins C dx fs) : y = .ins C dx fs := by
  unfold core at h
  split at h <;> first | cases h; done | exact h
theorem Mv.lsA {H H' : Hp} {T T' : AS} (h : Mv H H' T T') {a : Addr} {vs : List V} (e : LsA T H a vs) : LsA T' H' a vs := by
  obtain ⟨⟨y, hy, c⟩, m⟩ := h a _ e.1 fun _ => e.2
  have e' : y = .lst vs := core_lst c
  subst e'
  exact ⟨hy, m trivial⟩
theorem Mv.tpA {H H' : Hp} {S S' : AS} (h : Mv H H' S S') {a : Addr} {vs : List V} (e : TpA H a vs) : TpA H' a vs := by
  obtain ⟨⟨y, hy, c⟩, _⟩ := h a _ e fun z => z.elim
  have e : y = .tup vs := core_tup c
  subst e
  exact hy
theorem Mv.dcA {H H' : Hp} {S S' : AS} (h : Mv H H' S S') {a : Addr} {u : HO} (e : DcA S H a u) (hu : mutb u) : DcA S' H' a u := by
  obtain ⟨⟨x, hx, c⟩, n⟩ := e
  obtain ⟨⟨y, hy, c'⟩, m⟩ := h a x hx fun _ => n
  exact ⟨⟨y, hy, c'.trans c⟩, m (by rw [c]; exact hu)⟩
section
variable {K : PySem.W.Frag} {S S' : AS} {H H' : Hp}
mutual
theorem Rep.mv (h : Mv H H' S S') : ∀ (d : D) {T T' : AS} {v : V}, Mv H H' T T' → Rep K S H d T v → Rep K S' H' d T' v
  | .non, _, _, _, _, r => r
  | .bl _, _, _, _, _, r => r
  | .int _, _, _, _, _, r => r
  | .str _, _, _, _, _, r => r
  | .lst xs, _, _, _, t, ⟨a, vs, e, l, r⟩ => ⟨a, vs, e, t.lsA l, RepL.mv h xs r⟩
  | .tup xs, _, _, _, t, ⟨a, vs, e, l, r⟩ => ⟨a, vs, e, h.tpA l, RepL.mv h xs r⟩
  | .dK kvs, _, _, _, t, ⟨a, ws, e, l, r⟩ => ⟨a, ws, e, t.dcA l trivial, RepK.mv h kvs r⟩
  | .dT kvs, _, _, _, t, ⟨a, ws, e, l, r⟩ => ⟨a, ws, e, t.dcA l trivial, RepT.mv h kvs r⟩
  | .ins C fs, _, _, _, t, ⟨a, dx, ws, e, l, n, r⟩ => by
    obtain ⟨⟨y, hy, c⟩, m⟩ := t a _ l fun _ => n
    have e' : y = .ins C dx ws := core_ins c
    subst e'
    exact ⟨a, dx, ws, e, hy, m trivial, RepF.mv h fs r⟩
  | .raw _, _, _, _, _, r => r
theorem RepL.mv (h : Mv H H' S S') : ∀ (xs : List D) {vs : List V}, RepL K S H xs vs → RepL K S' H' xs vs
  | [], _, r => r
  | x :: xs, _, ⟨v, ws, e, r, q⟩ => ⟨v, ws, e, Rep.mv h x h r, RepL.mv h xs q⟩
theorem RepK.mv (h : Mv H H' S S') : ∀ (xs : List (Key × D)) {vs : List (Key × V)}, RepK K S H xs vs → RepK K S' H' xs vs
  | [], _, r => r
  | (k, x) :: xs, _, ⟨v, ws, e, r, q⟩ => ⟨v, ws, e, Rep.mv h x h r, RepK.mv h xs q⟩
theorem RepT.mv (h : Mv H H' S S') : ∀ (xs : List (List Key × D)) {vs : List (List Key × V)}, RepT K S H xs vs → RepT K S' H' xs vs
  | [], _, r => r
  | (k, x) :: xs, _, ⟨v, ws, e, r, q⟩ => ⟨v, ws, e, Rep.mv h x h r, RepT.mv h xs q⟩
theorem RepF.mv (h : Mv H H' S S') : ∀ (xs : List (Str × D)) {vs : List (Str × V)}, RepF K S H xs vs → RepF K S' H' xs vs
  | [], _, r => r
  | (k, x) :: xs, _, ⟨v, ws, e, r, q⟩ => ⟨v, ws, e, Rep.mv h x h r, RepF.mv h xs q⟩
end
/-- what is changed at P alone -/
theorem Mv.le {P : AS} (l : LeA P H H') (h : ∀ b, P b → S b) (h' : ∀ b, S' b → S b ∨ H b = none) : Mv H H' S S' := fun b x e n => by
  have ns : mutb (core x) → ¬ S' b := fun m z => by
    rcases h' b z with z | z
    · exact n m z
    · rw [e] at z; cases z
  rcases l b x e with q | ⟨p, m, _⟩
  · exact ⟨⟨x, q, rfl⟩, ns⟩
  · have mc : mutb (core x) := by
      unfold core
      split <;> first | trivial | exact m
    exact absurd (h b p) (n mc)
theorem Mv.anti (h' : ∀ b, S' b → S b ∨ H b = none) : Mv H H S S' := Mv.le (P := fun _ => False) (LeA.refl H) (fun _ z => z.elim) h'
end
/-! ### a frame's names -/
inductive Slot where
  | un | d (x : D) | own (x : D) | pen
def ownS : Slot → Prop
  | .own _ => True
  | .pen => True
  | _ => False
/-- what a def's body stands in: A: where what it hands back may not be, M: what it may change, H0: the heap at its entry; pb, pn: the pen's own list -/
structure G where
  A : AS
  M : AS
  H0 : Hp
  pb : Addr
  pn : List Int
  pa : Addr := 0
def OwnB (sl : List Slot) (σ : L2.St) : AS := fun b => ∃ (i : Nat) (s : Slot), sl[i]? = some s ∧ ownS s ∧ σ[i]? = some (some (V.ref b))
def PenB (sl : List Slot) (σ : L2.St) : AS := fun b => ∃ i : Nat, sl[i]? = some Slot.pen ∧ σ[i]? = some (some (V.ref b))
def Av (g : G) (sl : List Slot) (σ : L2.St) : AS := fun b => g.A b ∨ OwnB sl σ b
def Pv (g : G) (sl : List Slot) (σ : L2.St) : AS := fun b => g.A b ∨ PenB sl σ b
theorem PenB.own {sl : List Slot} {σ : L2.St} {b : Addr} (h : PenB sl σ b) : OwnB sl σ b := let ⟨i, h1, h2⟩ := h; ⟨i, .pen, h1, trivial, h2⟩
theorem Pv.av {g : G} {sl : List Slot} {σ : L2.St} {b : Addr} (h : Pv g sl σ b) : Av g sl σ b := h.imp id PenB.own
def OwnAt (K : PySem.W.Frag) (S : AS) (H : Hp) : D → Addr → Prop
  | .lst xs, a => ∃ vs, H a = some (.lst vs) ∧ RepL K S H xs vs
  | .dK xs, a => ∃ vs, H a = some (.dK vs) ∧ RepK K S H xs vs
  | .dT xs, a => ∃ vs, H a = some (.dT vs) ∧ RepT K S H xs vs
  | _, _ => False
def PenAt (K : PySem.W.Frag) (S : AS) (H : Hp) (k : Nat) (b : Addr) (ns : List Int) (a : Addr) : Prop :=
  ∃ (i l : Int), H a = some (.lst [.ref b, .int i, .int l]) ∧ 0 ≤ i ∧ i ≤ k ∧ 0 ≤ l ∧ LsA S H b (ns.map V.int) ∧ ns.length ≤ 63
structure EnvOk (K : PySem.W.Frag) (g : G) (sl : List Slot) (k : Nat) (σ : L2.St) (H : Hp) : Prop where
  len : sl.length = σ.length
  d : ∀ (i : Nat) (x : D), sl[i]? = some (Slot.d x) → ∃ v, σ[i]? = some (some v) ∧ Rep K (Av g sl σ) H x (Av g sl σ) v
  own : ∀ (i : Nat) (x : D), sl[i]? = some (Slot.own x) → ∃ a, σ[i]? = some (some (V.ref a)) ∧ OwnAt K (Av g sl σ) H x a ∧ ¬ g.A a ∧ (g.H0 a = none ∨ g.M a)
  pen : ∀ (i : Nat), sl[i]? = some Slot.pen → ∃ a, σ[i]? = some (some (V.ref a)) ∧ PenAt K (Av g sl σ) H k g.pb g.pn a ∧ (g.M a ∨ (¬ g.A a ∧ g.H0 a = none))
  inj : ∀ (i j : Nat) (s t : Slot) (a : Addr), sl[i]? = some s → sl[j]? = some t → ownS s → ownS t → σ[i]? = some (some (V.ref a)) → σ[j]? = some (some (V.ref a)) → i = j
  le : LeA g.M g.H0 H
  dom : ∀ b, g.A b → H b ≠ none
  md : ∀ b, g.M b → g.H0 b ≠ none
  pa : ∀ (i : Nat) (a : Addr), sl[i]? = some Slot.pen → σ[i]? = some (some (V.ref a)) → g.pa = a
theorem set_pen {sl : List Slot} {i j : Nat} {s : Slot} (hs : s ≠ .pen) (h : (sl.set i s)[j]? = some Slot.pen) : i ≠ j ∧ sl[j]? = some Slot.pen := by
  by_cases e : i = j
  · subst e
    by_cases hi : i < sl.length
    · rw [List.getElem?_set_self hi] at h
      exact absurd (Option.some.inj h) hs
    · rw [List.getElem?_eq_none_iff.mpr (by rw [List.length_set]; omega)] at h
      cases h
  · rw [List.getElem?_set_ne e] at h
    exact ⟨e, h⟩
inductive Fl where
  | c | s | d
def Fl.top : Fl → G → List Slot → L2.St → AS
  | .c, g, sl, σ => Av g sl σ
  | .s, g, sl, σ => Pv g sl σ
  | .d, g, sl, σ => Pv g sl σ
def Fl.sub : Fl → G → List Slot → L2.St → AS
  | .c, g, sl, σ => Av g sl σ
  | .s, g, sl, σ => Av g sl σ
  | .d, g, sl, σ => Pv g sl σ
/-- of what hangs below -/
def Fl.dn : Fl → Fl
  | .c => .c
  | .s => .c
  | .d => .d
/-- v stands for d, as far as fl tells -/
def Is (K : PySem.W.Frag) (g : G) (sl : List Slot) (σ : L2.St) (H : Hp) (fl : Fl) (d : D) (v : V) : Prop := Rep K (fl.sub g sl σ) H d (fl.top g sl σ) v
section
variable {K : PySem.W.Frag} {g : G} {sl : List Slot} {k : Nat} {σ : L2.St} {H H' : Hp} {fl : Fl} {d : D} {v : V}
theorem Fl.top_pen {b : Addr} (h : PenB sl σ b) : fl.top g sl σ b := by
  cases fl
  · exact .inr h.own
  · exact .inr h
  · exact .inr h
theorem Fl.sub_pen {b : Addr} (h : PenB sl σ b) : fl.sub g sl σ b := by
  cases fl
  · exact .inr h.own
  · exact .inr h.own
  · exact .inr h
/-- only the pen was changed -/
theorem Is.le (r : Is K g sl σ H fl d v) (l : LeA (PenB sl σ) H H') : Is K g sl σ H' fl d v :=
  Rep.mv (Mv.le l (fun _ z => Fl.sub_pen z) fun _ z => .inl z) d (Mv.le l (fun _ z => Fl.top_pen z) fun _ z => .inl z) r
theorem Is.cs (r : Is K g sl σ H .c d v) : Is K g sl σ H .s d v := Rep.mv (Mv.anti fun _ z => .inl z) d (Mv.anti fun _ z => .inl z.av) r
theorem Is.sd (r : Is K g sl σ H .s d v) : Is K g sl σ H .d d v := Rep.mv (Mv.anti fun _ z => .inl z.av) d (Mv.anti fun _ z => .inl z) r
theorem Is.any (r : Is K g sl σ H .c d v) : Is K g sl σ H fl d v := by
  cases fl
  · exact r
  · exact r.cs
  · exact r.cs.sd
theorem EnvOk.ownH (E : EnvOk K g sl k σ H) {b : Addr} (h : OwnB sl σ b) : H b ≠ none ∧ (g.H0 b = none ∨ g.M b) := by
  obtain ⟨i, s, h1, h2, h3⟩ := h
  cases s with
  | own x =>
    obtain ⟨a, e, o, _, m⟩ := E.own i x h1
    rw [h3] at e; cases e
    refine ⟨?_, m⟩
    cases x <;> first | exact o.elim | (obtain ⟨vs, q, _⟩ := o; rw [q]; intro z; cases z)
  | pen =>
    obtain ⟨a, e, ⟨_, _, q, _⟩, m⟩ := E.pen i h1
    rw [h3] at e; cases e
    refine ⟨(by rw [q]; intro z; cases z), ?_⟩
    rcases m with m | m
    · exact .inr m
    · exact .inl m.2
  | un => exact h2.elim
  | d x => exact h2.elim
theorem EnvOk.avdom (E : EnvOk K g sl k σ H) {b : Addr} (h : Av g sl σ b) : H b ≠ none := h.elim (E.dom b) fun z => (E.ownH z).1
theorem OwnAt.mv {S S' : AS} (m : Mv H H' S S') : ∀ {x : D} {a : Addr}, OwnAt K S H x a → (∀ o, H a = some o → H' a = some o) → OwnAt K S' H' x a := fun {x a} o h => by
  cases x <;> first | exact o.elim | (obtain ⟨vs, q, r⟩ := o; first | exact ⟨vs, h _ q, RepL.mv m _ r⟩ | exact ⟨vs, h _ q, RepK.mv m _ r⟩ | exact ⟨vs, h _ q, RepT.mv m _ r⟩)
theorem OwnAt.ne {S : AS} {x : D} {a : Addr} (o : OwnAt K S H x a) : H a ≠ none := by
  cases x <;> first | exact o.elim | (obtain ⟨vs, q, _⟩ := o; rw [q]; intro z; cases z)
/-- from one context to another: the sets and the heap moved, the entry weakened -/
theorem EnvOk.move {g' : G} {k' : Nat} (E : EnvOk K g sl k σ H) (m : Mv H H' (Av g sl σ) (Av g' sl σ)) (ho : ∀ (i : Nat) x a, sl[i]? = some (Slot.own x) → σ[i]? = some (some (V.ref a)) → ∀ o, H a = some o → H' a = some o)
    (hp : ∀ (i : Nat) a, sl[i]? = some Slot.pen → σ[i]? = some (some (V.ref a)) → PenAt K (Av g sl σ) H k g.pb g.pn a → PenAt K (Av g' sl σ) H' k' g'.pb g'.pn a)
    (h1 : ∀ a, OwnB sl σ a → ¬ g.A a → ¬ g'.A a) (h2 : ∀ a, OwnB sl σ a → (g.H0 a = none ∨ g.M a) → (g'.H0 a = none ∨ g'.M a)) (h3 : ∀ a, OwnB sl σ a → (g.M a ∨ (¬ g.A a ∧ g.H0 a = none)) → (g'.M a ∨ (¬ g'.A a ∧ g'.H0 a = none)))
    (hl : LeA g'.M g'.H0 H') (hd : ∀ b, g'.A b → H' b ≠ none) (hm : ∀ b, g'.M b → g'.H0 b ≠ none) (hpa : g'.pa = g.pa := by rfl) : EnvOk K g' sl k' σ H' := by
  refine ⟨E.len, fun i x e => ?_, fun i x e => ?_, fun i e => ?_, E.inj, hl, hd, hm, fun i a e q => hpa.trans (E.pa i a e q)⟩
  · obtain ⟨v, q, r⟩ := E.d i x e
    exact ⟨v, q, r.mv m x m⟩
  · obtain ⟨a, q, r, n, w⟩ := E.own i x e
    have ob : OwnB sl σ a := ⟨i, _, e, trivial, q⟩
    exact ⟨a, q, r.mv m (ho i x a e q), h1 a ob n, h2 a ob w⟩
  · obtain ⟨a, q, r, w⟩ := E.pen i e
    have ob : OwnB sl σ a := ⟨i, _, e, trivial, q⟩
    exact ⟨a, q, hp i a e q r, h3 a ob w⟩
theorem PenAt.mv {S S' : AS} {a b : Addr} {ns : List Int} (m : Mv H H' S S') (h : PenAt K S H k b ns a) (e : ∀ o, H a = some o → H' a = some o) : PenAt K S' H' k b ns a := by
  obtain ⟨i, l, q, h1, h2, h3, h4, h5⟩ := h
  exact ⟨i, l, e _ q, h1, h2, h3, m.lsA h4, h5⟩
/-- the heap has grown -/
theorem EnvOk.grow (E : EnvOk K g sl k σ H) (h : ∀ a o, H a = some o → H' a = some o) : EnvOk K g sl k σ H' := by
  have m : Mv H H' (Av g sl σ) (Av g sl σ) := fun b x e n => ⟨⟨x, h b x e, rfl⟩, n⟩
  exact E.move m (fun _ _ a _ _ => h a) (fun _ a _ _ p => p.mv m (h a)) (fun _ _ z => z) (fun _ _ z => z) (fun _ _ z => z) (E.le.trans (LeA.same h)) (fun b z => (LeA.same (A := fun _ => False) h).ne (E.dom b z)) E.md
theorem EnvOk.new (E : EnvOk K g sl k σ H) {p : Addr} {o : HO} (h : H p = none) : EnvOk K g sl k σ (upd H p o) := E.grow fun a u e => by rw [upd_ne (ne_of_none e h)]; exact e
/-- .. with one more place that is not reached -/
def Pls (S : AS) (p : Addr) : AS := fun b => S b ∨ b = p
abbrev G.pls (g : G) (p : Addr) : G := { g with A := Pls g.A p }
theorem Av.pls {p b : Addr} (h : Av (g.pls p) sl σ b) : Av g sl σ b ∨ b = p := by
  rcases h with (h | h) | h
  · exact .inl (.inl h)
  · exact .inr h
  · exact .inl (.inr h)
theorem Av.plsI {p b : Addr} (h : Av g sl σ b ∨ b = p) : Av (g.pls p) sl σ b := by
  rcases h with (h | h) | h
  · exact .inl (.inl h)
  · exact .inr h
  · exact .inl (.inr h)
/-- behind an expression: what stood at H is known, the pen's state at H' too; p is new since H -/
theorem EnvOk.pls {k' : Nat} {p : Addr} (E : EnvOk K g sl k σ H) (E' : EnvOk K g sl k' σ H') (hp : H p = none) (l : LeA (PenB sl σ) H H') (hp' : H' p ≠ none) : EnvOk K (g.pls p) sl k' σ H' := by
  have m : Mv H H' (Av g sl σ) (Av (g.pls p) sl σ) := Mv.le l (fun _ z => .inr z.own) fun b z => z.pls.imp id fun e => by rw [e]; exact hp
  have np : ∀ a, OwnB sl σ a → a ≠ p := fun a h e => (E.ownH h).1 (by rw [e]; exact hp)
  refine E.move (g' := g.pls p) m (fun i x a e q o h => ?_) (fun i a e q p => ?_) (fun a ob n z => z.elim n (np a ob)) (fun a _ z => z) (fun a ob z => z.imp id fun z => ⟨fun y => y.elim z.1 (np a ob), z.2⟩) E'.le (fun b z => ?_) E'.md
  · rcases l a o h with h | ⟨⟨j, z1, z2⟩, _⟩
    · exact h
    · have := E.inj i j _ _ a e z1 trivial trivial q z2
      subst this
      rw [e] at z1; cases z1
  · obtain ⟨a', q', ⟨i', l', h1, h2, h3, h4, h5, h6⟩, _⟩ := E'.pen i e
    rw [q] at q'; cases q'
    obtain ⟨_, _, _, _, _, _, y5, _⟩ := p
    exact ⟨i', l', h1, h2, h3, h4, m.lsA y5, h6⟩
  · rcases z with z | z
    · exact E'.dom b z
    · rw [z]; exact hp'
/-- .. left again -/
theorem EnvOk.unpls {p : Addr} (E : EnvOk K (g.pls p) sl k σ H) : EnvOk K g sl k σ H := by
  have m : Mv H H (Av (g.pls p) sl σ) (Av g sl σ) := Mv.anti fun b z => .inl (Av.plsI (.inl z))
  exact E.move m (fun _ _ a _ _ o h => h) (fun _ a _ _ p => p.mv m fun _ h => h) (fun a _ z y => z (.inl y)) (fun _ _ z => z) (fun a _ z => z.imp id fun z => ⟨fun y => z.1 (.inl y), z.2⟩) E.le (fun b z => E.dom b (.inl z)) E.md
/-- behind an expression, the state as it is, by what stood ahead and the pen -/
theorem EnvOk.behind {k' : Nat} (E : EnvOk K g sl k σ H) (l : LeA (PenB sl σ) H H') (hp : ∀ (i : Nat) a, sl[i]? = some Slot.pen → σ[i]? = some (some (V.ref a)) → PenAt K (Av g sl σ) H' k' g.pb g.pn a) : EnvOk K g sl k' σ H' := by
  have m : Mv H H' (Av g sl σ) (Av g sl σ) := Mv.le l (fun _ z => .inr z.own) fun b z => .inl z
  refine E.move m (fun i x a e q o h => ?_) (fun i a e q _ => hp i a e q) (fun _ _ z => z) (fun _ _ z => z) (fun _ _ z => z) ?_ (fun b z => l.ne (E.dom b z)) E.md
  · rcases l a o h with h | ⟨⟨j, z1, z2⟩, _⟩
    · exact h
    · have := E.inj i j _ _ a e z1 trivial trivial q z2
      subst this
      rw [e] at z1; cases z1
  · intro b x h
    rcases E.le b x h with q | ⟨q1, q2, y, q3, q4⟩
    · rcases l b x q with z | ⟨z, m1, y, m2, m3⟩
      · exact .inl z
      · rcases (E.ownH z.own).2 with w | w
        · rw [h] at w; cases w
        · exact .inr ⟨w, m1, y, m2, m3⟩
    · rcases l b y q3 with z | ⟨z, m1, w, m2, m3⟩
      · exact .inr ⟨q1, q2, y, z, q4⟩
      · exact .inr ⟨q1, q2, w, m2, m3⟩
/-! names stored -/
theorem OwnB.set {i : Nat} {s : Slot} {v : V} {b : Addr} (h : OwnB (sl.set i s) (σ.set i (some v)) b) : (ownS s ∧ v = V.ref b) ∨ OwnB sl σ b := by
  obtain ⟨j, t, h1, h2, h3⟩ := h
  by_cases e : j = i
  · subst e
    by_cases hj : j < sl.length
    · rw [List.getElem?_set_self hj] at h1
      cases h1
      by_cases hk : j < σ.length
      · rw [List.getElem?_set_self hk] at h3
        cases h3
        exact .inl ⟨h2, rfl⟩
      · rw [List.getElem?_eq_none_iff.mpr (by rw [List.length_set]; omega)] at h3
        cases h3
    · rw [List.getElem?_eq_none_iff.mpr (by rw [List.length_set]; omega)] at h1
      cases h1
  · rw [List.getElem?_set_ne (Ne.symm e)] at h1 h3
    exact .inr ⟨j, t, h1, h2, h3⟩
theorem EnvOk.setD {i : Nat} (E : EnvOk K g sl k σ H) (r : Is K g sl σ H .c d v) : EnvOk K g (sl.set i (.d d)) k (σ.set i (some v)) H := by
  have av : ∀ b, Av g (sl.set i (.d d)) (σ.set i (some v)) b → Av g sl σ b := fun b z => z.imp id fun z => z.set.elim (fun y => y.1.elim) id
  have m : Mv H H (Av g sl σ) (Av g (sl.set i (.d d)) (σ.set i (some v))) := Mv.anti fun b z => .inl (av b z)
  refine ⟨by rw [List.length_set, List.length_set]; exact E.len, fun j x e => ?_, fun j x e => ?_, fun j e => ?_, fun j1 j2 s t a e1 e2 o1 o2 s1 s2 => ?_, E.le, E.dom, E.md, fun j a e q => let ⟨z1, z2⟩ := set_pen (by intro y; cases y) e; E.pa j a z2 (by rw [List.getElem?_set_ne z1] at q; exact q)⟩
  · by_cases q : j = i
    · subst q
      have hj : j < sl.length := by
        by_cases hj : j < sl.length
        · exact hj
        · rw [List.getElem?_eq_none_iff.mpr (by rw [List.length_set]; omega)] at e; cases e
      rw [List.getElem?_set_self hj] at e
      cases e
      exact ⟨v, List.getElem?_set_self (by rw [← E.len]; exact hj), Rep.mv m d m r⟩
    · rw [List.getElem?_set_ne (Ne.symm q)] at e
      obtain ⟨w, q1, r1⟩ := E.d j x e
      exact ⟨w, by rw [List.getElem?_set_ne (Ne.symm q)]; exact q1, Rep.mv m x m r1⟩
  · have q : j ≠ i := fun q => by
      subst q
      by_cases hj : j < sl.length
      · rw [List.getElem?_set_self hj] at e; cases e
      · rw [List.getElem?_eq_none_iff.mpr (by rw [List.length_set]; omega)] at e; cases e
    rw [List.getElem?_set_ne (Ne.symm q)] at e
    obtain ⟨a, q1, r1, w⟩ := E.own j x e
    exact ⟨a, by rw [List.getElem?_set_ne (Ne.symm q)]; exact q1, r1.mv m fun _ h => h, w⟩
  · have q : j ≠ i := fun q => by
      subst q
      by_cases hj : j < sl.length
      · rw [List.getElem?_set_self hj] at e; cases e
      · rw [List.getElem?_eq_none_iff.mpr (by rw [List.length_set]; omega)] at e; cases e
    rw [List.getElem?_set_ne (Ne.symm q)] at e
    obtain ⟨a, q1, r1, w⟩ := E.pen j e
    exact ⟨a, by rw [List.getElem?_set_ne (Ne.symm q)]; exact q1, r1.mv m fun _ h => h, w⟩
  · have no : ∀ j s, (sl.set i (.d d))[j]? = some s → ownS s → j ≠ i := fun j s e o q => by
      subst q
      by_cases hj : j < sl.length
      · rw [List.getElem?_set_self hj] at e; cases e; exact o
      · rw [List.getElem?_eq_none_iff.mpr (by rw [List.length_set]; omega)] at e; cases e
    have n1 := no j1 s e1 o1
    have n2 := no j2 t e2 o2
    rw [List.getElem?_set_ne (Ne.symm n1)] at e1 s1
    rw [List.getElem?_set_ne (Ne.symm n2)] at e2 s2
    exact E.inj j1 j2 s t a e1 e2 o1 o2 s1 s2
theorem Av.setOwn {i : Nat} {x : D} {p b : Addr} (h : Av g (sl.set i (.own x)) (σ.set i (some (V.ref p))) b) : Av (g.pls p) sl σ b := by
  rcases h with h | h
  · exact .inl (.inl h)
  · rcases h.set with ⟨_, e⟩ | h
    · cases e; exact .inl (.inr rfl)
    · exact .inr h
/-- a new list or dict at p, given to a name -/
theorem EnvOk.setOwn {i : Nat} {x : D} {p : Addr} (E : EnvOk K (g.pls p) sl k σ H) (o : OwnAt K (Av (g.pls p) sl σ) H x p) (h0 : g.H0 p = none) (hA : ¬ g.A p) : EnvOk K g (sl.set i (.own x)) k (σ.set i (some (V.ref p))) H := by
  have np : ¬ g.M p := fun z => E.md p z h0
  have nob : ∀ a, OwnB sl σ a → a ≠ p := fun a ⟨j, s, h1, h2, h3⟩ e => by
    subst e
    cases s with
    | own y =>
      obtain ⟨b, q, _, n, _⟩ := E.own j y h1
      rw [h3] at q; cases q
      exact n (.inr rfl)
    | pen =>
      obtain ⟨b, q, _, w⟩ := E.pen j h1
      rw [h3] at q; cases q
      exact w.elim np fun w => w.1 (.inr rfl)
    | un => exact h2
    | d _ => exact h2
  have m : Mv H H (Av (g.pls p) sl σ) (Av g (sl.set i (.own x)) (σ.set i (some (V.ref p)))) := Mv.anti fun b z => .inl z.setOwn
  have lt : ∀ {j : Nat} {s : Slot}, (sl.set i (Slot.own x))[j]? = some s → j < sl.length := fun {j s} e => by
    by_cases hj : j < sl.length
    · exact hj
    · rw [List.getElem?_eq_none_iff.mpr (by rw [List.length_set]; omega)] at e; cases e
  refine ⟨by rw [List.length_set, List.length_set]; exact E.len, fun j y e => ?_, fun j y e => ?_, fun j e => ?_, fun j1 j2 s t a e1 e2 o1 o2 s1 s2 => ?_, E.le, fun b z => E.dom b (.inl z), E.md, fun j a e q => let ⟨z1, z2⟩ := set_pen (by intro y; cases y) e; E.pa j a z2 (by rw [List.getElem?_set_ne z1] at q; exact q)⟩
  · have hj := lt e
    have q : j ≠ i := fun q => by
      subst q
      rw [List.getElem?_set_self hj] at e; cases e
    rw [List.getElem?_set_ne (Ne.symm q)] at e
    obtain ⟨w, q1, r1⟩ := E.d j y e
    exact ⟨w, by rw [List.getElem?_set_ne (Ne.symm q)]; exact q1, Rep.mv m y m r1⟩
  · have hj := lt e
    by_cases q : j = i
    · subst q
      rw [List.getElem?_set_self hj] at e
      cases e
      exact ⟨p, List.getElem?_set_self (by rw [← E.len]; exact hj), o.mv m fun _ h => h, hA, .inl h0⟩
    · rw [List.getElem?_set_ne (Ne.symm q)] at e
      obtain ⟨a, q1, r1, n, w⟩ := E.own j y e
      exact ⟨a, by rw [List.getElem?_set_ne (Ne.symm q)]; exact q1, r1.mv m fun _ h => h, fun z => n (.inl z), w⟩
  · have hj := lt e
    have q : j ≠ i := fun q => by
      subst q
      rw [List.getElem?_set_self hj] at e; cases e
    rw [List.getElem?_set_ne (Ne.symm q)] at e
    obtain ⟨a, q1, r1, w⟩ := E.pen j e
    exact ⟨a, by rw [List.getElem?_set_ne (Ne.symm q)]; exact q1, r1.mv m fun _ h => h, w.imp id fun w => ⟨fun z => w.1 (.inl z), w.2⟩⟩
  · have key : ∀ j s, (sl.set i (.own x))[j]? = some s → ownS s → (σ.set i (some (V.ref p)))[j]? = some (some (V.ref a)) → (j = i ∧ a = p) ∨ (j ≠ i ∧ sl[j]? = some s ∧ σ[j]? = some (some (V.ref a)) ∧ a ≠ p) := fun j s e o q => by
      by_cases hj : j = i
      · subst hj
        rw [List.getElem?_set_self (by rw [← E.len]; exact lt e)] at q
        cases q
        exact .inl ⟨rfl, rfl⟩
      · rw [List.getElem?_set_ne (Ne.symm hj)] at e q
        exact .inr ⟨hj, e, q, nob a ⟨j, s, e, o, q⟩⟩
    rcases key j1 s e1 o1 s1 with ⟨z1, y1⟩ | ⟨z1, y1, w1, v1⟩
    · rcases key j2 t e2 o2 s2 with ⟨z2, y2⟩ | ⟨z2, y2, w2, v2⟩
      · rw [z1, z2]
      · exact absurd y1 v2
    · rcases key j2 t e2 o2 s2 with ⟨z2, y2⟩ | ⟨z2, y2, w2, v2⟩
      · exact absurd y2 v1
      · exact E.inj j1 j2 s t a y1 y2 o1 o2 w1 w2
/-- an own list or dict is changed -/
theorem EnvOk.put {i : Nat} {x x' : D} {a : Addr} {u u' : HO} (E : EnvOk K g sl k σ H) (hs : sl[i]? = some (Slot.own x)) (ha : σ[i]? = some (some (V.ref a))) (hu : H a = some u) (m1 : mutb u) (m2 : mutb u') (hc : mutb (core u))
    (o : OwnAt K (Av g sl σ) (upd H a u') x' a) : EnvOk K g (sl.set i (.own x')) k σ (upd H a u') := by
  have oa : OwnB sl σ a := ⟨i, _, hs, trivial, ha⟩
  have hi : i < sl.length := (List.getElem?_eq_some_iff.mp hs).1
  have iff : ∀ b, OwnB (sl.set i (.own x')) σ b ↔ OwnB sl σ b := fun b => by
    constructor
    · rintro ⟨j, s, h1, h2, h3⟩
      by_cases e : j = i
      · subst e
        rw [ha] at h3; cases h3
        exact oa
      · rw [List.getElem?_set_ne (Ne.symm e)] at h1
        exact ⟨j, s, h1, h2, h3⟩
    · rintro ⟨j, s, h1, h2, h3⟩
      by_cases e : j = i
      · subst e
        exact ⟨j, _, List.getElem?_set_self hi, trivial, h3⟩
      · exact ⟨j, s, by rw [List.getElem?_set_ne (Ne.symm e)]; exact h1, h2, h3⟩
  have av : ∀ b, Av g (sl.set i (.own x')) σ b ↔ Av g sl σ b := fun b => by
    unfold Av
    rw [iff b]
  have m : Mv H (upd H a u') (Av g sl σ) (Av g (sl.set i (.own x')) σ) := fun b z e n => by
    have ne : b ≠ a := fun q => by
      subst q
      rw [hu] at e; cases e
      exact n hc (.inr oa)
    exact ⟨⟨z, by rw [upd_ne ne]; exact e, rfl⟩, fun mm y => n mm ((av b).mp y)⟩
  have m' : Mv (upd H a u') (upd H a u') (Av g sl σ) (Av g (sl.set i (.own x')) σ) := Mv.anti fun b z => .inl ((av b).mp z)
  have other : ∀ {j : Nat} {s : Slot}, (sl.set i (Slot.own x'))[j]? = some s → j ≠ i → sl[j]? = some s := fun {j s} e q => by
    rw [List.getElem?_set_ne (Ne.symm q)] at e
    exact e
  refine ⟨by rw [List.length_set]; exact E.len, fun j y e => ?_, fun j y e => ?_, fun j e => ?_, fun j1 j2 s t b e1 e2 o1 o2 s1 s2 => ?_, ?_, fun b z => ?_, E.md, fun j a e q => let ⟨z1, z2⟩ := set_pen (by intro y; cases y) e; E.pa j a z2 q⟩
  · have q : j ≠ i := fun q => by
      subst q
      rw [List.getElem?_set_self hi] at e; cases e
    obtain ⟨w, q1, r1⟩ := E.d j y (other e q)
    exact ⟨w, q1, Rep.mv m y m r1⟩
  · by_cases q : j = i
    · subst q
      rw [List.getElem?_set_self hi] at e
      cases e
      obtain ⟨b, q1, _, n, w⟩ := E.own j x hs
      rw [ha] at q1; cases q1
      exact ⟨a, ha, o.mv m' fun _ h => h, n, w⟩
    · have e' := other e q
      obtain ⟨b, q1, r1, n, w⟩ := E.own j y e'
      have ne : b ≠ a := fun z => by
        subst z
        exact q (E.inj j i _ _ b e' hs trivial trivial q1 ha)
      exact ⟨b, q1, r1.mv m fun _ h => by rw [upd_ne ne]; exact h, n, w⟩
  · have q : j ≠ i := fun q => by
      subst q
      rw [List.getElem?_set_self hi] at e; cases e
    have e' := other e q
    obtain ⟨b, q1, r1, w⟩ := E.pen j e'
    have ne : b ≠ a := fun z => by
      subst z
      exact q (E.inj j i _ _ b e' hs trivial trivial q1 ha)
    exact ⟨b, q1, r1.mv m fun _ h => by rw [upd_ne ne]; exact h, w⟩
  · have key : ∀ j s, (sl.set i (.own x'))[j]? = some s → ownS s → ∃ s', sl[j]? = some s' ∧ ownS s' := fun j s e o => by
      by_cases hj : j = i
      · subst hj
        exact ⟨_, hs, trivial⟩
      · exact ⟨s, other e hj, o⟩
    obtain ⟨s', y1, z1⟩ := key j1 s e1 o1
    obtain ⟨t', y2, z2⟩ := key j2 t e2 o2
    exact E.inj j1 j2 s' t' b y1 y2 z1 z2 s1 s2
  · intro b z e
    by_cases q : b = a
    · subst q
      rcases (E.ownH oa).2 with h | h
      · rw [h] at e; cases e
      · rcases E.le b z e with h' | ⟨_, h2, _⟩
        · rw [hu] at h'; cases h'
          exact .inr ⟨h, m1, u', upd_same, m2⟩
        · exact .inr ⟨h, h2, u', upd_same, m2⟩
    · rw [upd_ne q]
      exact E.le b z e
  · by_cases q : b = a
    · rw [q, upd_same]; intro z; cases z
    · rw [upd_ne q]; exact E.dom b z
/-- an own thing is changed no more -/
theorem EnvOk.freeze {i : Nat} {x : D} (E : EnvOk K g sl k σ H) (hs : sl[i]? = some (Slot.own x)) : EnvOk K g (sl.set i (.d x)) k σ H := by
  have hi : i < sl.length := (List.getElem?_eq_some_iff.mp hs).1
  have av : ∀ b, Av g (sl.set i (.d x)) σ b → Av g sl σ b := fun b z => z.imp id fun ⟨j, s, h1, h2, h3⟩ => by
    by_cases e : j = i
    · subst e
      rw [List.getElem?_set_self hi] at h1
      cases h1; exact h2.elim
    · rw [List.getElem?_set_ne (Ne.symm e)] at h1
      exact ⟨j, s, h1, h2, h3⟩
  have m : Mv H H (Av g sl σ) (Av g (sl.set i (.d x)) σ) := Mv.anti fun b z => .inl (av b z)
  have other : ∀ {j : Nat} {s : Slot}, (sl.set i (Slot.d x))[j]? = some s → j ≠ i → sl[j]? = some s := fun {j s} e q => by
    rw [List.getElem?_set_ne (Ne.symm q)] at e
    exact e
  refine ⟨by rw [List.length_set]; exact E.len, fun j y e => ?_, fun j y e => ?_, fun j e => ?_, fun j1 j2 s t b e1 e2 o1 o2 s1 s2 => ?_, E.le, E.dom, E.md, fun j a e q => let ⟨z1, z2⟩ := set_pen (by intro y; cases y) e; E.pa j a z2 q⟩
  · by_cases q : j = i
    · subst q
      rw [List.getElem?_set_self hi] at e
      cases e
      obtain ⟨a, q1, o, n, w⟩ := E.own j x hs
      have na : ¬ Av g (sl.set j (.d x)) σ a := fun z => z.elim n fun ⟨i2, s, h1, h2, h3⟩ => by
        by_cases e : i2 = j
        · subst e
          rw [List.getElem?_set_self hi] at h1
          cases h1; exact h2.elim
        · exact e (E.inj i2 j s _ a (other h1 e) hs h2 trivial h3 q1)
      refine ⟨_, q1, ?_⟩
      cases x <;> first | exact o.elim | skip
      · obtain ⟨vs, h, r⟩ := o
        exact ⟨a, vs, rfl, ⟨h, na⟩, RepL.mv m _ r⟩
      · obtain ⟨vs, h, r⟩ := o
        exact ⟨a, vs, rfl, ⟨⟨_, h, rfl⟩, na⟩, RepK.mv m _ r⟩
      · obtain ⟨vs, h, r⟩ := o
        exact ⟨a, vs, rfl, ⟨⟨_, h, rfl⟩, na⟩, RepT.mv m _ r⟩
    · obtain ⟨w, q1, r1⟩ := E.d j y (other e q)
      exact ⟨w, q1, Rep.mv m y m r1⟩
  · have q : j ≠ i := fun q => by
      subst q
      rw [List.getElem?_set_self hi] at e; cases e
    obtain ⟨b, q1, r1, w⟩ := E.own j y (other e q)
    exact ⟨b, q1, r1.mv m fun _ h => h, w⟩
  · have q : j ≠ i := fun q => by
      subst q
      rw [List.getElem?_set_self hi] at e; cases e
    obtain ⟨b, q1, r1, w⟩ := E.pen j (other e q)
    exact ⟨b, q1, r1.mv m fun _ h => h, w⟩
  · have no : ∀ j s, (sl.set i (.d x))[j]? = some s → ownS s → j ≠ i := fun j s e o q => by
      subst q
      rw [List.getElem?_set_self hi] at e; cases e; exact o
    exact E.inj j1 j2 s t b (other e1 (no _ _ e1 o1)) (other e2 (no _ _ e2 o2)) o1 o2 s1 s2
/-- the same frame, its entry laid at H: what it has of its own may change -/
abbrev G.at (g : G) (sl : List Slot) (σ : L2.St) (H : Hp) : G := { g with M := OwnB sl σ, H0 := H }
theorem EnvOk.rebase (E : EnvOk K g sl k σ H) : EnvOk K (g.at sl σ H) sl k σ H := by
  have m : Mv H H (Av g sl σ) (Av (g.at sl σ H) sl σ) := Mv.anti fun b z => .inl z
  exact E.move m (fun _ _ a _ _ o h => h) (fun _ a _ _ p => p.mv m fun _ h => h) (fun a _ z => z) (fun a o _ => .inr o) (fun a o _ => .inl o) (LeA.refl H) E.dom fun b z => (E.ownH z).1
theorem EnvOk.unbase {sl' : List Slot} {σ' : L2.St} {k' : Nat} (E : EnvOk K g sl k σ H) (E' : EnvOk K (g.at sl σ H) sl' k' σ' H') : EnvOk K g sl' k' σ' H' := by
  have m : Mv H' H' (Av (g.at sl σ H) sl' σ') (Av g sl' σ') := Mv.anti fun b z => .inl z
  refine E'.move m (fun _ _ a _ _ o h => h) (fun _ a _ _ p => p.mv m fun _ h => h) (fun a _ z => z) (fun a o w => ?_) (fun a o w => ?_) ?_ E'.dom E.md
  · rcases w with w | w
    · have w : H a = none := w
      cases q : g.H0 a with
      | none => exact .inl rfl
      | some x =>
        rcases E.le a x q with z | ⟨z, _⟩
        · rw [w] at z; cases z
        · exact .inr z
    · exact (E.ownH w).2
  · rcases w with w | ⟨w1, w2⟩
    · obtain ⟨i, s, h1, h2, h3⟩ := id w
      cases s with
      | own x =>
        obtain ⟨b, q, _, n, w⟩ := E.own i x h1
        rw [h3] at q; cases q
        rcases w with w | w
        · exact .inr ⟨n, w⟩
        · exact .inl w
      | pen =>
        obtain ⟨b, q, _, w⟩ := E.pen i h1
        rw [h3] at q; cases q
        exact w
      | un => exact h2.elim
      | d _ => exact h2.elim
    · have w2 : H a = none := w2
      cases q : g.H0 a with
      | none => exact .inr ⟨w1, rfl⟩
      | some x =>
        rcases E.le a x q with z | ⟨z, _⟩
        · rw [w2] at z; cases z
        · exact .inl z
  · intro b x e
    rcases E.le b x e with q | ⟨q1, q2, y, q3, q4⟩
    · rcases E'.le b x q with z | ⟨z, m1, y, m2, m3⟩
      · exact .inl z
      · rcases (E.ownH z).2 with w | w
        · rw [e] at w; cases w
        · exact .inr ⟨w, m1, y, m2, m3⟩
    · rcases E'.le b y q3 with z | ⟨z, m1, w, m2, m3⟩
      · exact .inr ⟨q1, q2, y, z, q4⟩
      · exact .inr ⟨q1, q2, w, m2, m3⟩
end
end DL

/-! data layer, part b: expressions over data -/
namespace DL
open PySem PySem.Spec PyProof.Rows L2

abbrev SL := List Slot
abbrev TD := SL → Nat → (D → Nat → Prop) → Prop
abbrev TDT := SL → Nat → (Bool → Nat → Prop) → Prop
abbrev TDA := SL → Nat → (List D → Nat → Prop) → Prop
abbrev RD1 := D → (D → Prop) → Prop
abbrev RD2 := D → D → (D → Prop) → Prop
abbrev RDA := List D → (D → Prop) → Prop
theorem PE.weak {X : Cx} {e : Expr} {t t' : TE} (p : PE X e t) (h : ∀ σ H Q, t' σ H Q → t σ H Q) : PE X e t' := ⟨fun pins s σ H Q I q => p.run pins s σ H Q I (h σ H Q q)⟩
theorem PT.weak {X : Cx} {e : Expr} {t t' : TT} (p : PT X e t) (h : ∀ σ H Q, t' σ H Q → t σ H Q) : PT X e t' := ⟨fun pins s σ H Q I q => p.run pins s σ H Q I (h σ H Q q)⟩
theorem PW.weak {X : Cx} {e : Expr} {t t' : TT} (p : PW X e t) (h : ∀ σ H Q, t' σ H Q → t σ H Q) : PW X e t' := ⟨fun wh pins s σ H Q I q => p.run wh pins s σ H Q I (h σ H Q q)⟩
theorem PA.weak {X : Cx} {es : List Expr} {t t' : TA} (p : PA X es t) (h : ∀ σ H Q, t' σ H Q → t σ H Q) : PA X es t' := ⟨fun pos pins s σ H Q I q => p.run pos pins s σ H Q I (h σ H Q q)⟩
theorem PS.weak {X : Cx} {e : Stmt} {t t' : TS} (p : PS X e t) (h : ∀ D σ H, t' D σ H → t D σ H) : PS X e t' := ⟨fun pins s σ H D I q => p.run pins s σ H D I (h D σ H q)⟩
theorem PSs.weak {X : Cx} {e : List Stmt} {t t' : TS} (p : PSs X e t) (h : ∀ D σ H, t' D σ H → t D σ H) : PSs X e t' := ⟨fun pins s σ H D I q => p.run pins s σ H D I (h D σ H q)⟩

/-- the state behind an expression -/
structure Bh (K : PySem.W.Frag) (g : G) (sl : SL) (σ : L2.St) (H : Hp) (k' : Nat) (H' : Hp) : Prop where
  env : EnvOk K g sl k' σ H'
  le : LeA (PenB sl σ) H H'
theorem Bh.trans {K : PySem.W.Frag} {g : G} {sl : SL} {σ : L2.St} {H H1 H2 : Hp} {k1 k2 : Nat} (a : Bh K g sl σ H k1 H1) (b : Bh K g sl σ H1 k2 H2) : Bh K g sl σ H k2 H2 := ⟨b.env, a.le.trans b.le⟩
theorem Bh.refl {K : PySem.W.Frag} {g : G} {sl : SL} {σ : L2.St} {H : Hp} {k : Nat} (E : EnvOk K g sl k σ H) : Bh K g sl σ H k H := ⟨E, LeA.refl H⟩
theorem Bh.new {K : PySem.W.Frag} {g : G} {sl : SL} {σ : L2.St} {H H' : Hp} {k : Nat} (b : Bh K g sl σ H k H') {p : Addr} {o : HO} (h : H' p = none) : Bh K g sl σ H k (upd H' p o) := ⟨b.env.new h, b.le.trans (LeA.new h)⟩

def tD (K : PySem.W.Frag) (fl : Fl) (t : TD) : TE := fun σ H Q => ∃ g sl k, EnvOk K g sl k σ H ∧ t sl k fun d k' => ∀ v H', Bh K g sl σ H k' H' → Is K g sl σ H' fl d v → Q v H'
def tDT (K : PySem.W.Frag) (t : TDT) : TT := fun σ H Q => ∃ g sl k, EnvOk K g sl k σ H ∧ t sl k fun b k' => ∀ H', Bh K g sl σ H k' H' → Q b H'
/-- the values of a list of expressions -/
def IsL (K : PySem.W.Frag) (g : G) (sl : SL) (σ : L2.St) (H : Hp) (fl : Fl) : List D → List V → Prop
  | [], vs => vs = []
  | x :: xs, vs => ∃ v ws, vs = v :: ws ∧ Is K g sl σ H fl x v ∧ IsL K g sl σ H fl xs ws
def tDA (K : PySem.W.Frag) (fl : Fl) (t : TDA) : TA := fun σ H Q => ∃ g sl k, EnvOk K g sl k σ H ∧ t sl k fun ds k' => ∀ vs H', Bh K g sl σ H k' H' → IsL K g sl σ H' fl ds vs → Q vs H'
structure DE (X : Cx) (fl : Fl) (e : Expr) (t : TD) : Prop where
  pe : PE X e (tD X.K fl t)
  mono : ∀ sl k P Q, (∀ d k', P d k' → Q d k') → t sl k P → t sl k Q
structure DT (X : Cx) (e : Expr) (t : TDT) : Prop where
  pt : PT X e (tDT X.K t)
  mono : ∀ sl k P Q, (∀ d k', P d k' → Q d k') → t sl k P → t sl k Q
structure DW (X : Cx) (e : Expr) (t : TDT) : Prop where
  pw : PW X e (tDT X.K t)
  mono : ∀ sl k P Q, (∀ d k', P d k' → Q d k') → t sl k P → t sl k Q
structure DA (X : Cx) (fl : Fl) (es : List Expr) (t : TDA) : Prop where
  pa : PA X es (tDA X.K fl t)
  mono : ∀ sl k P Q, (∀ d k', P d k' → Q d k') → t sl k P → t sl k Q

section
variable {K : PySem.W.Frag} {g : G} {sl : SL} {k : Nat} {σ : L2.St} {H H' : Hp} {fl : Fl} {d : D} {v : V}
theorem IsL.le : ∀ {ds : List D} {vs : List V}, IsL K g sl σ H fl ds vs → LeA (PenB sl σ) H H' → IsL K g sl σ H' fl ds vs
  | [], _, r, _ => r
  | _ :: _, _, ⟨v, ws, e, r, q⟩, l => ⟨v, ws, e, r.le l, q.le l⟩
theorem IsL.length : ∀ {ds : List D} {vs : List V}, IsL K g sl σ H fl ds vs → ds.length = vs.length
  | [], _, r => by
    rw [show _ = [] from r]
    rfl
  | _ :: _, _, ⟨v, ws, e, r, q⟩ => by rw [e, List.length_cons, List.length_cons, q.length]
theorem RepL.length {S : AS} : ∀ {ds : List D} {vs : List V}, RepL K S H ds vs → ds.length = vs.length
  | [], _, r => by
    rw [show _ = [] from r]
    rfl
  | _ :: _, _, ⟨v, ws, e, r, q⟩ => by rw [e, List.length_cons, List.length_cons, RepL.length q]
theorem RepL.get {S : AS} : ∀ {ds : List D} {vs : List V} {i : Nat} {x : D}, RepL K S H ds vs → ds[i]? = some x → ∃ v, vs[i]? = some v ∧ Rep K S H x S v
  | [], _, _, _, _, h => by simp at h
  | y :: _, _, 0, x, ⟨v, ws, e, r, q⟩, h => by
    have e' : y = x := Option.some.inj h
    subst e' e
    exact ⟨v, rfl, r⟩
  | _ :: _, _, i + 1, x, ⟨v, ws, e, r, q⟩, h => by
    subst e
    exact RepL.get (i := i) q (by simpa using h)
theorem RepL.append {S : AS} : ∀ {xs ys : List D} {vs ws : List V}, RepL K S H xs vs → RepL K S H ys ws → RepL K S H (xs ++ ys) (vs ++ ws)
  | [], _, _, _, r, q => by rw [show _ = [] from r]; exact q
  | _ :: _, _, _, _, ⟨v, ws, e, r, q⟩, h => by subst e; exact ⟨v, _, rfl, r, RepL.append q h⟩
theorem RepL.one {S : AS} {x : D} {v : V} (r : Rep K S H x S v) : RepL K S H [x] [v] := ⟨v, [], rfl, r, rfl⟩
theorem RepL.take {S : AS} : ∀ {xs : List D} {vs : List V} (n : Nat), RepL K S H xs vs → RepL K S H (xs.take n) (vs.take n)
  | [], _, n, r => by rw [show _ = [] from r]; simp [RepL]
  | _ :: _, _, 0, _ => rfl
  | _ :: _, _, n + 1, ⟨v, ws, e, r, q⟩ => by subst e; exact ⟨v, _, rfl, r, RepL.take n q⟩
theorem RepL.drop {S : AS} : ∀ {xs : List D} {vs : List V} (n : Nat), RepL K S H xs vs → RepL K S H (xs.drop n) (vs.drop n)
  | [], _, n, r => by rw [show _ = [] from r]; simp [RepL]
  | x :: xs, _, 0, ⟨v, ws, e, r, q⟩ => ⟨v, ws, e, r, q⟩
  | _ :: _, _, n + 1, ⟨v, ws, e, r, q⟩ => by subst e; exact RepL.drop n q
theorem RepL.set {S : AS} {x : D} {v : V} (h : Rep K S H x S v) : ∀ {xs : List D} {vs : List V} (n : Nat), RepL K S H xs vs → RepL K S H (xs.set n x) (vs.set n v)
  | [], _, n, r => by rw [show _ = [] from r]; simp [RepL]
  | _ :: _, _, 0, ⟨w, ws, e, r, q⟩ => by subst e; exact ⟨v, ws, rfl, h, q⟩
  | _ :: _, _, n + 1, ⟨w, ws, e, r, q⟩ => by subst e; exact ⟨w, _, rfl, r, RepL.set h n q⟩
theorem RepL.ints {S : AS} : ∀ {ns : List Int} {vs : List V}, RepL K S H (ns.map D.int) vs → vs = ns.map V.int
  | [], _, r => r
  | n :: ns, _, ⟨v, ws, e, r, q⟩ => by
    have r' : v = V.int n := r
    subst r' e
    rw [RepL.ints q]
    rfl
theorem RepL.mkInts {S : AS} : ∀ {ns : List Int}, RepL K S H (ns.map D.int) (ns.map V.int)
  | [] => rfl
  | n :: ns => ⟨.int n, ns.map V.int, rfl, rfl, RepL.mkInts⟩
/-- the plain values -/
def scV : D → Option V
  | .non => some .non
  | .bl b => some (.bl b)
  | .int i => some (.int i)
  | .str x => some (.str x)
  | .raw v => some v
  | _ => none
theorem sc_rep {S T : AS} (h : scV d = some v) : Rep K S H d T v := by
  cases d <;> simp only [scV, Option.some.injEq, reduceCtorEq] at h <;> (subst h; rfl)
end

section
variable {X : Cx} {fl fl' : Fl} {e a b : Expr} {es : List Expr} {ta tb t : TD} {pos : Pos} {x : Str}
theorem DE.cs (h : DE X .c e t) : DE X .s e t := ⟨PE.weak h.pe fun σ H Q ⟨g, sl, k, E, q⟩ => ⟨g, sl, k, E, h.mono _ _ _ _ (fun d k' z v H' B r => z v H' B r.cs) q⟩, h.mono⟩
theorem DE.sd (h : DE X .s e t) : DE X .d e t := ⟨PE.weak h.pe fun σ H Q ⟨g, sl, k, E, q⟩ => ⟨g, sl, k, E, h.mono _ _ _ _ (fun d k' z v H' B r => z v H' B r.sd) q⟩, h.mono⟩
theorem DE.cd (h : DE X .c e t) : DE X .d e t := h.cs.sd
/-- a plain value is all -/
def dC (d : D) : TD := fun _ k Q => Q d k
theorem de_c {v : V} (d : D) (p : PE X e (tC v)) (h : scV d = some v) : DE X .c e (dC d) :=
  ⟨PE.weak p fun σ H Q ⟨g, sl, k, E, q⟩ => q v H (Bh.refl E) (sc_rep h), fun _ _ _ _ h q => h _ _ q⟩
theorem de_int {i j} : DE X .c (.Constant (.int i) j pos) (dC (.int i)) := de_c _ pe_int rfl
theorem de_bl {i j} : DE X .c (.Constant (.bool i) j pos) (dC (.bl i)) := de_c _ pe_bl rfl
theorem de_non {j} : DE X .c (.Constant .none j pos) (dC .non) := de_c _ pe_non rfl
theorem de_str {i j} : DE X .c (.Constant (.str i) j pos) (dC (.str i)) := de_c _ pe_str rfl
theorem de_glob {v : V} {u : Value} (d : D) (hg : Gl X x) (hm : X.mg x = some u) (r : RelV v u) (h : scV d = some v) (hd : (x == ("__debug__" : Str)) = false := by decide) : DE X .c (.Name x pos) (dC d) := de_c d (pe_glob hg hm r hd) h
def dV (i : Nat) : TD := fun sl k Q => ∃ d, sl[i]? = some (Slot.d d) ∧ Q d k
/-- a list or dict of its own, read -/
def dO (i : Nat) : TD := fun sl k Q => ∃ d, sl[i]? = some (Slot.own d) ∧ Q d k
theorem dv (i : Nat) (hN : X.N[i]? = some x := by rfl) (hv : Vis X.env.scope x := by first | exact Or.inl rfl | exact Or.inr (Or.inl rfl) | exact Or.inr (Or.inr rfl)) (hd : (x == ("__debug__" : Str)) = false := by decide)
    (hcd : (x == ("__classdict__" : Str)) = false := by decide) : DE X .c (.Name x pos) (dV i) :=
  ⟨PE.weak (pv i hN hv hd hcd) fun σ H Q ⟨g, sl, k, E, d, e, q⟩ => by
    obtain ⟨v, h, r⟩ := E.d i d e
    exact ⟨v, h, q v H (Bh.refl E) r⟩, fun _ _ _ _ h ⟨d, e, q⟩ => ⟨d, e, h _ _ q⟩⟩
theorem EnvOk.ownIs {K : PySem.W.Frag} {g : G} {sl : SL} {k : Nat} {σ : L2.St} {H : Hp} {i : Nat} {d : D} (E : EnvOk K g sl k σ H) (e : sl[i]? = some (Slot.own d)) : ∃ v, σ[i]? = some (some v) ∧ Is K g sl σ H .s d v := by
  obtain ⟨a, h, o, n, w⟩ := E.own i d e
  have np : ¬ Pv g sl σ a := fun z => z.elim n fun ⟨j, z1, z2⟩ => by
    have := E.inj i j _ _ a e z1 trivial trivial h z2
    subst this
    rw [e] at z1; cases z1
  refine ⟨_, h, ?_⟩
  cases d <;> first | exact o.elim | skip
  · obtain ⟨vs, y, r⟩ := o
    exact ⟨a, vs, rfl, ⟨y, np⟩, r⟩
  · obtain ⟨vs, y, r⟩ := o
    exact ⟨a, vs, rfl, ⟨⟨_, y, rfl⟩, np⟩, r⟩
  · obtain ⟨vs, y, r⟩ := o
    exact ⟨a, vs, rfl, ⟨⟨_, y, rfl⟩, np⟩, r⟩
theorem dOv (i : Nat) (hN : X.N[i]? = some x := by rfl) (hv : Vis X.env.scope x := by first | exact Or.inl rfl | exact Or.inr (Or.inl rfl) | exact Or.inr (Or.inr rfl)) (hd : (x == ("__debug__" : Str)) = false := by decide)
    (hcd : (x == ("__classdict__" : Str)) = false := by decide) : DE X .s (.Name x pos) (dO i) :=
  ⟨PE.weak (pv i hN hv hd hcd) fun σ H Q ⟨g, sl, k, E, d, e, q⟩ => by
    obtain ⟨v, h, r⟩ := E.ownIs e
    exact ⟨v, h, q v H (Bh.refl E) r⟩, fun _ _ _ _ h ⟨d, e, q⟩ => ⟨d, e, h _ _ q⟩⟩

/-! ### operations -/
def dOp (r : RD2) (ta tb : TD) : TD := fun sl k Q => ta sl k fun x k1 => tb sl k1 fun y k2 => r x y fun z => Q z k2
def dUn (r : RD1) (ta : TD) : TD := fun sl k Q => ta sl k fun x k1 => r x fun z => Q z k1
/-- an operation whose answer is a plain value -/
structure OpS (X : Cx) (f : Value → Value → Sem Value) (r : RD2) : Prop where
  ex : ∃ rr : R2, OpR X f rr ∧ ∀ (S T S' T' : AS) (H : Hp) (x y : D) (v u : V) (P : D → Prop) (Q : VK), Rep X.K S H x T v → Rep X.K S' H y T' u → r x y P → (∀ z w, P z → scV z = some w → Q w H) → rr v u H Q
  mono : ∀ x y (P Q : D → Prop), (∀ z, P z → Q z) → r x y P → r x y Q
theorem bin_pe {f : Value → Value → Sem Value} {r : RD2} (ho : OpS X f r) (ha : DE X fl a ta) (hb : DE X fl' b tb) (hp : ∀ rr, OpR X f rr → PE X e (tOp rr (tD X.K fl ta) (tD X.K fl' tb))) : DE X .c e (dOp r ta tb) := by
  obtain ⟨rr, h1, h2⟩ := ho.ex
  refine ⟨PE.weak (hp rr h1) fun σ H Q ⟨g, sl, k, E, q⟩ => ?_, fun sl k P Q h q => ha.mono _ _ _ _ (fun x k1 => hb.mono _ _ _ _ fun y k2 => ho.mono x y _ _ fun z => h z k2) q⟩
  refine ⟨g, sl, k, E, ha.mono _ _ _ _ (fun x k1 q v H1 B1 r1 => ?_) q⟩
  refine ⟨g, sl, k1, B1.env, hb.mono _ _ _ _ (fun y k2 q u H2 B2 r2 => ?_) q⟩
  exact h2 _ _ _ _ H2 x y v u _ Q (r1.le B2.le) r2 q fun z w pz hz => pz w H2 (B1.trans B2) (sc_rep hz)
theorem de_op {op : Operator} {r : RD2} (ho : OpS X (binaryOp op) r) (ha : DE X fl a ta) (hb : DE X fl' b tb) : DE X .c (.BinOp a op b pos) (dOp r ta tb) := bin_pe ho ha hb fun rr h => pe_op h ha.pe hb.pe
theorem de_cmp {op : CmpOp} {r : RD2} (ho : OpS X (compareOp op) r) (ha : DE X fl a ta) (hb : DE X fl' b tb) (hm : behindInMarks op b = false := by first | rfl | exact nomark _) : DE X .c (.Compare a [op] [b] pos) (dOp r ta tb) := bin_pe ho ha hb fun rr h => pe_cmpR h ha.pe hb.pe hm
def rd2 (C : Int → Int → Prop) (g : Int → Int → D) : RD2 := fun x y Q => ∃ i j, x = .int i ∧ y = .int j ∧ C i j ∧ Q (g i j)
def rd0 (g : Int → Int → D) : RD2 := fun x y Q => ∃ i j, x = .int i ∧ y = .int j ∧ Q (g i j)
theorem ops2 {f : Value → Value → Sem Value} {C : Int → Int → Prop} {gv : Int → Int → V} {gd : Int → Int → D} (h : OpR X f (rI C gv)) (hs : ∀ i j, scV (gd i j) = some (gv i j)) : OpS X f (rd2 C gd) := by
  refine ⟨⟨_, h, fun S T S' T' H x y v u P Q r1 r2 q k => ?_⟩, fun x y P Q h ⟨i, j, e1, e2, c, q⟩ => ⟨i, j, e1, e2, c, h _ q⟩⟩
  obtain ⟨i, j, rfl, rfl, c, q⟩ := q
  exact ⟨i, j, r1, r2, c, k _ _ q (hs i j)⟩
theorem ops0 {f : Value → Value → Sem Value} {gv : Int → Int → V} {gd : Int → Int → D} (h : OpR X f (rI0 gv)) (hs : ∀ i j, scV (gd i j) = some (gv i j)) : OpS X f (rd0 gd) := by
  refine ⟨⟨_, h, fun S T S' T' H x y v u P Q r1 r2 q k => ?_⟩, fun x y P Q h ⟨i, j, e1, e2, q⟩ => ⟨i, j, e1, e2, h _ q⟩⟩
  obtain ⟨i, j, rfl, rfl, q⟩ := q
  exact ⟨i, j, r1, r2, k _ _ q (hs i j)⟩
def rAdd : RD2 := rd0 fun i j => .int (i + j)
def rSub : RD2 := rd0 fun i j => .int (i - j)
def rMul : RD2 := rd2 CMul fun i j => .int (i * j)
def rDiv : RD2 := rd2 CDiv fun i j => .int (i / j)
def rMod : RD2 := rd2 (fun _ j => 0 < j) fun i j => .int (i % j)
def rPow : RD2 := rd2 CPow fun i j => .int (i ^ j.toNat)
def rLt : RD2 := rd0 fun i j => .bl (decide (i < j))
def rLe : RD2 := rd0 fun i j => .bl (decide (i ≤ j))
def rGt : RD2 := rd0 fun i j => .bl (decide (j < i))
def rGe : RD2 := rd0 fun i j => .bl (decide (j ≤ i))
theorem os_add : OpS X (binaryOp .Add) rAdd := ops0 op_add fun _ _ => rfl
theorem os_sub : OpS X (binaryOp .Sub) rSub := ops0 op_sub fun _ _ => rfl
theorem os_mul : OpS X (binaryOp .Mult) rMul := ops2 op_mul fun _ _ => rfl
theorem os_div : OpS X (binaryOp .FloorDiv) rDiv := ops2 op_fdiv fun _ _ => rfl
theorem os_mod : OpS X (binaryOp .Mod) rMod := ops2 op_mod fun _ _ => rfl
theorem os_pow : OpS X (binaryOp .Pow) rPow := ops2 op_pow fun _ _ => rfl
theorem os_lt : OpS X (compareOp .Lt) rLt := ops0 op_lt fun _ _ => rfl
theorem os_le : OpS X (compareOp .LtE) rLe := ops0 op_le fun _ _ => rfl
theorem os_gt : OpS X (compareOp .Gt) rGt := ops0 op_gt fun _ _ => rfl
theorem os_ge : OpS X (compareOp .GtE) rGe := ops0 op_ge fun _ _ => rfl
theorem de_un {op : UnaryOp} {gv : Int → V} {gd : Int → D} (h : UnR X (unaryOp op) (rU gv)) (hs : ∀ i, scV (gd i) = some (gv i)) (ha : DE X fl a ta) : DE X .c (.UnaryOp op a pos) (dUn (fun x Q => ∃ i, x = .int i ∧ Q (gd i)) ta) := by
  refine ⟨PE.weak (pe_un h ha.pe) fun σ H Q ⟨g, sl, k, E, q⟩ => ?_, fun sl k P Q h q => ha.mono _ _ _ _ (fun x k1 ⟨i, e, q⟩ => ⟨i, e, h _ _ q⟩) q⟩
  refine ⟨g, sl, k, E, ha.mono _ _ _ _ (fun x k1 ⟨i, e, q⟩ v H1 B1 r1 => ?_) q⟩
  subst e
  exact ⟨i, r1, q _ H1 B1 (sc_rep (hs i))⟩
def rNeg : RD1 := fun x Q => ∃ i, x = .int i ∧ Q (.int (-i))
theorem de_neg (ha : DE X fl a ta) : DE X .c (.UnaryOp .USub a pos) (dUn rNeg ta) := de_un un_neg (fun _ => rfl) ha

/-! ### tests -/
def dTest (t : TD) : TDT := fun sl k Q => t sl k fun d k' => ∃ b, d = .bl b ∧ Q b k'
theorem dt_val (h : DE X fl e t) (he : ∀ whole, isTrue e X.env whole = (do let v ← whole; standAt e.pos; holding [v] (truthy v)) := by intro _; rfl) : DT X e (dTest t) := by
  refine ⟨PT.weak (pt_val h.pe he) fun σ H Q ⟨g, sl, k, E, q⟩ => ⟨g, sl, k, E, h.mono _ _ _ _ (fun d k' ⟨b, e, q⟩ v H' B r => ?_) q⟩, fun sl k P Q hh q => h.mono _ _ _ _ (fun d k' ⟨b, e, q⟩ => ⟨b, e, hh _ _ q⟩) q⟩
  subst e
  exact ⟨b, r, q H' B⟩
theorem dt_cmp {op : CmpOp} {r : RD2} (ho : OpS X (compareOp op) r) (ha : DE X fl a ta) (hb : DE X fl' b tb) (hm : behindInMarks op b = false := by first | rfl | exact nomark _) : DT X (.Compare a [op] [b] pos) (dTest (dOp r ta tb)) := by
  obtain ⟨rr, h1, h2⟩ := ho.ex
  refine ⟨PT.weak (pt_cmpR h1 ha.pe hb.pe hm) fun σ H Q ⟨g, sl, k, E, q⟩ => ?_, fun sl k P Q h q => ha.mono _ _ _ _ (fun x k1 => hb.mono _ _ _ _ fun y k2 => ho.mono x y _ _ fun z ⟨b, e, q⟩ => ⟨b, e, h _ _ q⟩) q⟩
  refine ⟨g, sl, k, E, ha.mono _ _ _ _ (fun x k1 q v H1 B1 r1 => ?_) q⟩
  refine ⟨g, sl, k1, B1.env, hb.mono _ _ _ _ (fun y k2 q u H2 B2 r2 => ?_) q⟩
  refine h2 _ _ _ _ H2 x y v u _ _ (r1.le B2.le) r2 q fun z w ⟨b, e, q⟩ hz => ?_
  subst e
  cases hz
  exact ⟨b, rfl, q H2 (B1.trans B2)⟩
/-- a datum's truth -/
def truD : D → Option Bool
  | .non => some false
  | .bl b => some b
  | .int i => some (i != 0)
  | .lst xs => some (!xs.isEmpty)
  | .tup xs => some (!xs.isEmpty)
  | _ => none
def dTru (t : TD) : TDT := fun sl k Q => t sl k fun d k' => ∃ b, truD d = some b ∧ Q b k'
theorem RepL.isEmpty {K : PySem.W.Frag} {S : AS} {H : Hp} {ds : List D} {vs : List V} (r : RepL K S H ds vs) : ds.isEmpty = vs.isEmpty := by
  have h := r.length
  cases ds <;> cases vs <;> first | rfl | (simp at h)
theorem tru_of {K : PySem.W.Frag} {S T : AS} {H : Hp} {d : D} {v : V} {b : Bool} (r : Rep K S H d T v) (h : truD d = some b) : TruV K v H b := by
  cases d <;> simp only [truD, Option.some.injEq, reduceCtorEq] at h
  · subst h; rw [show v = .non from r]; rfl
  · subst h; rw [show v = .bl _ from r]; rfl
  · subst h; rw [show v = .int _ from r]; rfl
  · obtain ⟨a, vs, e, l, q⟩ := r
    subst e h
    exact .inl ⟨vs, l.sq, by rw [RepL.isEmpty q]⟩
  · obtain ⟨a, vs, e, l, q⟩ := r
    subst e h
    exact .inr (.inl ⟨vs, l.sq, by rw [RepL.isEmpty q]⟩)
theorem dt_tru (h : DE X fl a t) (he : ∀ whole, isTrue a X.env whole = (do let v ← whole; standAt a.pos; holding [v] (truthy v)) := by intro _; rfl) : DT X a (dTru t) :=
  ⟨PT.weak (pt_truth h.pe he) fun σ H Q ⟨g, sl, k, E, q⟩ => ⟨g, sl, k, E, h.mono _ _ _ _ (fun d k' ⟨b, e, q⟩ v H' B r => ⟨b, tru_of r e, q H' B⟩) q⟩, fun sl k P Q hh q => h.mono _ _ _ _ (fun d k' ⟨b, e, q⟩ => ⟨b, e, hh _ _ q⟩) q⟩
def dNot (t : TDT) : TDT := fun sl k Q => t sl k fun b k' => Q (!b) k'
def dAnd (t u : TDT) : TDT := fun sl k Q => t sl k fun b k' => if b = true then u sl k' Q else Q false k'
def dOr (t u : TDT) : TDT := fun sl k Q => t sl k fun b k' => if b = true then Q true k' else u sl k' Q
variable {tt tu : TDT} {rest : List Expr}
theorem dt_not (h : DT X a tt) : DT X (.UnaryOp .Not a pos) (dNot tt) :=
  ⟨PT.weak (pt_not h.pt) fun σ H Q ⟨g, sl, k, E, q⟩ => ⟨g, sl, k, E, q⟩, fun sl k P Q hh q => h.mono _ _ _ _ (fun b k' => hh _ _) q⟩
theorem dw_and1 (h : DT X a tt) : DW X (.BoolOp .And [a] pos) tt := ⟨pw_and1 h.pt, h.mono⟩
theorem dw_or1 (h : DT X a tt) : DW X (.BoolOp .Or [a] pos) tt := ⟨pw_or1 h.pt, h.mono⟩
theorem mono_if {A B A' B' : Prop} {b : Bool} (h1 : A → A') (h2 : B → B') (q : if b = true then A else B) : if b = true then A' else B' := by
  cases b with
  | true => exact h1 q
  | false => exact h2 q
theorem dw_and (h : DT X a tt) (h2 : DW X (.BoolOp .And (b :: rest) pos) tu) : DW X (.BoolOp .And (a :: b :: rest) pos) (dAnd tt tu) := by
  refine ⟨PW.weak (pw_and h.pt h2.pw) fun σ H Q ⟨g, sl, k, E, q⟩ => ⟨g, sl, k, E, h.mono _ _ _ _ (fun c k1 q H1 B1 => ?_) q⟩, fun sl k P Q hh q => h.mono _ _ _ _ (fun c k1 => mono_if (h2.mono _ _ _ _ hh) (hh _ _)) q⟩
  cases c with
  | true => exact ⟨g, sl, k1, B1.env, h2.mono _ _ _ _ (fun c k2 q H2 B2 => q H2 (B1.trans B2)) q⟩
  | false => exact q H1 B1
theorem dw_or (h : DT X a tt) (h2 : DW X (.BoolOp .Or (b :: rest) pos) tu) : DW X (.BoolOp .Or (a :: b :: rest) pos) (dOr tt tu) := by
  refine ⟨PW.weak (pw_or h.pt h2.pw) fun σ H Q ⟨g, sl, k, E, q⟩ => ⟨g, sl, k, E, h.mono _ _ _ _ (fun c k1 q H1 B1 => ?_) q⟩, fun sl k P Q hh q => h.mono _ _ _ _ (fun c k1 => mono_if (hh _ _) (h2.mono _ _ _ _ hh)) q⟩
  cases c with
  | true => exact q H1 B1
  | false => exact ⟨g, sl, k1, B1.env, h2.mono _ _ _ _ (fun c k2 q H2 B2 => q H2 (B1.trans B2)) q⟩
theorem dt_w (h : DW X e tt) : DT X e tt := ⟨h.pw.pt, h.mono⟩
/-- values: a and b, a or b (truth values), not a, a if t else b -/
def dAndV (t u : TD) : TD := fun sl k Q => t sl k fun x k' => ∃ c, x = .bl c ∧ if c = true then u sl k' Q else Q (.bl false) k'
def dOrV (t u : TD) : TD := fun sl k Q => t sl k fun x k' => ∃ c, x = .bl c ∧ if c = true then Q (.bl true) k' else u sl k' Q
def dNotV (t : TD) : TD := fun sl k Q => t sl k fun x k' => ∃ c, x = .bl c ∧ Q (.bl (!c)) k'
def dIf (c : TDT) (t u : TD) : TD := fun sl k Q => c sl k fun b k' => if b = true then t sl k' Q else u sl k' Q
theorem de_one {op : BoolOp} (h : DE X fl a t) : DE X fl (.BoolOp op [a] pos) t := ⟨pe_one h.pe, h.mono⟩
theorem de_and (h : DE X .c a ta) (h2 : DE X .c (.BoolOp .And (b :: rest) pos) tb) : DE X .c (.BoolOp .And (a :: b :: rest) pos) (dAndV ta tb) := by
  refine ⟨PE.weak (pe_and h.pe h2.pe) fun σ H Q ⟨g, sl, k, E, q⟩ => ⟨g, sl, k, E, h.mono _ _ _ _ (fun x k1 ⟨c, e, q⟩ v H1 B1 r => ⟨c, ?_, ?_⟩) q⟩, fun sl k P Q hh q => h.mono _ _ _ _ (fun x k1 ⟨c, e, q⟩ => ⟨c, e, mono_if (h2.mono _ _ _ _ hh) (hh _ _) q⟩) q⟩
  · subst e; exact r
  · cases c with
    | true => exact ⟨g, sl, k1, B1.env, h2.mono _ _ _ _ (fun c k2 q v H2 B2 r => q v H2 (B1.trans B2) r) q⟩
    | false => exact q _ H1 B1 rfl
theorem de_or (h : DE X .c a ta) (h2 : DE X .c (.BoolOp .Or (b :: rest) pos) tb) : DE X .c (.BoolOp .Or (a :: b :: rest) pos) (dOrV ta tb) := by
  refine ⟨PE.weak (pe_or h.pe h2.pe) fun σ H Q ⟨g, sl, k, E, q⟩ => ⟨g, sl, k, E, h.mono _ _ _ _ (fun x k1 ⟨c, e, q⟩ v H1 B1 r => ⟨c, ?_, ?_⟩) q⟩, fun sl k P Q hh q => h.mono _ _ _ _ (fun x k1 ⟨c, e, q⟩ => ⟨c, e, mono_if (hh _ _) (h2.mono _ _ _ _ hh) q⟩) q⟩
  · subst e; exact r
  · cases c with
    | true => exact q _ H1 B1 rfl
    | false => exact ⟨g, sl, k1, B1.env, h2.mono _ _ _ _ (fun c k2 q v H2 B2 r => q v H2 (B1.trans B2) r) q⟩
theorem de_not (h : DE X fl a ta) : DE X .c (.UnaryOp .Not a pos) (dNotV ta) := by
  refine ⟨PE.weak (pe_not h.pe) fun σ H Q ⟨g, sl, k, E, q⟩ => ⟨g, sl, k, E, h.mono _ _ _ _ (fun x k1 ⟨c, e, q⟩ v H1 B1 r => ⟨c, ?_, q _ H1 B1 rfl⟩) q⟩, fun sl k P Q hh q => h.mono _ _ _ _ (fun x k1 ⟨c, e, q⟩ => ⟨c, e, hh _ _ q⟩) q⟩
  subst e; exact r
theorem de_if {c : Expr} (hc : DT X c tt) (h : DE X fl a ta) (h2 : DE X fl b tb) : DE X fl (.IfExp c a b pos) (dIf tt ta tb) := by
  refine ⟨PE.weak (pe_ifExp hc.pt h.pe h2.pe) fun σ H Q ⟨g, sl, k, E, q⟩ => ⟨g, sl, k, E, hc.mono _ _ _ _ (fun c k1 q H1 B1 => ?_) q⟩, fun sl k P Q hh q => hc.mono _ _ _ _ (fun c k1 => mono_if (h.mono _ _ _ _ hh) (h2.mono _ _ _ _ hh)) q⟩
  cases c with
  | true => exact ⟨g, sl, k1, B1.env, h.mono _ _ _ _ (fun c k2 q v H2 B2 r => q v H2 (B1.trans B2) r) q⟩
  | false => exact ⟨g, sl, k1, B1.env, h2.mono _ _ _ _ (fun c k2 q v H2 B2 r => q v H2 (B1.trans B2) r) q⟩

/-! ### several values -/
def dNil : TDA := fun _ k Q => Q [] k
def dCons (t : TD) (u : TDA) : TDA := fun sl k Q => t sl k fun x k1 => u sl k1 fun xs k2 => Q (x :: xs) k2
variable {tA : TDA}
theorem da_nil : DA X fl [] dNil := ⟨PA.weak pa_nil fun σ H Q ⟨g, sl, k, E, q⟩ => q [] H (Bh.refl E) rfl, fun _ _ _ _ h q => h _ _ q⟩
theorem da_cons (h : DE X fl e t) (h2 : DA X fl es tA) (hs : starEach (e :: es) X.env = (false, eval e X.env) :: starEach es X.env := by rfl) : DA X fl (e :: es) (dCons t tA) := by
  refine ⟨PA.weak (pa_cons h.pe h2.pa hs) fun σ H Q ⟨g, sl, k, E, q⟩ => ⟨g, sl, k, E, h.mono _ _ _ _ (fun x k1 q v H1 B1 r1 => ?_) q⟩, fun sl k P Q hh q => h.mono _ _ _ _ (fun x k1 => h2.mono _ _ _ _ fun xs k2 => hh _ _) q⟩
  exact ⟨g, sl, k1, B1.env, h2.mono _ _ _ _ (fun xs k2 q vs H2 B2 r2 => q _ H2 (B1.trans B2) ⟨v, vs, rfl, r1.le B2.le, r2⟩) q⟩
theorem DA.cd (h : DA X .c es tA) : DA X .d es tA := by
  refine ⟨PA.weak h.pa fun σ H Q ⟨g, sl, k, E, q⟩ => ⟨g, sl, k, E, h.mono _ _ _ _ (fun xs k' z vs H' B r => z vs H' B ?_) q⟩, h.mono⟩
  clear z
  induction xs generalizing vs with
  | nil => exact r
  | cons x xs ih =>
    obtain ⟨v, ws, e, r, q⟩ := r
    exact ⟨v, ws, e, r.cs.sd, ih ws q⟩
/-- a tuple of them -/
def dTup (t : TDA) : TD := fun sl k Q => t sl k fun xs k' => xs.length ≤ 100000 ∧ Q (.tup xs) k'
def Fl.cd (fl : Fl) : Prop := match fl with | .s => False | _ => True
theorem isL_rep {K : PySem.W.Frag} {g : G} {sl : SL} {σ : L2.St} {H : Hp} (hf : fl.cd) : ∀ {ds : List D} {vs : List V}, IsL K g sl σ H fl ds vs → RepL K (fl.sub g sl σ) H ds vs
  | [], _, r => r
  | _ :: _, _, ⟨v, ws, e, r, q⟩ => ⟨v, ws, e, by cases fl <;> first | exact r | exact hf.elim, isL_rep hf q⟩
theorem de_tup {k0 : Nat} (h : DA X fl es tA) (hf : fl.cd := by trivial) : DE X fl (.Tuple es k0 pos) (dTup tA) := by
  refine ⟨PE.weak (pe_tup h.pa) fun σ H Q ⟨g, sl, k, E, q⟩ => ⟨g, sl, k, E, h.mono _ _ _ _ (fun xs k1 ⟨hz, q⟩ vs H1 B1 r1 => ⟨?_, fun p hp => ?_⟩) q⟩, fun sl k P Q hh q => h.mono _ _ _ _ (fun x k1 ⟨hz, q⟩ => ⟨hz, hh _ _ q⟩) q⟩
  · rw [← r1.length]; exact Nat.le_trans hz (by decide)
  · have l : LeA (PenB sl σ) H1 (upd H1 p (.tup vs)) := LeA.new hp
    exact q _ _ (B1.new hp) ⟨p, vs, rfl, upd_same, isL_rep hf (r1.le l)⟩
end
end DL

/-! data layer, part c: new objects, calls of built-ins, comprehensions -/
namespace DL
open PySem PySem.Spec PyProof.Rows L2

/-- values one by one -/
def RepA (K : PySem.W.Frag) (S T : AS) (H : Hp) : List D → List V → Prop
  | [], vs => vs = []
  | x :: xs, vs => ∃ v ws, vs = v :: ws ∧ Rep K S H x T v ∧ RepA K S T H xs ws
/-- a new object (a list, a dict), a tuple, or a plain value -/
def NewRep (K : PySem.W.Frag) (S : AS) (H H' : Hp) : D → V → Prop
  | .lst xs, w => ∃ p vs, w = .ref p ∧ H p = none ∧ H' p = some (.lst vs) ∧ RepL K (Pls S p) H' xs vs
  | .tup xs, w => ∃ p vs, w = .ref p ∧ TpA H' p vs ∧ RepL K S H' xs vs
  | .dK kvs, w => ∃ p vs, w = .ref p ∧ H p = none ∧ H' p = some (.dK vs) ∧ RepK K (Pls S p) H' kvs vs
  | .dT kvs, w => ∃ p vs, w = .ref p ∧ H p = none ∧ H' p = some (.dT vs) ∧ RepT K (Pls S p) H' kvs vs
  | .ins _ _, _ => False
  | d, w => scV d = some w
section
variable {K : PySem.W.Frag} {g : G} {sl : SL} {k : Nat} {σ : L2.St} {H H' H0 : Hp} {fl : Fl} {d : D} {v : V} {S T : AS}
theorem isL_A {g : G} : ∀ {ds : List D} {vs : List V}, IsL K g sl σ H fl ds vs → RepA K (fl.sub g sl σ) (fl.top g sl σ) H ds vs
  | [], _, r => r
  | _ :: _, _, ⟨v, ws, e, r, q⟩ => ⟨v, ws, e, r, isL_A q⟩
theorem NewRep.rep (h : NewRep K S H H' d v) (hT : ∀ b, T b → H b ≠ none) : Rep K S H' d T v := by
  have m : ∀ p, Mv H' H' (Pls S p) S := fun p => Mv.anti fun b z => .inl (.inl z)
  cases d <;> first | exact sc_rep h | exact h.elim | skip
  · obtain ⟨p, vs, e, hp, hp', r⟩ := h
    exact ⟨p, vs, e, ⟨hp', fun z => hT p z hp⟩, RepL.mv (m p) _ r⟩
  · exact h
  · obtain ⟨p, vs, e, hp, hp', r⟩ := h
    exact ⟨p, vs, e, ⟨⟨_, hp', rfl⟩, fun z => hT p z hp⟩, RepK.mv (m p) _ r⟩
  · obtain ⟨p, vs, e, hp, hp', r⟩ := h
    exact ⟨p, vs, e, ⟨⟨_, hp', rfl⟩, fun z => hT p z hp⟩, RepT.mv (m p) _ r⟩
theorem NewRep.back (h : NewRep K S H H' d v) (l : ∀ b, H b = none → H0 b = none) : NewRep K S H0 H' d v := by
  cases d <;> first | exact h | skip
  · obtain ⟨p, vs, e, hp, r⟩ := h; exact ⟨p, vs, e, l p hp, r⟩
  · obtain ⟨p, vs, e, hp, r⟩ := h; exact ⟨p, vs, e, l p hp, r⟩
  · obtain ⟨p, vs, e, hp, r⟩ := h; exact ⟨p, vs, e, l p hp, r⟩
theorem NewRep.anti {S' : AS} (h : NewRep K S H H' d v) (hs : ∀ b, S' b → S b) : NewRep K S' H H' d v := by
  have m : ∀ p, Mv H' H' (Pls S p) (Pls S' p) := fun p => Mv.anti fun b z => .inl (z.imp (hs b) id)
  have m' : Mv H' H' S S' := Mv.anti fun b z => .inl (hs b z)
  cases d <;> first | exact h | skip
  · obtain ⟨p, vs, e, hp, hq, r⟩ := h; exact ⟨p, vs, e, hp, hq, RepL.mv (m p) _ r⟩
  · obtain ⟨p, vs, e, hp, r⟩ := h; exact ⟨p, vs, e, hp, RepL.mv m' _ r⟩
  · obtain ⟨p, vs, e, hp, hq, r⟩ := h; exact ⟨p, vs, e, hp, hq, RepK.mv (m p) _ r⟩
  · obtain ⟨p, vs, e, hp, hq, r⟩ := h; exact ⟨p, vs, e, hp, hq, RepT.mv (m p) _ r⟩
/-- a new list laid at p -/
theorem NewRep.lst {xs : List D} {vs : List V} {p : Addr} (r : RepL K S H xs vs) (hp : H p = none) : NewRep K S H (upd H p (.lst vs)) (.lst xs) (.ref p) :=
  ⟨p, vs, rfl, hp, upd_same, RepL.mv (Mv.le (P := fun _ => False) (LeA.new hp) (fun _ z => z.elim) fun b z => z.imp id fun e => by rw [e]; exact hp) _ r⟩
theorem NewRep.tup {xs : List D} {vs : List V} {p : Addr} (r : RepL K S H xs vs) (hp : H p = none) : NewRep K S H (upd H p (.tup vs)) (.tup xs) (.ref p) :=
  ⟨p, vs, rfl, upd_same, RepL.mv (Mv.le (P := fun _ => False) (LeA.new hp) (fun _ z => z.elim) fun b z => .inl z) _ r⟩
theorem NewRep.sc (h : scV d = some v) : NewRep K S H H d v := by
  cases d <;> first | exact h | (simp [scV] at h)
end

def tDN (K : PySem.W.Frag) (fl : Fl) (t : TD) : TE := fun σ H Q => ∃ g sl k, EnvOk K g sl k σ H ∧ t sl k fun d k' => ∀ v H', Bh K g sl σ H k' H' → NewRep K (fl.sub g sl σ) H H' d v → Q v H'
/-- an expression that makes a new object, of parts as fl tells -/
structure DN (X : Cx) (fl : Fl) (e : Expr) (t : TD) : Prop where
  pe : PE X e (tDN X.K fl t)
  mono : ∀ sl k P Q, (∀ d k', P d k' → Q d k') → t sl k P → t sl k Q
section
variable {X : Cx} {fl fl' : Fl} {e a b : Expr} {es : List Expr} {ta tb t : TD} {tA : TDA} {pos p : Pos} {x : Str}
theorem Fl.sub_dn (fl : Fl) (g : G) (sl : SL) (σ : L2.St) : fl.dn.sub g sl σ = fl.sub g sl σ := by cases fl <;> rfl
theorem Fl.topAv {g : G} {sl : SL} {σ : L2.St} {b : Addr} (h : fl.top g sl σ b) : Av g sl σ b := by
  cases fl
  · exact h
  · exact Pv.av h
  · exact Pv.av h
theorem DN.de (h : DN X fl e t) : DE X fl.dn e t := by
  refine ⟨PE.weak h.pe fun σ H Q ⟨g, sl, k, E, q⟩ => ⟨g, sl, k, E, h.mono _ _ _ _ (fun d k' q v H' B n => q v H' B ?_) q⟩, h.mono⟩
  show Rep X.K (fl.dn.sub g sl σ) H' d (fl.dn.top g sl σ) v
  rw [Fl.sub_dn]
  exact n.rep fun b z => E.avdom (Fl.topAv z)

/-! ### operations that make something -/
structure OpG (X : Cx) (f : Value → Value → Sem Value) (r : RD2) : Prop where
  ex : ∃ rr : R2, OpR X f rr ∧ ∀ (S T T' : AS) (H : Hp) (x y : D) (v u : V) (P : D → Prop) (Q : VK), Rep X.K S H x T v → Rep X.K S H y T' u → r x y P →
    (∀ z w H', P z → Same H H' → NewRep X.K S H H' z w → Q w H') → rr v u H Q
  mono : ∀ x y (P Q : D → Prop), (∀ z, P z → Q z) → r x y P → r x y Q
theorem Same.leA {A : AS} {H H' : Hp} (s : Same H H') : LeA A H H' := LeA.same s
theorem dn_op {op : Operator} {r : RD2} (ho : OpG X (binaryOp op) r) (ha : DE X fl a ta) (hb : DE X fl' b tb) (hf : fl.dn = fl'.dn := by rfl) : DN X fl (.BinOp a op b pos) (dOp r ta tb) := by
  obtain ⟨rr, h1, h2⟩ := ho.ex
  refine ⟨PE.weak (pe_op h1 ha.pe hb.pe) fun σ H Q ⟨g, sl, k, E, q⟩ => ?_, fun sl k P Q h q => ha.mono _ _ _ _ (fun x k1 => hb.mono _ _ _ _ fun y k2 => ho.mono x y _ _ fun z => h z k2) q⟩
  refine ⟨g, sl, k, E, ha.mono _ _ _ _ (fun x k1 q v H1 B1 r1 => ?_) q⟩
  refine ⟨g, sl, k1, B1.env, hb.mono _ _ _ _ (fun y k2 q u H2 B2 r2 => ?_) q⟩
  have e : fl'.sub g sl σ = fl.sub g sl σ := by rw [← Fl.sub_dn fl', ← hf, Fl.sub_dn]
  have r2' : Rep X.K (fl.sub g sl σ) H2 y (fl'.top g sl σ) u := e ▸ r2
  refine h2 _ _ _ H2 x y v u _ Q (r1.le B2.le) r2' q fun z w H3 pz hs n => pz w H3 ((B1.trans B2).trans ⟨B2.env.grow hs, LeA.same hs⟩) (n.back fun b z => B1.le.nn (B2.le.nn z))
theorem unL {K : PySem.W.Frag} {S T : AS} {H : Hp} {xs : List D} {v : V} (r : Rep K S H (.lst xs) T v) : ∃ a vs, v = .ref a ∧ H a = some (.lst vs) ∧ RepL K S H xs vs := let ⟨a, vs, e, l, q⟩ := r; ⟨a, vs, e, l.1, q⟩
def rCatD : RD2 := fun x y Q => ∃ xs ys, x = .lst xs ∧ y = .lst ys ∧ xs.length + ys.length ≤ 100000 ∧ Q (.lst (xs ++ ys))
theorem og_cat : OpG X (binaryOp .Add) rCatD := by
  refine ⟨⟨_, op_cat, fun S T T' H x y v u P Q r1 r2 q k => ?_⟩, fun x y P Q h ⟨xs, ys, e1, e2, z, q⟩ => ⟨xs, ys, e1, e2, z, h _ q⟩⟩
  obtain ⟨xs, ys, rfl, rfl, hz, q⟩ := q
  obtain ⟨a, vs, rfl, h1, q1⟩ := unL r1
  obtain ⟨b, ws, rfl, h2, q2⟩ := unL r2
  refine ⟨a, b, vs, ws, rfl, rfl, h1, h2, ?_, fun p hp => k _ _ _ q (fun b o e => by rw [upd_ne (ne_of_none e hp)]; exact e) (NewRep.lst (RepL.append q1 q2) hp)⟩
  rw [← q1.length, ← q2.length]
  exact Nat.le_trans hz (by decide)
theorem RepL.rep {K : PySem.W.Frag} {S : AS} {H : Hp} {xs : List D} {vs : List V} (r : RepL K S H xs vs) : ∀ n, RepL K S H (List.replicate n xs).flatten (List.replicate n vs).flatten
  | 0 => rfl
  | n + 1 => by
    rw [List.replicate_succ, List.replicate_succ, List.flatten_cons, List.flatten_cons]
    exact r.append (RepL.rep r n)
theorem flat_len {α : Type} (xs : List α) : ∀ n, (List.replicate n xs).flatten.length = n * xs.length
  | 0 => by simp
  | n + 1 => by rw [List.replicate_succ, List.flatten_cons, List.length_append, flat_len xs n, Nat.succ_mul, Nat.add_comm]
def rRepD : RD2 := fun x y Q => ∃ xs n, x = .lst xs ∧ y = .int n ∧ 0 ≤ n ∧ n ≤ 100000 ∧ xs.length * n.toNat ≤ 100000 ∧ Q (.lst (List.replicate n.toNat xs).flatten)
theorem og_rep : OpG X (binaryOp .Mult) rRepD := by
  refine ⟨⟨_, op_rep, fun S T T' H x y v u P Q r1 r2 q k => ?_⟩, fun x y P Q h ⟨xs, n, e1, e2, z1, z2, z, q⟩ => ⟨xs, n, e1, e2, z1, z2, z, h _ q⟩⟩
  obtain ⟨xs, n, rfl, rfl, z1, z2, hz, q⟩ := q
  obtain ⟨a, vs, rfl, h1, q1⟩ := unL r1
  refine ⟨a, n, vs, rfl, r2, h1, by omega, by omega, ?_, fun p hp => k _ _ _ q (fun b o e => by rw [upd_ne (ne_of_none e hp)]; exact e) (NewRep.lst (RepL.rep q1 _) hp)⟩
  rw [← q1.length]
  exact Nat.le_trans hz (by decide)
/-- a written list -/
def dLst (t : TDA) : TD := fun sl k Q => t sl k fun xs k' => xs.length ≤ 100000 ∧ Q (.lst xs) k'
theorem dn_lst (h : DA X fl es tA) (hf : fl.cd := by trivial) : DN X fl (.List es pos) (dLst tA) := by
  refine ⟨PE.weak (pe_lst h.pa) fun σ H Q ⟨g, sl, k, E, q⟩ => ⟨g, sl, k, E, h.mono _ _ _ _ (fun xs k1 ⟨hz, q⟩ vs H1 B1 r1 => ⟨?_, fun p hp => ?_⟩) q⟩, fun sl k P Q hh q => h.mono _ _ _ _ (fun x k1 ⟨hz, q⟩ => ⟨hz, hh _ _ q⟩) q⟩
  · rw [← r1.length]; exact Nat.le_trans hz (by decide)
  · exact q _ _ (B1.new hp) ((NewRep.lst (isL_rep hf r1) hp).back fun b z => B1.le.nn z)
/-- [*a, ..]: items of a list or tuple -/
def dStar (t : TD) (u : TDA) : TDA := fun sl k Q => t sl k fun x k1 => ∃ xs, (x = .lst xs ∨ x = .tup xs) ∧ u sl k1 fun ys k2 => Q (xs ++ ys) k2
theorem isL_of {K : PySem.W.Frag} {g : G} {sl : SL} {σ : L2.St} {H : Hp} (hf : fl.cd) : ∀ {ds : List D} {vs : List V}, RepL K (fl.sub g sl σ) H ds vs → IsL K g sl σ H fl ds vs
  | [], _, r => r
  | _ :: _, _, ⟨v, ws, e, r, q⟩ => ⟨v, ws, e, (by cases fl <;> first | exact r | exact hf.elim), isL_of hf q⟩
theorem IsL.append {K : PySem.W.Frag} {g : G} {sl : SL} {σ : L2.St} {H : Hp} : ∀ {xs ys : List D} {vs ws : List V}, IsL K g sl σ H fl xs vs → IsL K g sl σ H fl ys ws → IsL K g sl σ H fl (xs ++ ys) (vs ++ ws)
  | [], _, _, _, r, q => by rw [show _ = [] from r]; exact q
  | _ :: _, _, _, _, ⟨v, ws, e, r, q⟩, h => by subst e; exact ⟨v, _, rfl, r, IsL.append q h⟩
theorem da_star {sp : Pos} (h : DE X .c e t) (h2 : DA X .c es tA) (hs : starEach (.Starred e sp :: es) X.env = (true, eval e X.env) :: starEach es X.env := by rfl) : DA X .c (.Starred e sp :: es) (dStar t tA) := by
  refine ⟨PA.weak (StX.pa_star h.pe h2.pa hs) fun σ H Q ⟨g, sl, k, E, q⟩ => ⟨g, sl, k, E, h.mono _ _ _ _ (fun x k1 ⟨xs, hx, q⟩ v H1 B1 r1 => ?_) q⟩,
    fun sl k P Q hh q => h.mono _ _ _ _ (fun x k1 ⟨xs, hx, q⟩ => ⟨xs, hx, h2.mono _ _ _ _ (fun xs k2 => hh _ _) q⟩) q⟩
  have go : ∀ (a : Addr) (vs : List V), RepL X.K (Av g sl σ) H1 xs vs → (tDA X.K .c tA) σ H1 fun ws H2 => Q (vs ++ ws) H2 := fun a vs r =>
    ⟨g, sl, k1, B1.env, h2.mono _ _ _ _ (fun ys k2 q ws H2 B2 r2 => q _ H2 (B1.trans B2) (((isL_of (fl := .c) trivial r).le B2.le).append r2)) q⟩
  rcases hx with hx | hx <;> subst hx
  · obtain ⟨a, vs, rfl, l, r⟩ := r1
    exact ⟨a, vs, rfl, .inr l.sq, go a vs r⟩
  · obtain ⟨a, vs, rfl, l, r⟩ := r1
    exact ⟨a, vs, rfl, .inl l.sq, go a vs r⟩

/-! ### calls of built-ins -/
structure CallG (X : Cx) (f : Value) (r : RDA) : Prop where
  ex : ∃ rr : List V → Hp → VK → Prop, CallR X f rr ∧ ∀ (S T : AS) (H : Hp) (ds : List D) (vs : List V) (P : D → Prop) (Q : VK), RepA X.K S T H ds vs → r ds P →
    (∀ z w H', P z → Same H H' → NewRep X.K S H H' z w → Q w H') → rr vs H Q
  mono : ∀ ds (P Q : D → Prop), (∀ z, P z → Q z) → r ds P → r ds Q
def dCB (r : RDA) (t : TDA) : TD := fun sl k Q => t sl k fun ds k1 => r ds fun z => Q z k1
theorem call_dn {f : Value} {r : RDA} (hc : CallG X f r) (ha : DA X fl es tA) (hp : ∀ rr, CallR X f rr → PE X e (tCB rr (tDA X.K fl tA))) : DN X fl e (dCB r tA) := by
  obtain ⟨rr, h1, h2⟩ := hc.ex
  refine ⟨PE.weak (hp rr h1) fun σ H Q ⟨g, sl, k, E, q⟩ => ⟨g, sl, k, E, ha.mono _ _ _ _ (fun ds k1 q vs H1 B1 r1 => ?_) q⟩, fun sl k P Q h q => ha.mono _ _ _ _ (fun ds k1 => hc.mono ds _ _ fun z => h z k1) q⟩
  exact h2 _ _ H1 ds vs _ Q (isL_A r1) q fun z w H2 pz hs n => pz w H2 (B1.trans ⟨B1.env.grow hs, LeA.same hs⟩) (n.back fun b z => B1.le.nn z)
theorem dn_bi {id : String} {r : RDA} (hc : CallG X (.builtin id) r) (hg : Gl X x) (hm : X.mg x = none) (hv : bootBuiltins x = some (.builtin id)) (ha : DA X fl (e :: es) tA) (hn : x ≠ "__name__" := by decide) (hdb : (x == ("__debug__" : Str)) = false := by decide)
    (he : starEach (e :: es) X.env = (false, eval e X.env) :: starEach es X.env := by rfl) (hpl : (backTo pos (starEach es X.env)).any (·.1) = false := by rfl) : DN X fl (.Call (.Name x p) (e :: es) [] pos) (dCB r tA) :=
  call_dn hc ha fun rr h => pe_callB h hg hm hv ha.pa hn hdb he hpl
theorem dn_ty {T : String} {r : RDA} (hc : CallG X (.type T) r) (hg : Gl X x) (hm : X.mg x = none) (hv : bootBuiltins x = some (.type T)) (ha : DA X fl (e :: es) tA) (hn : x ≠ "__name__" := by decide) (hdb : (x == ("__debug__" : Str)) = false := by decide)
    (he : starEach (e :: es) X.env = (false, eval e X.env) :: starEach es X.env := by rfl) (hpl : (backTo pos (starEach es X.env)).any (·.1) = false := by rfl) : DN X fl (.Call (.Name x p) (e :: es) [] pos) (dCB r tA) :=
  call_dn hc ha fun rr h => pe_callTy h hg hm hv ha.pa hn hdb he hpl
theorem un1 {K : PySem.W.Frag} {S T : AS} {H : Hp} {d : D} {vs : List V} (r : RepA K S T H [d] vs) : ∃ v, vs = [v] ∧ Rep K S H d T v := by
  obtain ⟨v, ws, e, r, q⟩ := r
  rw [show ws = [] from q] at e
  exact ⟨v, e, r⟩
theorem un2 {K : PySem.W.Frag} {S T : AS} {H : Hp} {d d2 : D} {vs : List V} (r : RepA K S T H [d, d2] vs) : ∃ v w, vs = [v, w] ∧ Rep K S H d T v ∧ Rep K S H d2 T w := by
  obtain ⟨v, ws, e, r, q⟩ := r
  obtain ⟨w, e2, r2⟩ := un1 q
  rw [e2] at e
  exact ⟨v, w, e, r, r2⟩
/-- a list or tuple, read -/
theorem unS {K : PySem.W.Frag} {S T : AS} {H : Hp} {x : D} {xs : List D} {v : V} (h : x = .lst xs ∨ x = .tup xs) (r : Rep K S H x T v) : ∃ a vs, v = .ref a ∧ (SqL K H a vs ∨ SqT K H a vs) ∧ RepL K S H xs vs := by
  rcases h with h | h <;> subst h
  · obtain ⟨a, vs, e, l, q⟩ := r; exact ⟨a, vs, e, .inl l.sq, q⟩
  · obtain ⟨a, vs, e, l, q⟩ := r; exact ⟨a, vs, e, .inr l.sq, q⟩
def rLen : RDA := fun ds Q => ∃ xs x, ds = [x] ∧ (x = .lst xs ∨ x = .tup xs) ∧ Q (.int xs.length)
theorem cg_len : CallG X (.builtin "len") rLen := by
  refine ⟨⟨_, call_len_seq, fun S T H ds vs P Q r q k => ?_⟩, fun ds P Q h ⟨xs, x, e, o, q⟩ => ⟨xs, x, e, o, h _ q⟩⟩
  obtain ⟨xs, x, rfl, o, q⟩ := q
  obtain ⟨v, rfl, r1⟩ := un1 r
  obtain ⟨a, vs, rfl, s, l⟩ := unS o r1
  exact ⟨a, vs, rfl, s, k _ _ _ q (fun _ _ h => h) (NewRep.sc (by rw [l.length]; rfl))⟩
def rAbs : RDA := fun ds Q => ∃ i : Int, ds = [.int i] ∧ Q (.int (if i < 0 then -i else i))
theorem cg_abs : CallG X (.builtin "abs") rAbs := by
  refine ⟨⟨_, call_abs, fun S T H ds vs P Q r q k => ?_⟩, fun ds P Q h ⟨i, e, q⟩ => ⟨i, e, h _ q⟩⟩
  obtain ⟨i, rfl, q⟩ := q
  obtain ⟨v, rfl, r1⟩ := un1 r
  exact ⟨i, by rw [show v = .int i from r1], k _ _ _ q (fun _ _ h => h) (NewRep.sc rfl)⟩
def rInt : RDA := fun ds Q => (∃ i : Int, ds = [.int i] ∧ Q (.int i)) ∨ ∃ b : Bool, ds = [.bl b] ∧ Q (.int (if b then 1 else 0))
theorem cg_int : CallG X (.type "int") rInt := by
  refine ⟨⟨_, call_int1, fun S T H ds vs P Q r q k => ?_⟩, fun ds P Q h q => q.imp (fun ⟨i, e, q⟩ => ⟨i, e, h _ q⟩) fun ⟨i, e, q⟩ => ⟨i, e, h _ q⟩⟩
  rcases q with ⟨i, rfl, q⟩ | ⟨i, rfl, q⟩
  · obtain ⟨v, rfl, r1⟩ := un1 r
    exact .inl ⟨i, by rw [show v = .int i from r1], k _ _ _ q (fun _ _ h => h) (NewRep.sc rfl)⟩
  · obtain ⟨v, rfl, r1⟩ := un1 r
    exact .inr ⟨i, by rw [show v = .bl i from r1], k _ _ _ q (fun _ _ h => h) (NewRep.sc rfl)⟩
def rDivmod : RDA := fun ds Q => ∃ i j : Int, ds = [.int i, .int j] ∧ CDiv i j ∧ Q (.tup [.int (i / j), .int (i % j)])
theorem cg_divmod : CallG X (.builtin "divmod") rDivmod := by
  refine ⟨⟨_, call_divmod, fun S T H ds vs P Q r q k => ?_⟩, fun ds P Q h ⟨i, j, e, c, q⟩ => ⟨i, j, e, c, h _ q⟩⟩
  obtain ⟨i, j, rfl, c, q⟩ := q
  obtain ⟨v, w, rfl, r1, r2⟩ := un2 r
  refine ⟨i, j, by rw [show v = .int i from r1, show w = .int j from r2], c, fun p hp => k _ _ _ q (fun b o e => by rw [upd_ne (ne_of_none e hp)]; exact e) (NewRep.tup ⟨_, _, rfl, rfl, _, _, rfl, rfl, rfl⟩ hp)⟩
def intsD (ns : List Int) : D := .lst (ns.map D.int)
theorem unInts {K : PySem.W.Frag} {S T : AS} {H : Hp} {ns : List Int} {v : V} (r : Rep K S H (intsD ns) T v) : ∃ a, v = .ref a ∧ SqL K H a (ns.map V.int) := by
  obtain ⟨a, vs, e, l, q⟩ := r
  rw [RepL.ints q] at l
  exact ⟨a, e, l.sq⟩
theorem mkInts {K : PySem.W.Frag} {S : AS} {H : Hp} {ns : List Int} {p : Addr} (hp : H p = none) : NewRep K S H (upd H p (.lst (ns.map V.int))) (intsD ns) (.ref p) := NewRep.lst RepL.mkInts hp
def rSumD : RDA := fun ds Q => ∃ ns : List Int, ds = [intsD ns] ∧ Q (.int ns.sum)
theorem cg_sum (hc : X.calm = true := by rfl) : CallG X (.builtin "sum") rSumD := by
  refine ⟨⟨_, cr_sum hc, fun S T H ds vs P Q r q k => ?_⟩, fun ds P Q h ⟨i, e, q⟩ => ⟨i, e, h _ q⟩⟩
  obtain ⟨ns, rfl, q⟩ := q
  obtain ⟨v, rfl, r1⟩ := un1 r
  obtain ⟨a, rfl, s⟩ := unInts r1
  exact ⟨a, ns, rfl, s, k _ _ _ q (fun _ _ h => h) (NewRep.sc rfl)⟩
def rMaxD : RDA := fun ds Q => ∃ ns : List Int, ds = [intsD ns] ∧ 0 < ns.length ∧ ∀ m, m ∈ ns → (∀ y, y ∈ ns → y ≤ m) → Q (.int m)
def rMinD : RDA := fun ds Q => ∃ ns : List Int, ds = [intsD ns] ∧ 0 < ns.length ∧ ∀ m, m ∈ ns → (∀ y, y ∈ ns → m ≤ y) → Q (.int m)
theorem cg_max (hc : X.calm = true := by rfl) : CallG X (.builtin "max") rMaxD := by
  refine ⟨⟨_, cr_max hc, fun S T H ds vs P Q r q k => ?_⟩, fun ds P Q h ⟨i, e, z, q⟩ => ⟨i, e, z, fun m h1 h2 => h _ (q m h1 h2)⟩⟩
  obtain ⟨ns, rfl, z, q⟩ := q
  obtain ⟨v, rfl, r1⟩ := un1 r
  obtain ⟨a, rfl, s⟩ := unInts r1
  exact ⟨a, ns, rfl, s, z, fun m h1 h2 => k _ _ _ (q m h1 h2) (fun _ _ h => h) (NewRep.sc rfl)⟩
theorem cg_min (hc : X.calm = true := by rfl) : CallG X (.builtin "min") rMinD := by
  refine ⟨⟨_, cr_min hc, fun S T H ds vs P Q r q k => ?_⟩, fun ds P Q h ⟨i, e, z, q⟩ => ⟨i, e, z, fun m h1 h2 => h _ (q m h1 h2)⟩⟩
  obtain ⟨ns, rfl, z, q⟩ := q
  obtain ⟨v, rfl, r1⟩ := un1 r
  obtain ⟨a, rfl, s⟩ := unInts r1
  exact ⟨a, ns, rfl, s, z, fun m h1 h2 => k _ _ _ (q m h1 h2) (fun _ _ h => h) (NewRep.sc rfl)⟩
def rSortedD : RDA := fun ds Q => ∃ ns : List Int, ds = [intsD ns] ∧ ∀ ns' : List Int, ns'.Perm ns → ns'.Pairwise (· ≤ ·) → Q (intsD ns')
theorem cg_sorted : CallG X (.builtin "sorted") rSortedD := by
  refine ⟨⟨_, L2.cr_sortedI, fun S T H ds vs P Q r q k => ?_⟩, fun ds P Q h ⟨i, e, q⟩ => ⟨i, e, fun m h1 h2 => h _ (q m h1 h2)⟩⟩
  obtain ⟨ns, rfl, q⟩ := q
  obtain ⟨v, rfl, r1⟩ := un1 r
  obtain ⟨a, rfl, s⟩ := unInts r1
  exact ⟨a, ns, rfl, s, fun ns' p h1 h2 hp => k _ _ _ (q ns' h1 h2) (fun b o e => by rw [upd_ne (ne_of_none e hp)]; exact e) (mkInts hp)⟩
def blsD (bs : List Bool) : D := .lst (bs.map D.bl)
theorem RepL.bls {K : PySem.W.Frag} {S : AS} {H : Hp} : ∀ {ns : List Bool} {vs : List V}, RepL K S H (ns.map D.bl) vs → vs = ns.map V.bl
  | [], _, r => r
  | n :: ns, _, ⟨v, ws, e, r, q⟩ => by
    have r' : v = V.bl n := r
    subst r' e
    rw [RepL.bls q]
    rfl
def rAllD : RDA := fun ds Q => ∃ bs : List Bool, ds = [blsD bs] ∧ Q (.bl (bs.all id))
def rAnyD : RDA := fun ds Q => ∃ bs : List Bool, ds = [blsD bs] ∧ Q (.bl (bs.any id))
theorem cg_all (hc : X.calm = true := by rfl) : CallG X (.builtin "all") rAllD := by
  refine ⟨⟨_, cr_all hc, fun S T H ds vs P Q r q k => ?_⟩, fun ds P Q h ⟨i, e, q⟩ => ⟨i, e, h _ q⟩⟩
  obtain ⟨ns, rfl, q⟩ := q
  obtain ⟨v, rfl, a, vs, rfl, l, r1⟩ := un1 r
  rw [RepL.bls r1] at l
  exact ⟨a, ns, rfl, l.sq, k _ _ _ q (fun _ _ h => h) (NewRep.sc rfl)⟩
theorem cg_any (hc : X.calm = true := by rfl) : CallG X (.builtin "any") rAnyD := by
  refine ⟨⟨_, cr_any hc, fun S T H ds vs P Q r q k => ?_⟩, fun ds P Q h ⟨i, e, q⟩ => ⟨i, e, h _ q⟩⟩
  obtain ⟨ns, rfl, q⟩ := q
  obtain ⟨v, rfl, a, vs, rfl, l, r1⟩ := un1 r
  rw [RepL.bls r1] at l
  exact ⟨a, ns, rfl, l.sq, k _ _ _ q (fun _ _ h => h) (NewRep.sc rfl)⟩
def rListD : RDA := fun ds Q => ∃ xs x, ds = [x] ∧ (x = .lst xs ∨ x = .tup xs) ∧ Q (.lst xs)
theorem cg_list : CallG X (.type "list") rListD := by
  refine ⟨⟨_, call_list_of, fun S T H ds vs P Q r q k => ?_⟩, fun ds P Q h ⟨xs, x, e, o, q⟩ => ⟨xs, x, e, o, h _ q⟩⟩
  obtain ⟨xs, x, rfl, o, q⟩ := q
  obtain ⟨v, rfl, r1⟩ := un1 r
  obtain ⟨a, vs, rfl, s, l⟩ := unS o r1
  exact ⟨a, vs, rfl, s, fun p hp => k _ _ _ q (fun b o e => by rw [upd_ne (ne_of_none e hp)]; exact e) (NewRep.lst l hp)⟩
def rTupleD : RDA := fun ds Q => ∃ xs x, ds = [x] ∧ (x = .lst xs ∨ x = .tup xs) ∧ Q (.tup xs)
theorem cg_tuple : CallG X (.type "tuple") rTupleD := by
  refine ⟨⟨_, call_tuple_of, fun S T H ds vs P Q r q k => ?_⟩, fun ds P Q h ⟨xs, x, e, o, q⟩ => ⟨xs, x, e, o, h _ q⟩⟩
  obtain ⟨xs, x, rfl, o, q⟩ := q
  obtain ⟨v, rfl, r1⟩ := un1 r
  rcases o with rfl | rfl
  · obtain ⟨a, vs, rfl, l, s⟩ := r1
    exact ⟨a, vs, rfl, .inl ⟨l.sq, fun p hp => k _ _ _ q (fun b o e => by rw [upd_ne (ne_of_none e hp)]; exact e) (NewRep.tup s hp)⟩⟩
  · obtain ⟨a, vs, rfl, l, s⟩ := r1
    exact ⟨a, vs, rfl, .inr ⟨l.sq, k _ _ _ q (fun _ _ h => h) ⟨a, vs, rfl, l, s⟩⟩⟩

/-! ### an item of a list or tuple -/
def rIxD : RD2 := fun x y Q => ∃ xs i z, (x = .lst xs ∨ x = .tup xs) ∧ y = .int i ∧ atI xs i = some z ∧ Q z
theorem ixD {K : PySem.W.Frag} {S : AS} {H : Hp} {xs : List D} {vs : List V} {i : Int} {z : D} (r : RepL K S H xs vs) (h : atI xs i = some z) : ∃ v, atI vs i = some v ∧ Rep K S H z S v := by
  unfold atI at h ⊢
  rw [← r.length]
  cases q : ixN xs.length i with
  | none => rw [q] at h; cases h
  | some j =>
    rw [q] at h
    exact RepL.get r h
theorem de_ix (ha : DE X fl a ta) (hb : DE X fl' b tb) (hs : PlainIx b := by exact fun _ _ => rfl) : DE X fl.dn (.Subscript a b pos) (dOp rIxD ta tb) := by
  refine ⟨PE.weak (pe_ix (ix_list.or ix_tup) ha.pe hb.pe hs) fun σ H Q ⟨g, sl, k, E, q⟩ => ?_, fun sl k P Q h q => ha.mono _ _ _ _ (fun x k1 => hb.mono _ _ _ _ fun y k2 ⟨xs, i, z, o, e, w, q⟩ => ⟨xs, i, z, o, e, w, h _ _ q⟩) q⟩
  refine ⟨g, sl, k, E, ha.mono _ _ _ _ (fun x k1 q v H1 B1 r1 => ?_) q⟩
  refine ⟨g, sl, k1, B1.env, hb.mono _ _ _ _ (fun y k2 ⟨xs, i, z, o, e, w, qq⟩ u H2 B2 r2 => ?_) q⟩
  subst e
  have e2 : u = .int i := r2
  subst e2
  have r1 := r1.le B2.le
  have fin : ∀ w, Rep X.K (fl.sub g sl σ) H2 z (fl.sub g sl σ) w → Is X.K g sl σ H2 fl.dn z w := fun w h => by cases fl <;> exact h
  rcases o with rfl | rfl
  · obtain ⟨p, vs, rfl, l, r⟩ := r1
    obtain ⟨u, hu, ru⟩ := ixD r w
    exact .inl ⟨p, vs, i, u, rfl, rfl, l.sq, hu, qq u H2 (B1.trans B2) (fin _ ru)⟩
  · obtain ⟨p, vs, rfl, l, r⟩ := r1
    obtain ⟨u, hu, ru⟩ := ixD r w
    exact .inr ⟨p, vs, i, u, rfl, rfl, l.sq, hu, qq u H2 (B1.trans B2) (fin _ ru)⟩
end
end DL

/-! data layer, part d: comparisons, dicts, what is walked, comprehensions, calls of defs -/
namespace DL
open PySem PySem.Spec PyProof.Rows L2

/-! ### == on data -/
mutual
def pyD : D → Option PyData
  | .non => some .none
  | .bl b => some (.bool b)
  | .int i => some (.int i)
  | .str x => some (.str x)
  | .lst xs => (pyL xs).map PyData.list
  | .tup xs => (pyL xs).map PyData.tuple
  | _ => none
def pyL : List D → Option (List PyData)
  | [] => some []
  | x :: xs => match pyD x, pyL xs with
    | some p, some q => some (p :: q)
    | _, _ => none
end
section
variable {K : PySem.W.Frag} {S : AS} {H : Hp}
mutual
theorem pyD_ok : ∀ (d : D) {T : AS} {v : V} {p : PyData}, pyD d = some p → Rep K S H d T v → Dp K H v p
  | .non, _, _, _, e, r => by rw [show _ = V.non from r]; cases e; exact .non
  | .bl b, _, _, _, e, r => by rw [show _ = V.bl b from r]; cases e; exact .bl b
  | .int i, _, _, _, e, r => by rw [show _ = V.int i from r]; cases e; exact .int i
  | .str x, _, _, _, e, r => by rw [show _ = V.str x from r]; cases e; exact .str x
  | .lst xs, _, _, _, e, ⟨a, vs, ev, l, r⟩ => by
    obtain ⟨q, hq, e⟩ := Option.map_eq_some_iff.mp (show (pyL xs).map PyData.list = _ from e)
    subst e ev
    exact .lst l.sq (pyL_ok xs hq r)
  | .tup xs, _, _, _, e, ⟨a, vs, ev, l, r⟩ => by
    obtain ⟨q, hq, e⟩ := Option.map_eq_some_iff.mp (show (pyL xs).map PyData.tuple = _ from e)
    subst e ev
    exact .tup l.sq (pyL_ok xs hq r)
  | .dK _, _, _, _, e, _ => nomatch e
  | .dT _, _, _, _, e, _ => nomatch e
  | .ins _ _, _, _, _, e, _ => nomatch e
  | .raw _, _, _, _, e, _ => nomatch e
theorem pyL_ok : ∀ (xs : List D) {vs : List V} {ps : List PyData}, pyL xs = some ps → RepL K S H xs vs → DpAll K H vs ps
  | [], _, _, e, r => by rw [show _ = [] from r]; cases e; exact .nil
  | x :: xs, _, _, e, ⟨v, ws, ev, r, q⟩ => by
    unfold pyL at e
    split at e
    · rename_i p ps h1 h2
      cases e; subst ev
      exact .cons (pyD_ok x h1 r) (pyL_ok xs h2 q)
    · cases e
end
end
def rEqD (neg : Bool) : RD2 := fun x y Q => (∃ i j, x = .int i ∧ y = .int j ∧ Q (.bl (if neg then !decide (i = j) else decide (i = j)))) ∨
  ∃ p q, pyD x = some p ∧ pyD y = some q ∧ SeqAt.shaped p = true ∧ SeqAt.shaped q = true ∧ Q (.bl (if neg then !PyData.eqv p q else PyData.eqv p q))
theorem os_eq {X : Cx} (hu : X.A.units + 64 < cLine) : OpS X (compareOp .Eq) (rEqD false) := by
  refine ⟨⟨_, op_eq.or (op_eqD hu), fun S T S' T' H x y v u P Q r1 r2 q k => ?_⟩, fun x y P Q h q => q.imp (fun ⟨i, j, a, b, q⟩ => ⟨i, j, a, b, h _ q⟩) fun ⟨p, q, a, b, c, d, z⟩ => ⟨p, q, a, b, c, d, h _ z⟩⟩
  rcases q with ⟨i, j, rfl, rfl, q⟩ | ⟨p, q, h1, h2, h3, h4, z⟩
  · refine .inl ?_
    rw [show v = .int i from r1, show u = .int j from r2]
    refine ⟨rfl, ?_⟩
    have e : decide (V.int i = V.int j) = decide (i = j) := decide_eq_decide.mpr ⟨fun z => by cases z; rfl, fun z => by rw [z]⟩
    rw [e]
    exact k _ _ q rfl
  · exact .inr ⟨p, q, pyD_ok x h1 r1, pyD_ok y h2 r2, h3, h4, k _ _ z rfl⟩
theorem os_ne {X : Cx} (hu : X.A.units + 64 < cLine) : OpS X (compareOp .NotEq) (rEqD true) := by
  refine ⟨⟨_, op_ne.or (op_neD hu), fun S T S' T' H x y v u P Q r1 r2 q k => ?_⟩, fun x y P Q h q => q.imp (fun ⟨i, j, a, b, q⟩ => ⟨i, j, a, b, h _ q⟩) fun ⟨p, q, a, b, c, d, z⟩ => ⟨p, q, a, b, c, d, h _ z⟩⟩
  rcases q with ⟨i, j, rfl, rfl, q⟩ | ⟨p, q, h1, h2, h3, h4, z⟩
  · refine .inl ?_
    rw [show v = .int i from r1, show u = .int j from r2]
    refine ⟨rfl, ?_⟩
    have e : decide (V.int i = V.int j) = decide (i = j) := decide_eq_decide.mpr ⟨fun z => by cases z; rfl, fun z => by rw [z]⟩
    rw [e]
    exact k _ _ q rfl
  · exact .inr ⟨p, q, pyD_ok x h1 r1, pyD_ok y h2 r2, h3, h4, k _ _ z rfl⟩
/-- truth values compared -/
def rEqB (neg : Bool) : RD2 := fun x y Q => ∃ a b, x = .bl a ∧ y = .bl b ∧ Q (.bl (if neg then !decide (a = b) else decide (a = b)))
theorem os_neB {X : Cx} : OpS X (compareOp .NotEq) (rEqB true) := by
  refine ⟨⟨_, op_ne, fun S T S' T' H x y v u P Q r1 r2 q k => ?_⟩, fun x y P Q h ⟨i, j, a, b, q⟩ => ⟨i, j, a, b, h _ q⟩⟩
  obtain ⟨a, b, rfl, rfl, q⟩ := q
  rw [show v = .bl a from r1, show u = .bl b from r2]
  refine ⟨rfl, ?_⟩
  have e : decide (V.bl a = V.bl b) = decide (a = b) := decide_eq_decide.mpr ⟨fun z => by cases z; rfl, fun z => by rw [z]⟩
  rw [e]
  exact k _ _ q rfl
theorem os_eqB {X : Cx} : OpS X (compareOp .Eq) (rEqB false) := by
  refine ⟨⟨_, op_eq, fun S T S' T' H x y v u P Q r1 r2 q k => ?_⟩, fun x y P Q h ⟨i, j, a, b, q⟩ => ⟨i, j, a, b, h _ q⟩⟩
  obtain ⟨a, b, rfl, rfl, q⟩ := q
  rw [show v = .bl a from r1, show u = .bl b from r2]
  refine ⟨rfl, ?_⟩
  have e : decide (V.bl a = V.bl b) = decide (a = b) := decide_eq_decide.mpr ⟨fun z => by cases z; rfl, fun z => by rw [z]⟩
  rw [e]
  exact k _ _ q rfl
/-- texts compared -/
def rEqS (neg : Bool) : RD2 := fun x y Q => ∃ a b, x = .str a ∧ y = .str b ∧ Q (.bl (if neg then !decide (a = b) else decide (a = b)))
theorem os_neS {X : Cx} : OpS X (compareOp .NotEq) (rEqS true) := by
  refine ⟨⟨_, op_ne, fun S T S' T' H x y v u P Q r1 r2 q k => ?_⟩, fun x y P Q h ⟨i, j, a, b, q⟩ => ⟨i, j, a, b, h _ q⟩⟩
  obtain ⟨a, b, rfl, rfl, q⟩ := q
  rw [show v = .str a from r1, show u = .str b from r2]
  refine ⟨rfl, ?_⟩
  have e : decide (V.str a = V.str b) = decide (a = b) := decide_eq_decide.mpr ⟨fun z => by cases z; rfl, fun z => by rw [z]⟩
  rw [e]
  exact k _ _ q rfl
/-- x is None -/
def isN : D → Option Bool
  | .non => some true
  | .raw _ => none
  | _ => some false
theorem isN_ok {K : PySem.W.Frag} {S T : AS} {H : Hp} {d : D} {v : V} {b : Bool} (h : isN d = some b) (r : Rep K S H d T v) : decide (v = .non) = b := by
  cases d <;> simp only [isN, Option.some.injEq, reduceCtorEq] at h <;> subst h
  · rw [show v = .non from r]; rfl
  · rw [show v = .bl _ from r]; rfl
  · rw [show v = .int _ from r]; rfl
  · rw [show v = .str _ from r]; rfl
  · obtain ⟨a, vs, e, _⟩ := r; rw [e]; rfl
  · obtain ⟨a, vs, e, _⟩ := r; rw [e]; rfl
  · obtain ⟨a, vs, e, _⟩ := r; rw [e]; rfl
  · obtain ⟨a, vs, e, _⟩ := r; rw [e]; rfl
  · obtain ⟨a, dx, vs, e, _⟩ := r; rw [e]; rfl
def rIsN (neg : Bool) : RD2 := fun x y Q => y = .non ∧ ∃ b, isN x = some b ∧ Q (.bl (if neg then !b else b))
theorem os_isN {X : Cx} : OpS X (compareOp .Is) (rIsN false) := by
  refine ⟨⟨_, op_isN, fun S T S' T' H x y v u P Q r1 r2 q k => ?_⟩, fun x y P Q h ⟨a, b, c, q⟩ => ⟨a, b, c, h _ q⟩⟩
  obtain ⟨rfl, b, e, q⟩ := q
  exact ⟨r2, by rw [isN_ok e r1]; exact k _ _ q rfl⟩
theorem os_notN {X : Cx} : OpS X (compareOp .IsNot) (rIsN true) := by
  refine ⟨⟨_, op_notN, fun S T S' T' H x y v u P Q r1 r2 q k => ?_⟩, fun x y P Q h ⟨a, b, c, q⟩ => ⟨a, b, c, h _ q⟩⟩
  obtain ⟨rfl, b, e, q⟩ := q
  exact ⟨r2, by rw [isN_ok e r1]; exact k _ _ q rfl⟩
/-- an int in a list of ints -/
theorem inV_ints (i : Int) : ∀ ns : List Int, inV (.int i) (ns.map V.int) = decide (i ∈ ns)
  | [] => by simp [inV]
  | n :: ns => by
    have h := inV_ints i ns
    unfold inV at h ⊢
    rw [List.map_cons, List.any_cons, h]
    have e : eqV (V.int n) (V.int i) = decide (n = i) := by simp [eqV, BEq.beq]
    rw [e]
    by_cases q : n = i
    · simp [q]
    · have q' : ¬ i = n := fun z => q z.symm
      simp [q, q']
theorem flat_ints : ∀ ns : List Int, (ns.map V.int).all flatV = true
  | [] => rfl
  | n :: ns => by rw [List.map_cons, List.all_cons, flat_ints ns]; rfl
def rInI (neg : Bool) : RD2 := fun x y Q => ∃ i ns, x = .int i ∧ y = intsD ns ∧ Q (.bl (if neg then !decide (i ∈ ns) else decide (i ∈ ns)))
theorem os_inI {X : Cx} : OpS X (compareOp .In) (rInI false) := by
  refine ⟨⟨_, op_in_seq, fun S T S' T' H x y v u P Q r1 r2 q k => ?_⟩, fun x y P Q h ⟨i, j, a, b, q⟩ => ⟨i, j, a, b, h _ q⟩⟩
  obtain ⟨i, ns, rfl, rfl, q⟩ := q
  obtain ⟨a, rfl, l⟩ := unInts r2
  rw [show v = .int i from r1]
  exact ⟨a, _, rfl, .inl l, rfl, flat_ints ns, by rw [inV_ints]; exact k _ _ q rfl⟩
theorem os_notInI {X : Cx} : OpS X (compareOp .NotIn) (rInI true) := by
  refine ⟨⟨_, op_notIn_seq, fun S T S' T' H x y v u P Q r1 r2 q k => ?_⟩, fun x y P Q h ⟨i, j, a, b, q⟩ => ⟨i, j, a, b, h _ q⟩⟩
  obtain ⟨i, ns, rfl, rfl, q⟩ := q
  obtain ⟨a, rfl, l⟩ := unInts r2
  rw [show v = .int i from r1]
  exact ⟨a, _, rfl, .inl l, rfl, flat_ints ns, by rw [inV_ints]; exact k _ _ q rfl⟩

/-! ### dicts, read -/
/-- a key as a datum -/
def keyD : Key → D
  | .inl i => .int i
  | .inr x => .str x
/-- what the dict holds at the key -/
inductive DAt : D → D → Option D → Prop where
  | k (kvs : List (Key × D)) (k : Key) : DAt (.dK kvs) (keyD k) ((kvs.find? fun kv => decide (kv.1 = k)).map (·.2))
  | t (kvs : List (List Key × D)) (k : List Key) : DAt (.dT kvs) (.tup (k.map keyD)) ((kvs.find? fun kv => decide (kv.1 = k)).map (·.2))
section
variable {K : PySem.W.Frag} {S T : AS} {H : Hp}
theorem keyD_rep {k : Key} {v : V} (r : Rep K S H (keyD k) T v) : v = kV k := by cases k <;> exact r
theorem keyL_rep : ∀ {ks : List Key} {vs : List V}, RepL K S H (ks.map keyD) vs → vs = ks.map kV
  | [], _, r => r
  | k :: ks, _, ⟨v, ws, e, r, q⟩ => by
    rw [keyD_rep r] at e
    rw [e, keyL_rep q]
    rfl
def oRep (K : PySem.W.Frag) (S : AS) (H : Hp) : Option D → Option V → Prop
  | some d, some v => Rep K S H d S v
  | none, none => True
  | _, _ => False
theorem repK_find {k : Key} : ∀ {kvs : List (Key × D)} {ws : List (Key × V)}, RepK K S H kvs ws → oRep K S H ((kvs.find? fun kv => decide (kv.1 = k)).map (·.2)) (valV ws k)
  | [], _, r => by rw [show _ = [] from r]; exact trivial
  | (k', x) :: kvs, _, ⟨v, ws, e, r, q⟩ => by
    subst e
    by_cases h : k' = k
    · subst h
      rw [List.find?_cons_of_pos (by simp)]
      show oRep K S H (some x) (valV ((k', v) :: ws) k')
      unfold valV
      rw [List.find?_cons_of_pos (by simp)]
      exact r
    · rw [List.find?_cons_of_neg (by simpa using h)]
      unfold valV
      rw [List.find?_cons_of_neg (by simpa using h)]
      exact repK_find q
theorem repT_find {k : List Key} : ∀ {kvs : List (List Key × D)} {ws : List (List Key × V)}, RepT K S H kvs ws → oRep K S H ((kvs.find? fun kv => decide (kv.1 = k)).map (·.2)) (valV ws k)
  | [], _, r => by rw [show _ = [] from r]; exact trivial
  | (k', x) :: kvs, _, ⟨v, ws, e, r, q⟩ => by
    subst e
    by_cases h : k' = k
    · subst h
      rw [List.find?_cons_of_pos (by simp)]
      show oRep K S H (some x) (valV ((k', v) :: ws) k')
      unfold valV
      rw [List.find?_cons_of_pos (by simp)]
      exact r
    · rw [List.find?_cons_of_neg (by simpa using h)]
      unfold valV
      rw [List.find?_cons_of_neg (by simpa using h)]
      exact repT_find q
theorem core_rdK {a : Addr} {x : HO} {ws : List (Key × V)} (h : H a = some x) (c : core x = .dK ws) : Rd H a (.dK ws) := by
  unfold core at c
  split at c <;> first | (cases c; exact .inr ⟨_, h⟩) | (cases c; done) | (subst c; exact .inl h)
theorem core_rdT {a : Addr} {x : HO} {ws : List (List Key × V)} (h : H a = some x) (c : core x = .dT ws) : Rd H a (.dT ws) := by
  unfold core at c
  split at c <;> first | (cases c; exact .inr ⟨_, h⟩) | (cases c; done) | (subst c; exact .inl h)
/-- the tuple of keys must be tracked -/
theorem dat_get {d y : D} {o : Option D} {S' T' : AS} {v u : V} (h : DAt d y o) (r : Rep K S H d T v) (ry : Rep K S' H y T' u) :
    ∃ a ov, v = .ref a ∧ DGet H a u ov ∧ oRep K S H o ov := by
  cases h with
  | k kvs k =>
    obtain ⟨a, ws, e, ⟨⟨x, hx, c⟩, _⟩, q⟩ := r
    refine ⟨a, _, e, .inl ⟨ws, k, core_rdK hx c, keyD_rep ry, rfl⟩, repK_find q⟩
  | t kvs k =>
    obtain ⟨a, ws, e, ⟨⟨x, hx, c⟩, _⟩, q⟩ := r
    obtain ⟨b, vs, eb, tb, rb⟩ := ry
    refine ⟨a, _, e, .inr ⟨ws, k, b, core_rdT hx c, eb, ?_, rfl⟩, repT_find q⟩
    rw [← keyL_rep rb]
    exact tb
end
end DL

/-! data layer, part e: dicts read, what is walked, targets, comprehensions, calls of defs -/
namespace DL
open PySem PySem.Spec PyProof.Rows L2
section
variable {X : Cx} {fl fl' : Fl} {e a b i o : Expr} {es : List Expr} {ta tb td ty t : TD} {tA : TDA} {pos p : Pos} {x : Str}
def dDIn (neg : Bool) (ty td : TD) : TD := fun sl k Q => ty sl k fun y k1 => td sl k1 fun d k2 => ∃ o, DAt d y o ∧ Q (.bl (if neg then !o.isSome else o.isSome)) k2
theorem oRep_some {K : PySem.W.Frag} {S : AS} {H : Hp} {o : Option D} {ov : Option V} (h : oRep K S H o ov) : ov.isSome = o.isSome := by
  cases o <;> cases ov <;> first | rfl | exact h.elim
theorem din_core {K : PySem.W.Frag} {neg : Bool} {σ : L2.St} {H : Hp} {Q : VK} (ht : ∀ sl k P Q, (∀ d k', P d k' → Q d k') → ty sl k P → ty sl k Q) (hd : ∀ sl k P Q, (∀ d k', P d k' → Q d k') → td sl k P → td sl k Q)
    (h : tD K .c (dDIn neg ty td) σ H Q) : tD K fl ty σ H fun y H1 => tD K fl' td σ H1 fun x H2 => ∃ a o, x = .ref a ∧ DGet H2 a y o ∧ Q (.bl (if neg then !o.isSome else o.isSome)) H2 := by
  obtain ⟨g, sl, k, E, q⟩ := h
  refine ⟨g, sl, k, E, ht _ _ _ _ (fun y k1 q v H1 B1 r1 => ?_) q⟩
  refine ⟨g, sl, k1, B1.env, hd _ _ _ _ (fun d k2 ⟨o, h, q⟩ u H2 B2 r2 => ?_) q⟩
  obtain ⟨a, ov, e, g1, g2⟩ := dat_get h r2 (r1.le B2.le)
  exact ⟨a, ov, e, g1, by rw [oRep_some g2]; exact q _ H2 (B1.trans B2) rfl⟩
theorem din_mono {neg : Bool} (h1 : DE X fl i ty) (h2 : DE X fl' o td) : ∀ sl k P Q, (∀ d k', P d k' → Q d k') → (dDIn neg ty td) sl k P → (dDIn neg ty td) sl k Q :=
  fun sl k P Q hh q => h1.mono _ _ _ _ (fun y k1 => h2.mono _ _ _ _ fun d k2 ⟨o, a, q⟩ => ⟨o, a, hh _ _ q⟩) q
theorem de_din (hu : X.A.units + 1 < cLine) (h1 : DE X fl i ty) (h2 : DE X fl' o td) (hm : behindInMarks .In o = false := by rfl) : DE X .c (.Compare i [.In] [o] pos) (dDIn false ty td) :=
  ⟨PE.weak (pe_cmp (pc_din hu h1.pe h2.pe) hm) fun σ H Q h => din_core h1.mono h2.mono h, din_mono h1 h2⟩
theorem de_dnotin (hu : X.A.units + 1 < cLine) (h1 : DE X fl i ty) (h2 : DE X fl' o td) (hm : behindInMarks .NotIn o = false := by rfl) : DE X .c (.Compare i [.NotIn] [o] pos) (dDIn true ty td) :=
  ⟨PE.weak (pe_cmp (pc_dnotin hu h1.pe h2.pe) hm) fun σ H Q h => din_core h1.mono h2.mono h, din_mono h1 h2⟩
theorem dtin_core {neg : Bool} {t : TE} (h1 : DE X fl i ty) (h2 : DE X fl' o td) (h : PT X e (tB t)) (hc : ∀ σ H Q, tD X.K .c (dDIn neg ty td) σ H Q → t σ H Q) : DT X e (dTest (dDIn neg ty td)) := by
  refine ⟨PT.weak h fun σ H Q ⟨g, sl, k, E, q⟩ => ?_, fun sl k P Q hh q => din_mono h1 h2 _ _ _ _ (fun d k' ⟨b, e, q⟩ => ⟨b, e, hh _ _ q⟩) q⟩
  refine hc σ H _ ⟨g, sl, k, E, din_mono h1 h2 _ _ _ _ (fun d k' ⟨b, e, q⟩ v H' B r => ?_) q⟩
  subst e
  exact ⟨b, r, q H' B⟩
theorem dt_din (hu : X.A.units + 1 < cLine) (h1 : DE X fl i ty) (h2 : DE X fl' o td) (hm : behindInMarks .In o = false := by rfl) : DT X (.Compare i [.In] [o] pos) (dTest (dDIn false ty td)) :=
  dtin_core h1 h2 (pt_cmp (pc_din hu h1.pe h2.pe) hm) fun σ H Q h => din_core h1.mono h2.mono h
theorem dt_dnotin (hu : X.A.units + 1 < cLine) (h1 : DE X fl i ty) (h2 : DE X fl' o td) (hm : behindInMarks .NotIn o = false := by rfl) : DT X (.Compare i [.NotIn] [o] pos) (dTest (dDIn true ty td)) :=
  dtin_core h1 h2 (pt_cmp (pc_dnotin hu h1.pe h2.pe) hm) fun σ H Q h => din_core h1.mono h2.mono h
def dDGet (td ty : TD) : TD := fun sl k Q => td sl k fun d k1 => ty sl k1 fun y k2 => ∃ z, DAt d y (some z) ∧ Q z k2
theorem de_dget (hu : X.A.units + 1 < cLine) (h1 : DE X fl o td) (h2 : DE X fl' i ty) (hs : NoSl i := by exact fun _ _ => rfl) : DE X fl.dn (.Subscript o i pos) (dDGet td ty) := by
  refine ⟨PE.weak (pe_dget hu h1.pe h2.pe hs) fun σ H Q ⟨g, sl, k, E, q⟩ => ?_, fun sl k P Q hh q => h1.mono _ _ _ _ (fun y k1 => h2.mono _ _ _ _ fun d k2 ⟨o, a, q⟩ => ⟨o, a, hh _ _ q⟩) q⟩
  refine ⟨g, sl, k, E, h1.mono _ _ _ _ (fun y k1 q v H1 B1 r1 => ?_) q⟩
  refine ⟨g, sl, k1, B1.env, h2.mono _ _ _ _ (fun d k2 ⟨z, h, q⟩ u H2 B2 r2 => ?_) q⟩
  obtain ⟨a, ov, e, g1, g2⟩ := dat_get h (r1.le B2.le) r2
  cases ov with
  | none => exact g2.elim
  | some w =>
    have fin : Is X.K g sl σ H2 fl.dn z w := by cases fl <;> exact g2
    exact ⟨a, w, e, g1, q w H2 (B1.trans B2) fin⟩
/-! new dicts -/
theorem dn_dnewK : DN X .c (.Dict [] [] pos) (dC (.dK [])) :=
  ⟨PE.weak pe_dnewK fun σ H Q ⟨g, sl, k, E, q⟩ p hp => q _ _ ((Bh.refl E).new hp) ⟨p, [], rfl, hp, upd_same, rfl⟩, fun _ _ _ _ h q => h _ _ q⟩
theorem dn_dnewT : DN X .c (.Dict [] [] pos) (dC (.dT [])) :=
  ⟨PE.weak pe_dnewT fun σ H Q ⟨g, sl, k, E, q⟩ p hp => q _ _ ((Bh.refl E).new hp) ⟨p, [], rfl, hp, upd_same, rfl⟩, fun _ _ _ _ h q => h _ _ q⟩
/-- {k: v}, plain both -/
theorem dn_disp1 {kd : Key} {vd : D} {kv vv : V} (hk : PE X a (tC kv)) (hv : PE X b (tC vv)) (h1 : kv = kV kd) (h2 : scV vd = some vv) : DN X .c (.Dict [some a] [b] pos) (dC (.dK [(kd, vd)])) := by
  refine ⟨PE.weak (pe_disp (pps_cons hk hv pps_nil) (by rfl) (by rfl) (fun z => by cases z) (by show 1 ≤ 15; decide)) fun σ H Q ⟨g, sl, k, E, q⟩ p hp => ?_, fun _ _ _ _ h q => h _ _ q⟩
  refine ⟨upd_same, [(kd, vv)], by rw [h1] <;> rfl, by show 1 ≤ 15; decide, ?_⟩
  rw [upd_upd]
  exact q _ _ ((Bh.refl E).new hp) ⟨p, [(kd, vv)], rfl, hp, upd_same, _, [], rfl, sc_rep h2, rfl⟩
end

/-! ### what is walked -/
/-- at all later heaps the walk yields what stands for the data -/
def Walks (K : PySem.W.Frag) (S : AS) (H0 : Hp) (J : It) (xs : List D) : Prop := ∀ S' : AS, (∀ b, S' b → S b ∨ H0 b = none) → ∀ H, LeA S' H0 H →
  (∀ i x, xs[i]? = some x → J.go i H ∧ ∀ v H', J.yld i H v H' → Same H H' ∧ Rep K S' H' x S' v) ∧ J.stop xs.length H
def tDI (K : PySem.W.Frag) (t : TDA) : TI := fun σ H R => ∃ g sl k, EnvOk K g sl k σ H ∧ t sl k fun xs k' => ∀ J H', Bh K g sl σ H k' H' → Walks K (Av g sl σ) H' J xs → R J H'
structure DI (X : Cx) (tg e : Expr) (t : TDA) : Prop where
  pi : PI X tg e (tDI X.K t)
  mono : ∀ sl k P Q, (∀ d k', P d k' → Q d k') → t sl k P → t sl k Q
theorem PI.weak {X : Cx} {tg e : Expr} {t t' : TI} (p : PI X tg e t) (h : ∀ σ H Q, t' σ H Q → t σ H Q) : PI X tg e t' := ⟨fun pins s σ H Q I q => p.run pins s σ H Q I (h σ H Q q)⟩
theorem PI.or {X : Cx} {tg e : Expr} {t t' : TI} (p : PI X tg e t) (p' : PI X tg e t') : PI X tg e (fun σ H R => t σ H R ∨ t' σ H R) := ⟨fun pins s σ H Q I q => q.elim (p.run pins s σ H Q I) (p'.run pins s σ H Q I)⟩
section
variable {K : PySem.W.Frag} {S : AS} {H : Hp} {xs : List D} {vs : List V} {a : Addr}
theorem walks_list (h : H a = some (.lst vs)) (n : ¬ S a) (r : RepL K S H xs vs) : Walks K S H (Itl K a) xs := fun S' hS' H1 l => by
  have h1 : H1 a = some (.lst vs) := (l a _ h).elim id fun z => (hS' a z.1).elim (fun y => absurd y n) fun y => by rw [h] at y; cases y
  have r1 : RepL K S' H1 xs vs := RepL.mv (Mv.le l (fun _ z => z) fun _ z => .inl z) xs (RepL.mv (Mv.anti hS') xs r)
  refine ⟨fun i x e => ?_, ⟨vs, .inl (.inl h1), by rw [← r1.length]; exact Nat.le_refl _⟩⟩
  obtain ⟨v, hv, rv⟩ := r1.get e
  refine ⟨⟨vs, v, .inl (.inl h1), hv⟩, fun w H' ⟨e1, e2⟩ => ?_⟩
  subst e1
  have := e2 vs (.inl (.inl h1))
  rw [hv] at this
  cases this
  exact ⟨Same.refl _, rv⟩
theorem walks_tup (h : H a = some (.tup vs)) (r : RepL K S H xs vs) : Walks K S H (Itt K a) xs := fun S' hS' H1 l => by
  have h1 : H1 a = some (.tup vs) := (l a _ h).elim id fun z => z.2.1.elim
  have r1 : RepL K S' H1 xs vs := RepL.mv (Mv.le l (fun _ z => z) fun _ z => .inl z) xs (RepL.mv (Mv.anti hS') xs r)
  refine ⟨fun i x e => ?_, ⟨vs, .inl (.inl h1), by rw [← r1.length]; exact Nat.le_refl _⟩⟩
  obtain ⟨v, hv, rv⟩ := r1.get e
  refine ⟨⟨vs, v, .inl (.inl h1), hv⟩, fun w H' ⟨e1, e2⟩ => ?_⟩
  subst e1
  have := e2 vs (.inl (.inl h1))
  rw [hv] at this
  cases this
  exact ⟨Same.refl _, rv⟩
theorem walks_range (lo : Int) (n : Nat) : Walks K S H (Itr lo n) ((List.range n).map fun (j : Nat) => D.int (lo + j)) := fun S' _ H1 l => by
  refine ⟨fun i x e => ?_, by
    rw [List.length_map, List.length_range]
    exact Nat.le_refl n⟩
  have hi : i < n := by
    have := (List.getElem?_eq_some_iff.mp e).1
    rw [List.length_map, List.length_range] at this
    exact this
  rw [List.getElem?_map, List.getElem?_range hi] at e
  cases e
  exact ⟨hi, fun w H' ⟨e1, e2⟩ => by subst e1; exact ⟨Same.refl _, e2⟩⟩
theorem repl_index {j : Nat} : ∀ {xs : List D} {x : D}, xs[j]? = some x → xs.zipIdx[j]? = some (x, j) := fun {xs x} h => by
  rw [List.getElem?_zipIdx, h]
  simp
def enumD (xs : List D) : List D := xs.zipIdx.map fun p => .tup [.int (p.2 : Nat), p.1]
theorem enumD_get {xs : List D} {j : Nat} {y : D} (h : (enumD xs)[j]? = some y) : ∃ x, xs[j]? = some x ∧ y = .tup [.int (j : Nat), x] := by
  unfold enumD at h
  rw [List.getElem?_map, List.getElem?_zipIdx] at h
  cases e : xs[j]? with
  | none => rw [e] at h; cases h
  | some x =>
    rw [e] at h
    simp only [Option.map_some, Option.some.injEq, Nat.zero_add] at h
    exact ⟨x, rfl, h.symm⟩
theorem enumD_len (xs : List D) : (enumD xs).length = xs.length := by unfold enumD; rw [List.length_map, List.length_zipIdx]
theorem walks_enum (h : H a = some (.lst vs)) (n : ¬ S a) (r : RepL K S H xs vs) : Walks K S H (Ite K a) (enumD xs) := fun S' hS' H1 l => by
  have h1 : H1 a = some (.lst vs) := (l a _ h).elim id fun z => (hS' a z.1).elim (fun y => absurd y n) fun y => by rw [h] at y; cases y
  have r1 : RepL K S' H1 xs vs := RepL.mv (Mv.le l (fun _ z => z) fun _ z => .inl z) xs (RepL.mv (Mv.anti hS') xs r)
  refine ⟨fun i y e => ?_, ⟨vs, .inl (.inl h1), by rw [← r1.length, enumD_len]; exact Nat.le_refl _⟩⟩
  obtain ⟨x, ex, ey⟩ := enumD_get e
  subst ey
  obtain ⟨v, hv, rv⟩ := r1.get ex
  refine ⟨⟨vs, v, .inl (.inl h1), hv⟩, fun w H' ⟨T, z, e1, hT, e2, e3⟩ => ?_⟩
  subst e1 e2
  have := e3 vs (.inl (.inl h1))
  rw [hv] at this
  cases this
  refine ⟨fun b o q => by rw [upd_ne (ne_of_none q hT)]; exact q, T, _, rfl, upd_same, _, _, rfl, rfl, _, [], rfl, ?_, rfl⟩
  exact rv.mv (Mv.le (P := fun _ => False) (LeA.new hT) (fun _ z => z.elim) fun _ z => .inl z) x (Mv.le (P := fun _ => False) (LeA.new hT) (fun _ z => z.elim) fun _ z => .inl z)
end
section
variable {X : Cx} {fl fl' : Fl} {e a b i o tg : Expr} {es : List Expr} {ta tb td ty t : TD} {tA : TDA} {pos p : Pos} {x : Str}
def dLs (t : TD) : TDA := fun sl k Q => t sl k fun d k' => ∃ xs, d = .lst xs ∧ Q xs k'
def dTs (t : TD) : TDA := fun sl k Q => t sl k fun d k' => ∃ xs, d = .tup xs ∧ Q xs k'
theorem di_list (h : DE X .c e t) : DI X tg e (dLs t) := by
  refine ⟨PI.weak (pi_list h.pe) fun σ H R ⟨g, sl, k, E, q⟩ => ⟨g, sl, k, E, h.mono _ _ _ _ (fun d k1 ⟨xs, e, q⟩ v H1 B1 r1 => ?_) q⟩, fun sl k P Q hh q => h.mono _ _ _ _ (fun d k1 ⟨xs, e, q⟩ => ⟨xs, e, hh _ _ q⟩) q⟩
  subst e
  obtain ⟨a, vs, rfl, l, r⟩ := r1
  exact ⟨a, rfl, ⟨vs, l.sq⟩, q _ H1 B1 (walks_list l.1 l.2 r)⟩
theorem di_tup (h : DE X .c e t) : DI X tg e (dTs t) := by
  refine ⟨PI.weak (pi_tup h.pe) fun σ H R ⟨g, sl, k, E, q⟩ => ⟨g, sl, k, E, h.mono _ _ _ _ (fun d k1 ⟨xs, e, q⟩ v H1 B1 r1 => ?_) q⟩, fun sl k P Q hh q => h.mono _ _ _ _ (fun d k1 ⟨xs, e, q⟩ => ⟨xs, e, hh _ _ q⟩) q⟩
  subst e
  obtain ⟨a, vs, rfl, l, r⟩ := r1
  exact ⟨a, rfl, ⟨vs, l.sq⟩, q _ H1 B1 (walks_tup l r)⟩
def dRg (t : TD) : TDA := fun sl k Q => t sl k fun d k' => ∃ n : Int, d = .int n ∧ -(2 ^ 62) ≤ n ∧ n < 2 ^ 62 ∧ Q ((List.range n.toNat).map fun (j : Nat) => D.int (0 + j)) k'
theorem di_range (hg : Gl X "range") (hm : X.mg "range" = none) (h : DE X fl e t) (hs : starEach [e] X.env = [(false, eval e X.env)] := by rfl) : DI X tg (.Call (.Name "range" p) [e] [] pos) (dRg t) := by
  refine ⟨PI.weak (pi_range1 hg hm (pa_cons h.pe pa_nil (by rw [hs]; rfl)) hs) fun σ H R ⟨g, sl, k, E, q⟩ => ⟨g, sl, k, E, h.mono _ _ _ _ (fun d k1 ⟨n, e, h1, h2, q⟩ v H1 B1 r1 => ?_) q⟩,
    fun sl k P Q hh q => h.mono _ _ _ _ (fun d k1 ⟨n, e, h1, h2, q⟩ => ⟨n, e, h1, h2, hh _ _ q⟩) q⟩
  subst e
  have e : v = .int n := r1
  subst e
  exact ⟨n, rfl, h1, h2, q _ H1 B1 (walks_range 0 n.toNat)⟩
def dRg2 (t u : TD) : TDA := fun sl k Q => t sl k fun d k' => u sl k' fun d2 k2 => ∃ lo hi : Int, d = .int lo ∧ d2 = .int hi ∧ (-(2 ^ 62) ≤ lo ∧ lo < 2 ^ 62 ∧ -(2 ^ 62) ≤ hi ∧ hi < 2 ^ 62) ∧ Q ((List.range (hi - lo).toNat).map fun (j : Nat) => D.int (lo + j)) k2
theorem di_range2 (hg : Gl X "range") (hm : X.mg "range" = none) (h : DE X fl a ta) (h' : DE X fl' b tb) (hs : starEach [a, b] X.env = [(false, eval a X.env), (false, eval b X.env)] := by rfl) (hs2 : starEach [b] X.env = [(false, eval b X.env)] := by rfl) : DI X tg (.Call (.Name "range" p) [a, b] [] pos) (dRg2 ta tb) := by
  refine ⟨PI.weak (pi_range2 hg hm (pa_cons h.pe (pa_cons h'.pe pa_nil (by rw [hs2]; rfl)) (by rw [hs, hs2])) hs hs2) fun σ H R ⟨g, sl, k, E, q⟩ => ⟨g, sl, k, E, h.mono _ _ _ _ (fun d k1 q v H1 B1 r1 => ?_) q⟩,
    fun sl k P Q hh q => h.mono _ _ _ _ (fun d k1 => h'.mono _ _ _ _ fun d2 k2 ⟨lo, hi, e1, e2, c, q⟩ => ⟨lo, hi, e1, e2, c, hh _ _ q⟩) q⟩
  refine ⟨g, sl, k1, B1.env, h'.mono _ _ _ _ (fun d2 k2 ⟨lo, hi, e1, e2, c, qq⟩ w H2 B2 r2 => ?_) q⟩
  subst e1 e2
  rw [show v = .int lo from r1, show w = .int hi from r2]
  exact ⟨lo, hi, rfl, c, qq _ H2 (B1.trans B2) (walks_range lo _)⟩
def dEn (t : TD) : TDA := fun sl k Q => t sl k fun d k' => ∃ xs, d = .lst xs ∧ Q (enumD xs) k'
theorem di_enum {tp : Pos} {elts : List Expr} {kk : Nat} (hg : Gl X "enumerate") (hm : X.mg "enumerate" = none) (h : DE X .c e t) (hs : starEach [e] X.env = [(false, eval e X.env)] := by rfl) : DI X (.Tuple elts kk tp) (.Call (.Name "enumerate" p) [e] [] pos) (dEn t) := by
  refine ⟨PI.weak (pi_enum hg hm (pa_cons h.pe pa_nil (by rw [hs]; rfl)) hs) fun σ H R ⟨g, sl, k, E, q⟩ => ⟨g, sl, k, E, h.mono _ _ _ _ (fun d k1 ⟨xs, e, q⟩ v H1 B1 r1 => ?_) q⟩,
    fun sl k P Q hh q => h.mono _ _ _ _ (fun d k1 ⟨xs, e, q⟩ => ⟨xs, e, hh _ _ q⟩) q⟩
  subst e
  obtain ⟨a, vs, rfl, l, r⟩ := r1
  exact ⟨a, vs, rfl, l.sq, q _ H1 B1 (walks_enum l.1 l.2 r)⟩
end
end DL

/-! data layer, part f: targets, comprehensions, calls of defs -/
namespace DL
open PySem PySem.Spec PyProof.Rows L2

/-! ### targets -/
def setN (σ : L2.St) : List Nat → List V → L2.St
  | i :: is, w :: ws => setN (σ.set i (some w)) is ws
  | _, _ => σ
theorem setN_out {j : Nat} : ∀ {is : List Nat} {ws : List V} {σ : L2.St}, j ∉ is → (setN σ is ws)[j]? = σ[j]?
  | [], _, _, _ => rfl
  | _ :: _, [], _, _ => rfl
  | i :: is, w :: ws, σ, h => by
    show (setN (σ.set i (some w)) is ws)[j]? = σ[j]?
    rw [setN_out (fun z => h (List.mem_cons_of_mem _ z)), List.getElem?_set_ne]
    exact fun e => h (by rw [e]; exact List.mem_cons_self)
theorem setN_len : ∀ {is : List Nat} {ws : List V} {σ : L2.St}, (setN σ is ws).length = σ.length
  | [], _, _ => rfl
  | _ :: _, [], _ => rfl
  | i :: is, w :: ws, σ => by
    show (setN (σ.set i (some w)) is ws).length = σ.length
    rw [setN_len, List.length_set]
/-- what stands behind a store to plain names -/
structure GBh (K : PySem.W.Frag) (g : G) (sl : SL) (k : Nat) (σ : L2.St) (H : Hp) (is : List Nat) (sl' : SL) (σ' : L2.St) : Prop where
  env : EnvOk K g sl' k σ' H
  own : ∀ b, OwnB sl' σ' b → OwnB sl σ b
  pen : ∀ b, PenB sl' σ' b → PenB sl σ b
  out : ∀ j, j ∉ is → sl'[j]? = sl[j]? ∧ σ'[j]? = σ[j]?
  len : σ'.length = σ.length
abbrev TDG := D → SL → (SL → Prop) → Prop
abbrev TDGs := List D → SL → (SL → Prop) → Prop
def tG (K : PySem.W.Frag) (is : List Nat) (t : TDG) : TG := fun v σ H Q => ∃ g sl k d, EnvOk K g sl k σ H ∧ Is K g sl σ H .c d v ∧ t d sl fun sl' => ∀ σ', GBh K g sl k σ H is sl' σ' → Q σ' H
def tGs (K : PySem.W.Frag) (is : List Nat) (t : TDGs) : TGs := fun vs σ H Q => ∃ g sl k ds, EnvOk K g sl k σ H ∧ IsL K g sl σ H .c ds vs ∧ t ds sl fun sl' => ∀ σ', GBh K g sl k σ H is sl' σ' → Q σ' H
structure DG (X : Cx) (tg : Expr) (is : List Nat) (t : TDG) : Prop where
  pg : PG X tg (tG X.K is t)
  mono : ∀ d sl P Q, (∀ sl', P sl' → Q sl') → t d sl P → t d sl Q
structure DGs (X : Cx) (tgs : List Expr) (is : List Nat) (t : TDGs) : Prop where
  pgs : PGs X tgs (tGs X.K is t)
  mono : ∀ d sl P Q, (∀ sl', P sl' → Q sl') → t d sl P → t d sl Q
theorem PG.weak {X : Cx} {tg : Expr} {t t' : TG} (p : PG X tg t) (h : ∀ v σ H Q, t' v σ H Q → t v σ H Q) : PG X tg t' := ⟨fun pins s σ H v u Q I r q => p.run pins s σ H v u Q I r (h v σ H Q q)⟩
theorem PGs.weak {X : Cx} {tg : List Expr} {t t' : TGs} (p : PGs X tg t) (h : ∀ v σ H Q, t' v σ H Q → t v σ H Q) : PGs X tg t' := ⟨fun pins s σ H v u Q I r q => p.run pins s σ H v u Q I r (h v σ H Q q)⟩
section
variable {K : PySem.W.Frag} {g : G} {sl : SL} {k i : Nat} {σ : L2.St} {H : Hp} {d : D} {v : V}
theorem OwnB.setD {b : Addr} (h : OwnB (sl.set i (.d d)) (σ.set i (some v)) b) : OwnB sl σ b := h.set.elim (fun z => z.1.elim) id
theorem PenB.setD {b : Addr} (h : PenB (sl.set i (.d d)) (σ.set i (some v)) b) : PenB sl σ b := by
  obtain ⟨j, h1, h2⟩ := h
  by_cases e : j = i
  · subst e
    by_cases hj : j < sl.length
    · rw [List.getElem?_set_self hj] at h1; cases h1
    · rw [List.getElem?_eq_none_iff.mpr (by rw [List.length_set]; omega)] at h1; cases h1
  · rw [List.getElem?_set_ne (Ne.symm e)] at h1 h2
    exact ⟨j, h1, h2⟩
theorem gbh_set (E : EnvOk K g sl k σ H) (r : Is K g sl σ H .c d v) : GBh K g sl k σ H [i] (sl.set i (.d d)) (σ.set i (some v)) :=
  ⟨E.setD r, fun _ z => z.setD, fun _ z => z.setD, fun j hj => by
    have e : i ≠ j := fun e => hj (by rw [e]; exact List.mem_singleton.mpr rfl)
    rw [List.getElem?_set_ne e, List.getElem?_set_ne e]
    exact ⟨rfl, rfl⟩, List.length_set⟩
theorem isL_mv {sl' : SL} {σ' : L2.St} (m : Mv H H (Av g sl σ) (Av g sl' σ')) : ∀ {ds : List D} {vs : List V}, IsL K g sl σ H .c ds vs → IsL K g sl' σ' H .c ds vs
  | [], _, r => r
  | x :: _, _, ⟨w, ws, e, r, q⟩ => ⟨w, ws, e, Rep.mv m x m r, isL_mv m q⟩
end
section
variable {X : Cx} {e : Expr} {es : List Expr} {is js : List Nat} {t : TDG} {ts : TDGs} {pos : Pos} {x : Str} {i : Nat}
def gdName (i : Nat) : TDG := fun d sl P => P (sl.set i (.d d))
theorem dg_name (hN : X.N.Nodup) (hi : X.N[i]? = some x) (hx : Loc X.env.scope x) (hf : X.fn x = true ∨ X.env.scope.names.lookup x = some .local := by first | exact .inl rfl | exact .inr rfl | assumption) : DG X (.Name x pos) [i] (gdName i) :=
  ⟨PG.weak (pg_name hN hi hx hf) fun v σ H Q ⟨g, sl, k, d, E, r, q⟩ => q _ (gbh_set E r), fun d sl P Q h q => h _ q⟩
def gdNil : TDGs := fun ds sl P => ds = [] ∧ P sl
def gdCons (t : TDG) (u : TDGs) : TDGs := fun ds sl P => ∃ d r, ds = d :: r ∧ t d sl fun sl' => u r sl' P
theorem dgs_nil : DGs X [] [] gdNil := by
  refine ⟨PGs.weak pgs_nil fun vs σ H Q ⟨g, sl, k, ds, E, r, e, q⟩ => ?_, fun d sl P Q h ⟨e, q⟩ => ⟨e, h _ q⟩⟩
  subst e
  exact ⟨r, q σ ⟨E, fun _ z => z, fun _ z => z, fun j _ => ⟨rfl, rfl⟩, rfl⟩⟩
/-- names one by one: i, then the others -/
theorem dgs_cons (h1 : DG X e [i] (gdName i)) (h2 : DGs X es js ts) (hs : (assignEach (e :: es) X.env).map (·.2) = assign e X.env :: (assignEach es X.env).map (·.2) := by rfl) : DGs X (e :: es) (i :: js) (gdCons (gdName i) ts) := by
  refine ⟨PGs.weak (pgs_cons h1.pg h2.pgs hs) fun vs σ H Q ⟨g, sl, k, ds, E, r, d, rest, e, q⟩ => ?_, fun ds sl P Q h ⟨d, r, e, q⟩ => ⟨d, r, e, h2.mono _ _ _ _ h q⟩⟩
  subst e
  obtain ⟨v, ws, e, r1, r2⟩ := r
  subst e
  have G1 := gbh_set (i := i) E r1
  refine ⟨v, ws, rfl, g, sl, k, d, E, r1, fun σ' G1 => ?_⟩
  have hr2 : IsL X.K g (sl.set i (.d d)) σ' H .c rest ws := by
    have m : Mv H H (Av g sl σ) (Av g (sl.set i (.d d)) σ') := Mv.anti fun b z => .inl (z.imp id (G1.own b))
    exact isL_mv m r2
  refine ⟨g, _, k, rest, G1.env, hr2, h2.mono _ _ _ _ (fun sl' q σ'' G2 => q σ'' ⟨G2.env, fun b z => G1.own b (G2.own b z), fun b z => G1.pen b (G2.pen b z), fun j hj => ?_, G2.len.trans G1.len⟩) q⟩
  obtain ⟨a1, a2⟩ := G2.out j fun z => hj (List.mem_cons_of_mem _ z)
  obtain ⟨b1, b2⟩ := G1.out j fun z => hj (by rw [List.mem_singleton.mp z]; exact List.mem_cons_self)
  exact ⟨a1.trans b1, a2.trans b2⟩
def gdTup (n : Nat) (t : TDGs) : TDG := fun d sl P => ∃ ds, d = .tup ds ∧ ds.length = n ∧ t ds sl P
theorem dg_tup {n k0 : Nat} (hc : X.calm = true) (h : DGs X es is ts) (hn : (assignEach es X.env).length = n := by rfl) (hst : (assignEach es X.env).findIdx? (·.1) = none := by rfl) : DG X (.Tuple es k0 pos) is (gdTup n ts) := by
  refine ⟨PG.weak (pg_tup hc h.pgs hn hst) fun v σ H Q ⟨g, sl, k, d, E, r, ds, e, hl, q⟩ => ?_, fun d sl P Q hh ⟨ds, e, l, q⟩ => ⟨ds, e, l, h.mono _ _ _ _ hh q⟩⟩
  subst e
  obtain ⟨a, vs, rfl, l, r⟩ := r
  exact ⟨a, vs, rfl, l.sq, by rw [← r.length]; exact hl, g, sl, k, ds, E, isL_of (fl := .c) trivial r, q⟩
end

/-! ### tests of a comprehension -/
structure DTs (X : Cx) (es : List Expr) (t : TDT) : Prop where
  pts : PTs X es (tDT X.K t)
  mono : ∀ sl k P Q, (∀ d k', P d k' → Q d k') → t sl k P → t sl k Q
def dYes : TDT := fun _ k Q => Q true k
theorem PTs.weak {X : Cx} {es : List Expr} {t t' : TT} (p : PTs X es t) (h : ∀ σ H Q, t' σ H Q → t σ H Q) : PTs X es t' := ⟨fun pins s σ H Q I q => p.run pins s σ H Q I (h σ H Q q)⟩
theorem dts_nil {X : Cx} : DTs X [] dYes := ⟨PTs.weak pts_nil fun σ H Q ⟨g, sl, k, E, q⟩ => q H (Bh.refl E), fun _ _ _ _ h q => h _ _ q⟩
theorem dts_one {X : Cx} {e : Expr} {t : TDT} (h : DT X e t) : DTs X [e] t := ⟨pts_one h.pt, h.mono⟩

/-! ### comprehensions -/
def plainS (sl : SL) (i : Nat) : Bool := match sl[i]? with
  | some (.own _) => false
  | some .pen => false
  | _ => true
def wipeS (sl : SL) : List Nat → SL
  | [] => sl
  | v :: vs => (wipeS sl vs).set v .un
theorem wipeS_len (sl : SL) : ∀ vs, (wipeS sl vs).length = sl.length
  | [] => rfl
  | v :: vs => by unfold wipeS; rw [List.length_set, wipeS_len sl vs]
theorem wipeS_some {sl : SL} {i : Nat} {s : Slot} : ∀ {vs : List Nat}, (wipeS sl vs)[i]? = some s → s = .un ∨ (sl[i]? = some s ∧ i ∉ vs)
  | [], h => .inr ⟨h, by simp⟩
  | v :: vs, h => by
    unfold wipeS at h
    by_cases hi : v = i
    · subst hi
      by_cases hv : v < (wipeS sl vs).length
      · rw [List.getElem?_set_self hv] at h; cases h; exact .inl rfl
      · rw [List.getElem?_eq_none (by simpa using hv)] at h; cases h
    · rw [List.getElem?_set_ne hi] at h
      rcases wipeS_some h with h | ⟨h1, h2⟩
      · exact .inl h
      · exact .inr ⟨h1, by simp only [List.mem_cons, not_or]; exact ⟨fun e => hi e.symm, h2⟩⟩
theorem wipe_out {σ : L2.St} {i : Nat} : ∀ {vs : List Nat}, i ∉ vs → (wipe σ vs)[i]? = σ[i]?
  | [], _ => rfl
  | v :: vs, h => by
    unfold wipe
    rw [List.getElem?_set_ne (fun e => h (by rw [e]; exact List.mem_cons_self)), wipe_out fun z => h (List.mem_cons_of_mem _ z)]
theorem wipeS_out {sl : SL} {i : Nat} : ∀ {vs : List Nat}, i ∉ vs → (wipeS sl vs)[i]? = sl[i]?
  | [], _ => rfl
  | v :: vs, h => by
    unfold wipeS
    rw [List.getElem?_set_ne (fun e => h (by rw [e]; exact List.mem_cons_self)), wipeS_out fun z => h (List.mem_cons_of_mem _ z)]
theorem wipe_in {σ : L2.St} {i : Nat} : ∀ {vs : List Nat}, i ∈ vs → i < σ.length → (wipe σ vs)[i]? = some none
  | [], h, _ => by simp at h
  | v :: vs, h, hi => by
    unfold wipe
    by_cases e : v = i
    · subst e
      exact List.getElem?_set_self (by rw [wipe_length]; exact hi)
    · rw [List.getElem?_set_ne e]
      exact wipe_in ((List.mem_cons.mp h).resolve_left fun z => e z.symm) hi
theorem wipe_eq {σ τ : L2.St} {is vs : List Nat} (hl : τ.length = σ.length) (h : ∀ j, j ∉ is → τ[j]? = (wipe σ vs)[j]?) (hs : ∀ i ∈ is, i ∈ vs) : wipe τ vs = wipe σ vs := by
  apply List.ext_getElem?
  intro j
  by_cases hj : j ∈ vs
  · by_cases hlt : j < σ.length
    · rw [wipe_in hj hlt, wipe_in hj (by rw [hl]; exact hlt)]
    · rw [List.getElem?_eq_none (by rw [wipe_length, hl]; omega), List.getElem?_eq_none (by rw [wipe_length]; omega)]
  · rw [wipe_out hj, h j fun z => hj (hs j z)]
section
variable {K : PySem.W.Frag} {g : G} {sl : SL} {k : Nat} {σ : L2.St} {H : Hp} {vs : List Nat}
theorem ownB_wipe {b : Addr} : OwnB (wipeS sl vs) (wipe σ vs) b → OwnB sl σ b := fun ⟨i, s, h1, h2, h3⟩ => by
  rcases wipeS_some h1 with e | ⟨e, n⟩
  · subst e; exact h2.elim
  · rw [wipe_out n] at h3; exact ⟨i, s, e, h2, h3⟩
theorem penB_wipe {b : Addr} : PenB (wipeS sl vs) (wipe σ vs) b → PenB sl σ b := fun ⟨i, h1, h3⟩ => by
  rcases wipeS_some h1 with e | ⟨e, n⟩
  · cases e
  · rw [wipe_out n] at h3; exact ⟨i, e, h3⟩
theorem EnvOk.wipe (E : EnvOk K g sl k σ H) : EnvOk K g (wipeS sl vs) k (L2.wipe σ vs) H := by
  have m : Mv H H (Av g sl σ) (Av g (wipeS sl vs) (L2.wipe σ vs)) := Mv.anti fun b z => .inl (z.imp id ownB_wipe)
  refine ⟨by rw [wipeS_len, wipe_length]; exact E.len, fun i x e => ?_, fun i x e => ?_, fun i e => ?_, fun i j s t a e1 e2 o1 o2 s1 s2 => ?_, E.le, E.dom, E.md, fun i a e q => ?_⟩
  · rcases wipeS_some e with z | ⟨z, n⟩
    · cases z
    · obtain ⟨v, q, r⟩ := E.d i x z
      exact ⟨v, by rw [wipe_out n]; exact q, Rep.mv m x m r⟩
  · rcases wipeS_some e with z | ⟨z, n⟩
    · cases z
    · obtain ⟨v, q, r, w⟩ := E.own i x z
      exact ⟨v, by rw [wipe_out n]; exact q, r.mv m fun _ h => h, w⟩
  · rcases wipeS_some e with z | ⟨z, n⟩
    · cases z
    · obtain ⟨v, q, r, w⟩ := E.pen i z
      exact ⟨v, by rw [wipe_out n]; exact q, r.mv m fun _ h => h, w⟩
  · have key : ∀ j s, (wipeS sl vs)[j]? = some s → ownS s → (L2.wipe σ vs)[j]? = some (some (V.ref a)) → sl[j]? = some s ∧ σ[j]? = some (some (V.ref a)) := fun j s e o q => by
      rcases wipeS_some e with z | ⟨z, n⟩
      · subst z; exact o.elim
      · rw [wipe_out n] at q; exact ⟨z, q⟩
    obtain ⟨a1, a2⟩ := key i s e1 o1 s1
    obtain ⟨b1, b2⟩ := key j t e2 o2 s2
    exact E.inj i j s t a a1 b1 o1 o2 a2 b2
  · rcases wipeS_some e with z | ⟨z, n⟩
    · cases z
    · rw [wipe_out n] at q; exact E.pa i a z q
/-- a change at a place that nothing reaches -/
theorem EnvOk.putA {p : Addr} {u u' : HO} (E : EnvOk K g sl k σ H) (hA : g.A p) (hn : ¬ OwnB sl σ p) (h0 : g.H0 p = none) (hu : H p = some u) (hm : mutb (core u)) : EnvOk K g sl k σ (upd H p u') := by
  have m : Mv H (upd H p u') (Av g sl σ) (Av g sl σ) := fun b x e n => by
    have ne : b ≠ p := fun q => by
      subst q
      rw [hu] at e; cases e
      exact n hm (.inl hA)
    exact ⟨⟨x, by rw [upd_ne ne]; exact e, rfl⟩, n⟩
  have keep : ∀ a, OwnB sl σ a → ∀ o, H a = some o → (upd H p u') a = some o := fun a oa o h => by
    rw [upd_ne fun q => hn (by rw [← q]; exact oa)]; exact h
  refine E.move m (fun i x a e q => keep a ⟨i, _, e, trivial, q⟩) (fun i a e q r => r.mv m (keep a ⟨i, _, e, trivial, q⟩)) (fun _ _ z => z) (fun _ _ z => z) (fun _ _ z => z) (LeA.put0 h0 E.le) (fun b z => ?_) E.md
  by_cases q : b = p
  · rw [q, upd_same]; intro z; cases z
  · rw [upd_ne q]; exact E.dom b z
end
def dLcIn (tg : TDG) (tt : TDT) (te : TD) (vs : List Nat) (sl : SL) (Q : D → Nat → Prop) (xs : List D) (k1 : Nat) : Prop := xs.length ≤ 100000 ∧ ∃ I : Nat → List D → Nat → Prop, I 0 [] k1 ∧
  (∀ j x acc k', xs[j]? = some x → I j acc k' → tg x (wipeS sl vs) fun sl2 => tt sl2 k' fun b k2 => if b = true then te sl2 k2 fun y k3 => I (j + 1) (acc ++ [y]) k3 else I (j + 1) acc k2) ∧ ∀ acc k', I xs.length acc k' → Q (.lst acc) k'
def dLc (ti : TDA) (tg : TDG) (tt : TDT) (te : TD) (vs : List Nat) : TD := fun sl k Q => vs.all (plainS sl) = true ∧ ti sl k (dLcIn tg tt te vs sl Q)
section
variable {K : PySem.W.Frag} {ti : TDA} {tg : TDG} {tt : TDT} {te : TD} {vs is : List Nat}
theorem lc_read (mi : ∀ sl k P Q, (∀ d k', P d k' → Q d k') → ti sl k P → ti sl k Q) (mg : ∀ d sl P Q, (∀ sl', P sl' → Q sl') → tg d sl P → tg d sl Q) (mt : ∀ sl k P Q, (∀ d k', P d k' → Q d k') → tt sl k P → tt sl k Q)
    (me : ∀ sl k P Q, (∀ d k', P d k' → Q d k') → te sl k P → te sl k Q) (hs : ∀ i ∈ is, i ∈ vs) {σ : L2.St} {H : Hp} {Q : VK} (h : tDN K .c (dLc ti tg tt te vs) σ H Q) : tLc (tDI K ti) (tG K is tg) (tDT K tt) (tD K .c te) vs σ H Q := by
  obtain ⟨g, sl, k, E, hpl, h⟩ := h
  refine ⟨g, sl, k, E, mi _ _ _ _ (fun xs k1 ⟨hz, I, i0, turn, fin⟩ J H1 B1 wk D hD => ?_) h⟩
  have E1 := B1.env
  have noPen : ∀ i, i ∈ vs → sl[i]? ≠ some Slot.pen := fun i hi e => by
    have := List.all_eq_true.mp hpl i hi
    unfold plainS at this
    rw [e] at this
    cases this
  have hD0 : g.H0 D = none := E1.le.nn hD
  have nAD : ¬ Av g sl σ D := fun z => E1.avdom z hD
  have eD : EnvOk K (g.pls D) sl k1 σ (upd H1 D (.lst [])) := E1.pls (E1.new hD) hD (LeA.new hD) (by rw [upd_same]; intro z; cases z)
  refine ⟨fun i m H' => ∃ acc k' ws, m = xs.length - i ∧ i ≤ xs.length ∧ I i acc k' ∧ acc.length ≤ i ∧ EnvOk K (g.pls D) (wipeS sl vs) k' (wipe σ vs) H' ∧ H' D = some (.lst ws) ∧ RepL K (Pls (Av g sl σ) D) H' acc ws ∧ LeA (PenB sl σ) H1 H',
    ⟨xs.length, [], k1, [], rfl, Nat.zero_le _, i0, Nat.zero_le _, eD.wipe, upd_same, rfl, LeA.new hD⟩, ?_⟩
  rintro i m H' ⟨acc, k', ws, rfl, hi, hI, hac, Ew, hw, hr, l⟩
  have lS : LeA (Pls (Av g sl σ) D) H1 H' := l.mono fun b z => .inl (.inr z.own)
  obtain ⟨wk1, wk2⟩ := wk (Pls (Av g sl σ) D) (fun b z => z.imp id fun e => by rw [e]; exact hD) H' lS
  by_cases hlt : i < xs.length
  · obtain ⟨go, wy⟩ := wk1 i xs[i] (by simp [hlt])
    refine .inr ⟨go, _, fun H' h => h, fun v H2 y => ?_⟩
    obtain ⟨sm, rv⟩ := wy v H2 y
    have E2 := Ew.grow sm
    have avw : ∀ b, Av (g.pls D) (wipeS sl vs) (wipe σ vs) b → Pls (Av g sl σ) D b := fun b z => z.pls.imp (fun z => z.imp id ownB_wipe) id
    have mx : Mv H2 H2 (Pls (Av g sl σ) D) (Av (g.pls D) (wipeS sl vs) (wipe σ vs)) := Mv.anti fun b z => .inl (avw b z)
    refine ⟨g.pls D, wipeS sl vs, k', xs[i], E2, Rep.mv mx _ mx rv, mg _ _ _ _ (fun sl2 q2 σ2 G2 => ?_) (turn i xs[i] acc k' (by simp [hlt]) hI)⟩
    have ew : wipe σ2 vs = wipe σ vs := wipe_eq (by rw [G2.len, wipe_length]) (fun j hj => (G2.out j hj).2) hs
    have penW : ∀ b, PenB sl2 σ2 b → PenB sl σ b := fun b z => penB_wipe (G2.pen b z)
    have nPD : ¬ PenB sl2 σ2 D := fun z => nAD (.inr (penW D z).own)
    -- behind the turn's expressions
    have fin2 : ∀ {k4 H4}, Bh K (g.pls D) sl2 σ2 H2 k4 H4 → EnvOk K (g.pls D) (wipeS sl vs) k4 (wipe σ vs) H4 ∧ H4 D = some (.lst ws) ∧ RepL K (Pls (Av g sl σ) D) H4 acc ws ∧ LeA (PenB sl σ) H1 H4 := fun {k4 H4} B => by
      have lp : LeA (PenB sl σ) H2 H4 := B.le.mono penW
      have toP : ∀ b, PenB sl2 σ2 b → PenB (wipeS sl vs) (wipe σ vs) b := G2.pen
      refine ⟨E2.behind (B.le.mono toP) fun j a e1 e2 => ?_, ?_, ?_, (l.trans (LeA.same sm)).trans lp⟩
      · have nj : j ∉ is := fun z => by
          rcases wipeS_some e1 with y | ⟨_, n⟩
          · cases y
          · exact n (hs j z)
        obtain ⟨o1, o2⟩ := G2.out j nj
        obtain ⟨a', q, r, _⟩ := B.env.pen j (by rw [o1]; exact e1)
        rw [o2, e2] at q; cases q
        obtain ⟨x1, x2, x3, x4, x5, x6, x7, x8⟩ := r
        obtain ⟨_, _, ⟨_, _, _, _, _, _, y7, _⟩, _⟩ := E2.pen j e1
        have m4 : Mv H2 H4 (Av (g.pls D) (wipeS sl vs) (wipe σ vs)) (Av (g.pls D) (wipeS sl vs) (wipe σ vs)) := Mv.le (B.le.mono toP) (fun _ z => .inr z.own) fun _ z => .inl z
        exact ⟨x1, x2, x3, x4, x5, x6, m4.lsA y7, x8⟩
      · exact (B.le D _ (sm _ _ hw)).elim id fun z => absurd z.1 nPD
      · exact RepL.mv (Mv.le lp (fun b z => .inl (.inr z.own)) fun _ z => .inl z) _ (RepL.mv (Mv.le (P := fun _ => False) (LeA.same sm) (fun _ z => z.elim) fun _ z => .inl z) _ hr)
    refine ⟨ew, g.pls D, sl2, k', G2.env, mt _ _ _ _ (fun b k2 q3 H3 B3 => ?_) q2⟩
    cases b with
    | false =>
      obtain ⟨x1, x2, x3, x4⟩ := fin2 B3
      exact ⟨xs.length - (i + 1), by omega, acc, k2, ws, rfl, by omega, q3, by omega, x1, x2, x3, x4⟩
    | true =>
      refine ⟨g.pls D, sl2, k2, B3.env, me _ _ _ _ (fun y k3 q4 vy H4 B4 ry => ?_) q3⟩
      obtain ⟨x1, x2, x3, x4⟩ := fin2 (B3.trans B4)
      have hlen : ws.length = acc.length := x3.length.symm
      refine ⟨ws, x2, by rw [hlen]; exact Nat.lt_of_le_of_lt hac (Nat.lt_of_lt_of_le hlt (Nat.le_trans hz (by decide))), xs.length - (i + 1), by omega, acc ++ [y], k3, ws ++ [vy], rfl, by omega, q4, by rw [List.length_append, List.length_singleton]; omega, ?_, upd_same, ?_, ?_⟩
      · refine x1.putA (.inr rfl) (fun z => nAD (.inr (ownB_wipe z))) hD0 x2 trivial
      · have av2 : ∀ b, Pls (Av g sl σ) D b → Av (g.pls D) sl2 σ2 b ∨ (b ≠ D ∧ OwnB sl σ b ∧ ¬ OwnB sl2 σ2 b) ∨ Pls (Av g sl σ) D b := fun b z => .inr (.inr z)
        have hy : Rep K (Pls (Av g sl σ) D) H4 y (Pls (Av g sl σ) D) vy := by
          refine Rep.mv (Mv.anti fun b z => .inl ?_) y (Mv.anti fun b z => .inl ?_) ry
          all_goals
            rcases z with (z | z) | z
            · exact .inl (.inl z)
            · refine .inr ?_
              obtain ⟨j, s, e1, e2, e3⟩ := z
              have nj : j ∉ vs := fun hj => by
                have := List.all_eq_true.mp hpl j hj
                unfold plainS at this
                rw [e1] at this
                cases s <;> first | exact e2 | cases this
              have nj' : j ∉ is := fun hj => nj (hs j hj)
              obtain ⟨o1, o2⟩ := G2.out j nj'
              exact ⟨j, s, by rw [o1, wipeS_out nj]; exact e1, e2, by rw [o2, wipe_out nj]; exact e3⟩
            · exact .inl (.inr z)
        have m5 : Mv H4 (upd H4 D (.lst (ws ++ [vy]))) (Pls (Av g sl σ) D) (Pls (Av g sl σ) D) := fun b z e n => by
          have ne : b ≠ D := fun q => by
            subst q
            rw [x2] at e; cases e
            exact n trivial (.inr rfl)
          exact ⟨⟨z, by rw [upd_ne ne]; exact e, rfl⟩, n⟩
        exact RepL.mv m5 _ (x3.append (RepL.one hy))
      · exact LeA.put0 hD x4
  · have e : i = xs.length := by omega
    subst e
    refine .inl ⟨wk2, fin acc k' hI _ _ (B1.trans ⟨E1.behind l fun j a e1 e2 => ?_, l⟩) ⟨D, ws, rfl, B1.le.nn hD, hw, hr⟩⟩
    have nj : j ∉ vs := fun z => noPen j z e1
    obtain ⟨a', q, ⟨x1, x2, x3, x4, x5, x6, x7, x8⟩, _⟩ := Ew.pen j (by rw [wipeS_out nj]; exact e1)
    rw [wipe_out nj, e2] at q; cases q
    obtain ⟨_, _, ⟨_, _, _, _, _, _, y7, _⟩, _⟩ := E1.pen j e1
    have m4 : Mv H1 H' (Av g sl σ) (Av g sl σ) := Mv.le l (fun _ z => .inr z.own) fun _ z => .inl z
    exact ⟨x1, x2, x3, x4, x5, x6, m4.lsA y7, x8⟩
end
end DL

/-! data layer, part g: statements, defs -/
namespace DL
open PySem PySem.Spec PyProof.Rows L2

/-! ### comprehensions as values, given to a name -/
section
variable {X : Cx} {elt tg iter : Expr} {ifs : List Expr} {scope : Scope} {own : List (Str × Nat)} {pos : Pos} {ti : TDA} {tgd : TDG} {tt : TDT} {te : TD} {is : List Nat}
theorem lc_mono (mi : ∀ sl k P Q, (∀ d k', P d k' → Q d k') → ti sl k P → ti sl k Q) (mg : ∀ d sl P Q, (∀ sl', P sl' → Q sl') → tgd d sl P → tgd d sl Q) (mt : ∀ sl k P Q, (∀ d k', P d k' → Q d k') → tt sl k P → tt sl k Q)
    (me : ∀ sl k P Q, (∀ d k', P d k' → Q d k') → te sl k P → te sl k Q) {vs : List Nat} : ∀ sl k P Q, (∀ d k', P d k' → Q d k') → (dLc ti tgd tt te vs) sl k P → (dLc ti tgd tt te vs) sl k Q :=
  fun sl k P Q h ⟨hp, q⟩ => ⟨hp, mi _ _ _ _ (fun xs k1 ⟨hz, I, a, b, c⟩ => ⟨hz, I, a, b, fun acc k' z => h _ _ (c acc k' z)⟩) q⟩
structure LcOk (X : Cx) (elt tg iter : Expr) (ifs : List Expr) (scope : Scope) (own : List (Str × Nat)) (is : List Nat) (ti : TDA) (tgd : TDG) (tt : TDT) (te : TD) : Prop where
  ok : BlkOk X.N X.env.scope scope own
  hi : DI X tg iter ti
  hg : ∀ (s : Shared) (H : Hp) (C : Addr) (cl : List (Str × Addr)) (fp : List Addr), DG (X.blk s H scope (compEnvC scope cl C X.env) fp) tg is tgd
  ht : ∀ (s : Shared) (H : Hp) (C : Addr) (cl : List (Str × Addr)) (fp : List Addr), DTs (X.blk s H scope (compEnvC scope cl C X.env) fp) ifs tt
  he : ∀ (s : Shared) (H : Hp) (C : Addr) (cl : List (Str × Addr)) (fp : List Addr), DE (X.blk s H scope (compEnvC scope cl C X.env) fp) .c elt te
  sub : ∀ i ∈ is, i ∈ own.map (·.2)
theorem dn_lc (hc : X.calm = true) (hN : X.N.Nodup) (L : LcOk X elt tg iter ifs scope own is ti tgd tt te) (ne : Shared) (hs : ∀ x, foldedSetIterable iter X.env x = pure x := by intro _; rfl) :
    DN X .c (.ListComp elt [⟨tg, iter, ifs, 0⟩] scope pos) (dLc ti tgd tt te (own.map (·.2))) := by
  have mg := (L.hg ne (fun _ => none) 0 [] []).mono
  have mt := (L.ht ne (fun _ => none) 0 [] []).mono
  have me := (L.he ne (fun _ => none) 0 [] []).mono
  exact ⟨PE.weak (pe_lc hc hN L.hi.pi L.ok (fun s H C cl fp => (L.hg s H C cl fp).pg) (fun s H C cl fp => (L.ht s H C cl fp).pts) (fun s H C cl fp => (L.he s H C cl fp).pe) hs) fun σ H Q h => lc_read L.hi.mono mg mt me L.sub h, lc_mono L.hi.mono mg mt me⟩
end

/-! ### calls of defs -/
structure FD where
  r : RDA
  mono : ∀ ds (P Q : D → Prop), (∀ z, P z → Q z) → r ds P → r ds Q
/-- a def that hands back d, where R says so -/
def FD.fn (R : List D → D → Prop) : FD := ⟨fun ds Q => ∃ d, R ds d ∧ Q d, fun _ _ _ h ⟨d, a, q⟩ => ⟨d, a, h _ q⟩⟩
structure FP where
  r : Nat → List D → (D → Nat → Prop) → Prop
  mono : ∀ k ds (P Q : D → Nat → Prop), (∀ z k', P z k' → Q z k') → r k ds P → r k ds Q
/-- a def's promise over data -/
def liftSp (K : PySem.W.Frag) (fd : FD) : Sp := fun vs H Q _ => ∃ (A : AS) (ds : List D), (∀ b, A b → H b ≠ none) ∧ RepL K A H ds vs ∧ fd.r ds fun d => ∀ v H', Same H H' → Rep K A H' d A v → Q v H'
/-- .. whose first argument is the pen -/
def liftSpP (K : PySem.W.Frag) (fp : FP) : Sp := fun vs H Q _ => ∃ (A : AS) (ds : List D) (a : Addr) (ws : List V) (k : Nat) (pb : Addr) (pn : List Int), vs = .ref a :: ws ∧ A a ∧ (∀ b, A b → H b ≠ none) ∧ PenAt K A H k pb pn a ∧ RepL K A H ds ws ∧
  fp.r k ds fun d k' => ∀ v H', LeA (fun b => b = a) H H' → PenAt K A H' k' pb pn a → Rep K A H' d A v → Q v H'
def dCall (fd : FD) (t : TDA) : TD := fun sl k Q => t sl k fun ds k1 => fd.r ds fun d => Q d k1
/-- the pen stands in the i-th slot and nowhere else -/
def onePen (sl : SL) (i : Nat) : Bool := sl.zipIdx.all fun p => match p.1 with
  | .pen => p.2 == i
  | _ => true
theorem onePen_ok {sl : SL} {i j : Nat} (h : onePen sl i = true) (e : sl[j]? = some Slot.pen) : j = i := by
  have m : (Slot.pen, j) ∈ sl.zipIdx := by
    rw [List.mem_zipIdx_iff_getElem?]
    exact e
  have := List.all_eq_true.mp h _ m
  exact of_decide_eq_true this
def dCallP (i : Nat) (fp : FP) (t : TDA) : TD := fun sl k Q => sl[i]? = some Slot.pen ∧ onePen sl i = true ∧ t sl k fun ds k1 => fp.r k1 ds fun d k2 => Q d k2
section
variable {X : Cx} {fl : Fl} {k0 : Nat} {f : Addr} {fdt : FuncData} {ps : List Str} {fd : FD} {fp : FP} {x y : Str} {p py pos : Pos} {e : Expr} {es : List Expr} {tA : TDA}
theorem RepL.app_nil {K : PySem.W.Frag} {S : AS} {H : Hp} {ds : List D} {vs : List V} (r : RepL K S H ds vs) : RepL K S H ds (vs ++ []) := by rw [List.append_nil]; exact r
theorem Fl.subAv {g : G} {sl : SL} {σ : L2.St} {b : Addr} (h : fl.sub g sl σ b) : Av g sl σ b := by
  cases fl
  · exact h
  · exact h
  · exact Pv.av h
theorem call_core {σ : L2.St} {H : Hp} {Q : VK} {E : XK} (hf : fl.cd) (ha : DA X fl es tA) (h : tD X.K fl (dCall fd tA) σ H Q) : tDA X.K fl tA σ H fun vs H1 => liftSp X.K fd (vs ++ []) H1 Q E := by
  obtain ⟨g, sl, k, E, q⟩ := h
  refine ⟨g, sl, k, E, ha.mono _ _ _ _ (fun ds k1 q vs H1 B1 r1 => ?_) q⟩
  have rr := isL_rep hf r1
  refine ⟨fl.sub g sl σ, ds, fun b z => B1.env.avdom (Fl.subAv z), rr.app_nil, fd.mono _ _ _ (fun d q v H' sm r => q v H' (B1.trans ⟨B1.env.grow sm, LeA.same sm⟩) ?_) q⟩
  cases fl
  · exact r
  · exact hf.elim
  · exact r
theorem de_call (F : FnOk X.prog X.w X.K X.mg X.base CX0 k0 f fdt ps (liftSp X.K fd)) (hr : Room k0 X.A) (hg : Gl X x) (hm : X.mg x = some (.ref f)) (hk : PySem.W.keepIn X.K (.ref f) = true) (hb : Binds X.K fdt ps [])
    (ha : DA X fl (e :: es) tA) (hf : fl.cd := by trivial) (hdb : (x == ("__debug__" : Str)) = false := by decide) (he : starEach (e :: es) X.env = (false, eval e X.env) :: starEach es X.env := by rfl) (hpl : (backTo pos (starEach es X.env)).any (·.1) = false := by rfl) :
    DE X fl (.Call (.Name x p) (e :: es) [] pos) (dCall fd tA) :=
  ⟨PE.weak (pe_call F hr hg hm hk hb .nil pass0 ha.pa hdb he hpl) fun σ H Q h => call_core hf ha h, fun sl k P Q h q => ha.mono _ _ _ _ (fun ds k1 => fd.mono _ _ _ fun z => h z k1) q⟩
theorem callP_core {σ : L2.St} {H : Hp} {Q : VK} {E : XK} {i : Nat} (ha : DA X .c es tA) (h : tD X.K .c (dCallP i fp tA) σ H Q) : tCons (tVar i) (tDA X.K .c tA) σ H fun vs H1 => liftSpP X.K fp (vs ++ []) H1 Q E := by
  obtain ⟨g, sl, k, E, hi, ho, q⟩ := h
  obtain ⟨a, ea, pa, _⟩ := E.pen i hi
  refine ⟨.ref a, ea, g, sl, k, E, ha.mono _ _ _ _ (fun ds k1 q vs H1 B1 r1 => ?_) q⟩
  have rr := isL_rep (fl := .c) trivial r1
  obtain ⟨a', ea', pa', _⟩ := B1.env.pen i hi
  rw [ea] at ea'; cases ea'
  refine ⟨Av g sl σ, ds, a, vs, k1, g.pb, g.pn, by rw [List.append_nil], .inr ⟨i, _, hi, trivial, ea⟩, fun b z => B1.env.avdom z, pa', rr, fp.mono _ _ _ _ (fun d k2 q v H' l pn r => ?_) q⟩
  have lp : LeA (PenB sl σ) H1 H' := l.mono fun b z => ⟨i, hi, by rw [z]; exact ea⟩
  refine q v H' (B1.trans ⟨B1.env.behind lp fun j b e1 e2 => ?_, lp⟩) r
  have := onePen_ok ho e1
  subst this
  rw [ea] at e2; cases e2
  exact pn
theorem de_callP {i : Nat} (F : FnOk X.prog X.w X.K X.mg X.base CX0 k0 f fdt ps (liftSpP X.K fp)) (hr : Room k0 X.A) (hg : Gl X x) (hm : X.mg x = some (.ref f)) (hk : PySem.W.keepIn X.K (.ref f) = true) (hb : Binds X.K fdt ps [])
    (hv : PE X (.Name y py) (tVar i)) (ha : DA X .c es tA) (hdb : (x == ("__debug__" : Str)) = false := by decide) (he : starEach (.Name y py :: es) X.env = (false, eval (.Name y py) X.env) :: starEach es X.env := by rfl) (hpl : (backTo pos (starEach es X.env)).any (·.1) = false := by rfl) :
    DE X .c (.Call (.Name x p) (.Name y py :: es) [] pos) (dCallP i fp tA) :=
  ⟨PE.weak (pe_call F hr hg hm hk hb .nil pass0 (pa_cons hv ha.pa he) hdb he hpl) fun σ H Q h => callP_core ha h, fun sl k P Q h ⟨a, b, q⟩ => ⟨a, b, ha.mono _ _ _ _ (fun ds k1 => fp.mono _ _ _ _ fun z k2 => h z k2) q⟩⟩
end

/-! ### statements -/
structure EndsD where
  nx : SL → Nat → Prop
  rt : D → SL → Nat → Prop
  bk : SL → Nat → Prop := fun _ _ => False
  ct : SL → Nat → Prop := fun _ _ => False
abbrev TSd := EndsD → SL → Nat → Prop
structure EndsD.Le (E E' : EndsD) : Prop where
  nx : ∀ sl k, E.nx sl k → E'.nx sl k
  rt : ∀ d sl k, E.rt d sl k → E'.rt d sl k
  bk : ∀ sl k, E.bk sl k → E'.bk sl k
  ct : ∀ sl k, E.ct sl k → E'.ct sl k
structure Lk (K : PySem.W.Frag) (g : G) (D : Ends) (E : EndsD) : Prop where
  nx : ∀ sl k σ H, EnvOk K g sl k σ H → E.nx sl k → D.nx σ H
  rt : ∀ d v sl k σ H, EnvOk K g sl k σ H → Rep K g.A H d g.A v → E.rt d sl k → D.rt v H
  bk : ∀ sl k σ H, EnvOk K g sl k σ H → E.bk sl k → D.bk σ H
  ct : ∀ sl k σ H, EnvOk K g sl k σ H → E.ct sl k → D.ct σ H
def tS (K : PySem.W.Frag) (t : TSd) : TS := fun D σ H => ∃ g sl k E, EnvOk K g sl k σ H ∧ Lk K g D E ∧ t E sl k
structure DS (X : Cx) (st : Stmt) (t : TSd) : Prop where
  ps : PS X st (tS X.K t)
  mono : ∀ E E' sl k, E.Le E' → t E sl k → t E' sl k
structure DSs (X : Cx) (st : List Stmt) (t : TSd) : Prop where
  pss : PSs X st (tS X.K t)
  mono : ∀ E E' sl k, E.Le E' → t E sl k → t E' sl k
def dNext : TSd := fun E sl k => E.nx sl k
def dSeq (t u : TSd) : TSd := fun E sl k => t { E with nx := u E } sl k
theorem EndsD.Le.nxs {E E' : EndsD} (l : E.Le E') {n n' : SL → Nat → Prop} (h : ∀ sl k, n sl k → n' sl k) : EndsD.Le { E with nx := n } { E' with nx := n' } := ⟨h, l.rt, l.bk, l.ct⟩
section
variable {X : Cx} {fl : Fl} {st : Stmt} {rest body orelse : List Stmt} {t u : TSd} {e c : Expr} {es : List Expr} {te : TD} {tc : TDT} {tA : TDA} {pos p py : Pos} {x y : Str} {i j : Nat}
theorem dss_nil : DSs X [] dNext := ⟨PSs.weak pss_nil fun D σ H ⟨g, sl, k, E, en, lk, q⟩ => lk.nx _ _ _ _ en q, fun E E' sl k l q => l.nx _ _ q⟩
theorem dss_cons (h1 : DS X st t) (h2 : DSs X rest u) : DSs X (st :: rest) (dSeq t u) :=
  ⟨PSs.weak (pss_cons h1.ps h2.pss) fun D σ H ⟨g, sl, k, E, en, lk, q⟩ => ⟨g, sl, k, { E with nx := u E }, en, ⟨fun sl' k' σ' H' e q => ⟨g, sl', k', E, e, lk, q⟩, lk.rt, lk.bk, lk.ct⟩, q⟩,
   fun E E' sl k l q => h1.mono _ _ _ _ (l.nxs fun sl k => h2.mono _ _ _ _ l) q⟩
theorem dss_one (h1 : DS X st t) : DSs X [st] t := ⟨pss_one h1.ps, h1.mono⟩
def dBreak : TSd := fun E sl k => E.bk sl k
def dCont : TSd := fun E sl k => E.ct sl k
def dNever : TSd := fun _ _ _ => False
theorem ds_pass : DS X (.Pass pos) dNext := ⟨PS.weak ps_pass fun D σ H ⟨g, sl, k, E, en, lk, q⟩ => lk.nx _ _ _ _ en q, fun E E' sl k l q => l.nx _ _ q⟩
theorem ds_break : DS X (.Break pos) dBreak := ⟨PS.weak ps_break fun D σ H ⟨g, sl, k, E, en, lk, q⟩ => lk.bk _ _ _ _ en q, fun E E' sl k l q => l.bk _ _ q⟩
theorem ds_continue : DS X (.Continue pos) dCont := ⟨PS.weak ps_continue fun D σ H ⟨g, sl, k, E, en, lk, q⟩ => lk.ct _ _ _ _ en q, fun E E' sl k l q => l.ct _ _ q⟩
theorem ds_never : DS X st dNever := ⟨PS.weak ps_never fun D σ H ⟨g, sl, k, E, en, lk, q⟩ => q.elim, fun _ _ _ _ _ q => q⟩
theorem dss_never : DSs X rest dNever := ⟨PSs.weak pss_never fun D σ H ⟨g, sl, k, E, en, lk, q⟩ => q.elim, fun _ _ _ _ _ q => q⟩
def dDrop (t : TD) : TSd := fun E sl k => t sl k fun _ k' => E.nx sl k'
theorem ds_expr (h : DE X fl e te) (hs : swapsWith e none pos.line X.env = pure false := by rfl) : DS X (.Expr e pos) (dDrop te) :=
  ⟨PS.weak (ps_expr h.pe hs) fun D σ H ⟨g, sl, k, E, en, lk, q⟩ => ⟨g, sl, k, en, h.mono _ _ _ _ (fun d k' q v H' B r => lk.nx _ _ _ _ B.env q) q⟩, fun E E' sl k l q => h.mono _ _ _ _ (fun _ _ => l.nx _ _) q⟩
def dRet (t : TD) : TSd := fun E sl k => t sl k fun d k' => E.rt d sl k'
theorem ds_ret (h : DE X fl e te) : DS X (.Return (some e) pos) (dRet te) := by
  refine ⟨PS.weak (ps_ret h.pe) fun D σ H ⟨g, sl, k, E, en, lk, q⟩ => ⟨g, sl, k, en, h.mono _ _ _ _ (fun d k' q v H' B r => lk.rt d v _ _ _ _ B.env ?_ q) q⟩, fun E E' sl k l q => h.mono _ _ _ _ (fun _ _ => l.rt _ _ _) q⟩
  have m1 : Mv H' H' (fl.sub g sl σ) g.A := Mv.anti fun b z => .inl (by cases fl <;> exact .inl z)
  have m2 : Mv H' H' (fl.top g sl σ) g.A := Mv.anti fun b z => .inl (by cases fl <;> exact .inl z)
  exact Rep.mv m1 d m2 r
def dRetN : TSd := fun E sl k => E.rt .non sl k
theorem ds_retN : DS X (.Return none pos) dRetN := ⟨PS.weak ps_retN fun D σ H ⟨g, sl, k, E, en, lk, q⟩ => lk.rt .non .non _ _ _ _ en rfl q, fun E E' sl k l q => l.rt _ _ _ q⟩
def dIfS (c : TDT) (t u : TSd) : TSd := fun E sl k => c sl k fun b k' => if b = true then t E sl k' else u E sl k'
theorem ds_if (hc : DT X c tc) (h1 : DSs X body t) (h2 : DSs X orelse u) : DS X (.If c body orelse pos) (dIfS tc t u) := by
  refine ⟨PS.weak (ps_if hc.pt h1.pss h2.pss) fun D σ H ⟨g, sl, k, E, en, lk, q⟩ => ⟨g, sl, k, en, hc.mono _ _ _ _ (fun b k' q H' B => ?_) q⟩, fun E E' sl k l q => hc.mono _ _ _ _ (fun b k' => mono_if (h1.mono _ _ _ _ l) (h2.mono _ _ _ _ l)) q⟩
  cases b with
  | true => exact ⟨g, sl, k', E, B.env, lk, q⟩
  | false => exact ⟨g, sl, k', E, B.env, lk, q⟩
/-- names that are changed no more -/
def dFrz (i : Nat) (t : TSd) : TSd := fun E sl k => ∃ x, sl[i]? = some (Slot.own x) ∧ t E (sl.set i (.d x)) k
theorem dss_frz (i : Nat) (h : DSs X rest t) : DSs X rest (dFrz i t) :=
  ⟨PSs.weak h.pss fun D σ H ⟨g, sl, k, E, en, lk, x, hx, q⟩ => ⟨g, _, k, E, en.freeze hx, lk, q⟩, fun E E' sl k l ⟨x, hx, q⟩ => ⟨x, hx, h.mono _ _ _ _ l q⟩⟩

/-! values for names -/
abbrev TDS := SL → Nat → (Slot → Nat → Prop) → Prop
abbrev TDSs := SL → Nat → (List Slot → Nat → Prop) → Prop
abbrev G.ext (g : G) (P : AS) : G := { g with A := fun b => g.A b ∨ P b }
def AS.rm (P : AS) (p : Addr) : AS := fun b => P b ∧ b ≠ p
/-- what a name is to hold; P: the places of new lists and dicts that are given yet -/
def SlIs (K : PySem.W.Frag) (g : G) (sl : SL) (σ : L2.St) (H : Hp) (s : Slot) (v : V) (P : AS) (R : AS → Prop) : Prop := match s with
  | .d d => Is K g sl σ H .c d v ∧ R P
  | .own d => ∃ p, v = .ref p ∧ P p ∧ OwnAt K (Av g sl σ) H d p ∧ R (P.rm p)
  | _ => False
def SlsIs (K : PySem.W.Frag) (g : G) (sl : SL) (σ : L2.St) (H : Hp) : List Slot → List V → AS → Prop
  | [], vs, _ => vs = []
  | s :: ss, vs, P => ∃ v ws, vs = v :: ws ∧ SlIs K g sl σ H s v P (SlsIs K g sl σ H ss ws)
/-- behind the making of values -/
structure Bx (K : PySem.W.Frag) (g : G) (sl : SL) (σ : L2.St) (H : Hp) (P : AS) (k' : Nat) (H' : Hp) : Prop where
  env : EnvOk K (g.ext P) sl k' σ H'
  le : LeA (PenB sl σ) H H'
  new : ∀ p, P p → H p = none
def tSl (K : PySem.W.Frag) (t : TDS) : TE := fun σ H Q => ∃ g sl k, EnvOk K g sl k σ H ∧ t sl k fun s k' => ∀ P v H', Bx K g sl σ H P k' H' → SlIs K (g.ext P) sl σ H' s v P (fun _ => True) → Q v H'
def tSls (K : PySem.W.Frag) (t : TDSs) : TA := fun σ H Q => ∃ g sl k, EnvOk K g sl k σ H ∧ t sl k fun ss k' => ∀ P vs H', Bx K g sl σ H P k' H' → SlsIs K (g.ext P) sl σ H' ss vs P → Q vs H'
structure DV (X : Cx) (e : Expr) (t : TDS) : Prop where
  pe : PE X e (tSl X.K t)
  mono : ∀ sl k P Q, (∀ d k', P d k' → Q d k') → t sl k P → t sl k Q
structure DVs (X : Cx) (es : List Expr) (t : TDSs) : Prop where
  pa : PA X es (tSls X.K t)
  mono : ∀ sl k P Q, (∀ d k', P d k' → Q d k') → t sl k P → t sl k Q
def vD (t : TD) : TDS := fun sl k Q => t sl k fun d k' => Q (.d d) k'
def isCont : D → Bool
  | .lst _ => true
  | .dK _ => true
  | .dT _ => true
  | _ => false
def vO (t : TD) : TDS := fun sl k Q => t sl k fun d k' => isCont d = true ∧ Q (.own d) k'
end
section
variable {K : PySem.W.Frag} {g g' : G} {sl : SL} {k : Nat} {σ : L2.St} {H H' : Hp} {P P' : AS} {i : Nat} {s : Slot} {v : V}
/-- the same context told otherwise -/
theorem EnvOk.alike (E : EnvOk K g sl k σ H) (hA : ∀ b, g'.A b ↔ g.A b) (hM : g'.M = g.M) (h0 : g'.H0 = g.H0) (hb : g'.pb = g.pb) (hn : g'.pn = g.pn) (hpa : g'.pa = g.pa := by rfl) : EnvOk K g' sl k σ H := by
  have m : Mv H H (Av g sl σ) (Av g' sl σ) := Mv.anti fun b z => .inl (z.imp (hA b).mp id)
  refine E.move m (fun _ _ _ _ _ _ h => h) (fun _ a _ _ p => ?_) (fun a _ z y => z ((hA a).mp y)) (fun a _ z => by rw [hM, h0]; exact z) (fun a _ z => by rw [hM, h0]; exact z.imp id fun z => ⟨fun y => z.1 ((hA a).mp y), z.2⟩) (by rw [hM, h0]; exact E.le) (fun b z => E.dom b ((hA b).mp z)) (fun b z => by rw [h0]; exact E.md b (by rw [← hM]; exact z)) hpa
  rw [hb, hn]
  exact p.mv m fun _ h => h
theorem EnvOk.ext0 (E : EnvOk K g sl k σ H) : EnvOk K (g.ext fun _ => False) sl k σ H := E.alike (fun b => ⟨fun z => z.elim id fun y => y.elim, .inl⟩) rfl rfl rfl rfl
theorem EnvOk.unext (E : EnvOk K (g.ext P) sl k σ H) : EnvOk K g sl k σ H := by
  have m : Mv H H (Av (g.ext P) sl σ) (Av g sl σ) := Mv.anti fun b z => .inl (z.imp .inl id)
  exact E.move m (fun _ _ _ _ _ _ h => h) (fun _ a _ _ p => p.mv m fun _ h => h) (fun a _ z y => z (.inl y)) (fun _ _ z => z) (fun a _ z => z.imp id fun z => ⟨fun y => z.1 (.inl y), z.2⟩) E.le (fun b z => E.dom b (.inl z)) E.md
/-- one name is given its value -/
theorem assign1 (E : EnvOk K (g.ext P) sl k σ H) (h0 : ∀ p, P p → g.H0 p = none ∧ ¬ g.A p) {R : AS → Prop} (r : SlIs K (g.ext P) sl σ H s v P R) :
    ∃ P', R P' ∧ (∀ b, P' b → P b) ∧ EnvOk K (g.ext P') (sl.set i s) k (σ.set i (some v)) H ∧ (∀ b, Av (g.ext P') (sl.set i s) (σ.set i (some v)) b → Av (g.ext P) sl σ b) := by
  cases s with
  | d d => exact ⟨P, r.2, fun _ z => z, E.setD r.1, fun b z => z.imp id OwnB.setD⟩
  | own d =>
    obtain ⟨p, rfl, hp, o, q⟩ := r
    have e : ∀ b, ((g.ext (P.rm p)).pls p).A b ↔ (g.ext P).A b := fun b => by
      show ((g.A b ∨ (P b ∧ b ≠ p)) ∨ b = p) ↔ (g.A b ∨ P b)
      constructor
      · rintro ((z | z) | z)
        · exact .inl z
        · exact .inr z.1
        · rw [z]; exact .inr hp
      · rintro (z | z)
        · exact .inl (.inl z)
        · by_cases q : b = p
          · exact .inr q
          · exact .inl (.inr ⟨z, q⟩)
    have E2 : EnvOk K ((g.ext (P.rm p)).pls p) sl k σ H := E.alike e rfl rfl rfl rfl
    have mo : Mv H H (Av (g.ext P) sl σ) (Av ((g.ext (P.rm p)).pls p) sl σ) := Mv.anti fun b z => .inl (z.imp (e b).mp id)
    refine ⟨P.rm p, q, fun _ z => z.1, E2.setOwn (o.mv mo fun _ h => h) (h0 p hp).1 fun z => ?_, fun b z => ?_⟩
    · rcases z with z | z
      · exact (h0 p hp).2 z
      · exact z.2 rfl
    · exact (Av.setOwn z).imp (e b).mp id
  | un => exact r.elim
  | pen => exact r.elim
def setSS (sl : SL) : List Nat → List Slot → SL
  | i :: is, s :: ss => setSS (sl.set i s) is ss
  | _, _ => sl
theorem SlIs.mv {sl' : SL} {σ' : L2.St} {R R' : AS → Prop} (m : Mv H H (Av g sl σ) (Av g' sl' σ')) (hR : ∀ P, R P → R' P) (r : SlIs K g sl σ H s v P R) : SlIs K g' sl' σ' H s v P R' := by
  cases s with
  | d d => exact ⟨Rep.mv m d m r.1, hR _ r.2⟩
  | own d =>
    obtain ⟨p, e, hp, o, q⟩ := r
    exact ⟨p, e, hp, o.mv m fun _ h => h, hR _ q⟩
  | un => exact r.elim
  | pen => exact r.elim
theorem SlsIs.mv {sl' : SL} {σ' : L2.St} (m : Mv H H (Av g sl σ) (Av g' sl' σ')) : ∀ {ss : List Slot} {vs : List V} {P : AS}, SlsIs K g sl σ H ss vs P → SlsIs K g' sl' σ' H ss vs P
  | [], _, _, r => r
  | _ :: _, _, _, ⟨v, ws, e, r⟩ => ⟨v, ws, e, r.mv m fun P q => SlsIs.mv m q⟩
theorem assignN : ∀ {ss : List Slot} {vs : List V} {is : List Nat} {sl : SL} {σ : L2.St} {P : AS}, EnvOk K (g.ext P) sl k σ H → (∀ p, P p → g.H0 p = none ∧ ¬ g.A p) → SlsIs K (g.ext P) sl σ H ss vs P → EnvOk K g (setSS sl is ss) k (setN σ is vs) H
  | [], _, [], _, _, _, E, _, _ => E.unext
  | [], _, _ :: _, _, _, _, E, _, r => by rw [show _ = [] from r]; exact E.unext
  | _ :: _, _, [], _, _, _, E, _, _ => E.unext
  | s :: ss, _, i :: is, sl, σ, P, E, h0, ⟨v, ws, e, r⟩ => by
    subst e
    obtain ⟨P', q, hP, E', av⟩ := assign1 (i := i) E h0 r
    show EnvOk K g (setSS (sl.set i s) is ss) k (setN (σ.set i (some v)) is ws) H
    exact assignN (ss := ss) E' (fun p z => h0 p (hP p z)) (SlsIs.mv (Mv.anti fun b z => .inl (av b z)) q)
end
section
variable {X : Cx} {fl : Fl} {st : Stmt} {rest body orelse : List Stmt} {t u : TSd} {e c : Expr} {es : List Expr} {te : TD} {tv : TDS} {tvs : TDSs} {tc : TDT} {tA : TDA} {pos p py : Pos} {x y : Str} {i j : Nat}
theorem Bh.bx0 {K : PySem.W.Frag} {g : G} {sl : SL} {σ : L2.St} {H : Hp} {k' : Nat} {H' : Hp} (B : Bh K g sl σ H k' H') : Bx K g sl σ H (fun _ => False) k' H' := ⟨B.env.ext0, B.le, fun _ z => z.elim⟩
theorem dv_d (h : DE X .c e te) : DV X e (vD te) := by
  refine ⟨PE.weak h.pe fun σ H Q ⟨g, sl, k, E, q⟩ => ⟨g, sl, k, E, h.mono _ _ _ _ (fun d k' q v H' B r => q _ v H' B.bx0 ⟨?_, trivial⟩) q⟩, fun sl k P Q hh q => h.mono _ _ _ _ (fun d k' => hh _ _) q⟩
  have m : Mv H' H' (Av g sl σ) (Av (g.ext fun _ => False) sl σ) := Mv.anti fun b z => .inl (z.imp (fun z => z.elim id fun y => y.elim) id)
  exact Rep.mv m d m r
theorem NewRep.own {K : PySem.W.Frag} {S : AS} {H H' : Hp} {d : D} {v : V} (n : NewRep K S H H' d v) (hc : isCont d = true) : ∃ p, v = .ref p ∧ H p = none ∧ OwnAt K (Pls S p) H' d p := by
  cases d <;> first | cases hc | skip
  · obtain ⟨p, vs, e, hp, q, r⟩ := n; exact ⟨p, e, hp, vs, q, r⟩
  · obtain ⟨p, vs, e, hp, q, r⟩ := n; exact ⟨p, e, hp, vs, q, r⟩
  · obtain ⟨p, vs, e, hp, q, r⟩ := n; exact ⟨p, e, hp, vs, q, r⟩
theorem dv_o (h : DN X .c e te) : DV X e (vO te) := by
  refine ⟨PE.weak h.pe fun σ H Q ⟨g, sl, k, E, q⟩ => ⟨g, sl, k, E, h.mono _ _ _ _ (fun d k' ⟨hc, q⟩ v H' B n => ?_) q⟩, fun sl k P Q hh q => h.mono _ _ _ _ (fun d k' ⟨hc, q⟩ => ⟨hc, hh _ _ q⟩) q⟩
  obtain ⟨p, e, hp, o⟩ := n.own hc
  have Ep := E.pls B.env hp B.le o.ne
  refine q (fun b => b = p) v H' ⟨Ep, B.le, fun b z => by rw [z]; exact hp⟩ ⟨p, e, rfl, o.mv (Mv.anti fun b z => .inl (Av.pls z)) fun _ h => h, trivial⟩
def vNil : TDSs := fun _ k Q => Q [] k
def vCons (t : TDS) (u : TDSs) : TDSs := fun sl k Q => t sl k fun s k1 => u sl k1 fun ss k2 => Q (s :: ss) k2
theorem dvs_nil : DVs X [] vNil := ⟨PA.weak pa_nil fun σ H Q ⟨g, sl, k, E, q⟩ => q _ [] H (Bh.refl E).bx0 rfl, fun _ _ _ _ h q => h _ _ q⟩
theorem SlIs.le {K : PySem.W.Frag} {g : G} {sl : SL} {σ : L2.St} {H H2 : Hp} {P1 P2 : AS} {k1 : Nat} {s : Slot} {v : V} {R R' : AS → Prop} (E1 : EnvOk K (g.ext P1) sl k1 σ H) (hP : ∀ b, P1 b → H b ≠ none) (h0 : ∀ b, P1 b → g.H0 b = none) (l : LeA (PenB sl σ) H H2) (h2 : ∀ p, P2 p → H p = none)
    (hR : ∀ P, R P → ∀ P', (∀ b, P b → P' b) → (∀ b, P2 b → P' b) → R' P') (r : SlIs K (g.ext P1) sl σ H s v P1 R) : SlIs K (g.ext fun b => P1 b ∨ P2 b) sl σ H2 s v (fun b => P1 b ∨ P2 b) R' := by
  have m : Mv H H2 (Av (g.ext P1) sl σ) (Av (g.ext fun b => P1 b ∨ P2 b) sl σ) := Mv.le l (fun b z => .inr z.own) fun b z => by
    rcases z with (z | z | z) | z
    · exact .inl (.inl (.inl z))
    · exact .inl (.inl (.inr z))
    · exact .inr (h2 b z)
    · exact .inl (.inr z)
  cases s with
  | d d => exact ⟨Rep.mv m d m r.1, hR _ r.2 _ (fun _ z => .inl z) fun _ z => .inr z⟩
  | own d =>
    obtain ⟨p, e, hp, o, q⟩ := r
    refine ⟨p, e, .inl hp, o.mv m fun u h => ?_, hR _ q _ (fun b z => ⟨.inl z.1, z.2⟩) fun b z => ⟨.inr z, fun y => hP p hp (by rw [← y]; exact h2 b z)⟩⟩
    rcases l p u h with h | ⟨z, _⟩
    · exact h
    · obtain ⟨j, z1, z2⟩ := z
      obtain ⟨a, q1, _, w⟩ := E1.pen j z1
      rw [z2] at q1; cases q1
      rcases w with w | w
      · exact absurd (h0 p hp) (E1.md p w)
      · exact absurd (Or.inr hp) w.1
  | un => exact r.elim
  | pen => exact r.elim
theorem SlsIs.up {K : PySem.W.Frag} {g : G} {sl : SL} {σ : L2.St} {H : Hp} : ∀ {ss : List Slot} {vs : List V} {P P' : AS}, (∀ b, P b → P' b) → SlsIs K g sl σ H ss vs P → SlsIs K g sl σ H ss vs P'
  | [], _, _, _, _, r => r
  | s :: ss, _, P, P', h, ⟨v, ws, e, r⟩ => by
    refine ⟨v, ws, e, ?_⟩
    cases s with
    | d d => exact ⟨r.1, SlsIs.up h r.2⟩
    | own d =>
      obtain ⟨p, e, hp, o, q⟩ := r
      exact ⟨p, e, h p hp, o, SlsIs.up (fun b z => ⟨h b z.1, z.2⟩) q⟩
    | un => exact r.elim
    | pen => exact r.elim
theorem dvs_cons (h1 : DV X e tv) (h2 : DVs X es tvs) (hs : starEach (e :: es) X.env = (false, eval e X.env) :: starEach es X.env := by rfl) : DVs X (e :: es) (vCons tv tvs) := by
  refine ⟨PA.weak (pa_cons h1.pe h2.pa hs) fun σ H Q ⟨g, sl, k, E, q⟩ => ⟨g, sl, k, E, h1.mono _ _ _ _ (fun s k1 q P1 v H1 B1 r1 => ?_) q⟩, fun sl k P Q hh q => h1.mono _ _ _ _ (fun x k1 => h2.mono _ _ _ _ fun xs k2 => hh _ _) q⟩
  refine ⟨g.ext P1, sl, k1, B1.env, h2.mono _ _ _ _ (fun ss k2 q P2 vs H2 B2 r2 => ?_) q⟩
  have hP1 : ∀ b, P1 b → H1 b ≠ none := fun b z => B1.env.dom b (.inr z)
  have h01 : ∀ b, P1 b → g.H0 b = none := fun b z => E.le.nn (B1.new b z)
  have e : ∀ b, (g.ext fun b => P1 b ∨ P2 b).A b ↔ ((g.ext P1).ext P2).A b := fun b => by
    show (g.A b ∨ (P1 b ∨ P2 b)) ↔ ((g.A b ∨ P1 b) ∨ P2 b)
    rw [or_assoc]
  have mo : Mv H2 H2 (Av ((g.ext P1).ext P2) sl σ) (Av (g.ext fun b => P1 b ∨ P2 b) sl σ) := Mv.anti fun b z => .inl (z.imp (e b).mp id)
  refine q (fun b => P1 b ∨ P2 b) _ H2 ⟨B2.env.alike e rfl rfl rfl rfl, B1.le.trans B2.le, fun b z => z.elim (B1.new b) fun z => B1.le.nn (B2.new b z)⟩ ⟨v, vs, rfl, ?_⟩
  have r2' := SlsIs.mv mo r2
  exact r1.le B1.env hP1 h01 B2.le B2.new fun P _ P' _ h => SlsIs.up h r2'
/-! x = value -/
def dSet (i : Nat) (t : TDS) : TSd := fun E sl k => t sl k fun s k' => E.nx (sl.set i s) k'
theorem setn1 {σ : L2.St} {v : V} : setN σ [i] [v] = σ.set i (some v) := rfl
theorem asg_core {te' : TE} {D : Ends} {σ : L2.St} {H : Hp} (hm : ∀ sl k P Q, (∀ d k', P d k' → Q d k') → tv sl k P → tv sl k Q) (h : ∀ σ H Q, tSl X.K tv σ H Q → te' σ H Q) (q : tS X.K (dSet i tv) D σ H) : tAsg te' (gName i) D σ H := by
  obtain ⟨g, sl, k, E, en, lk, q⟩ := q
  refine h σ H _ ⟨g, sl, k, en, hm _ _ _ _ (fun s k' q P v H' B r => ?_) q⟩
  obtain ⟨P', _, _, E', _⟩ := assign1 (i := i) (R := fun _ => True) B.env (fun p hp => ⟨en.le.nn (B.new p hp), fun z => en.dom p z (B.new p hp)⟩) r
  exact lk.nx _ _ _ _ E'.unext q
theorem dset_mono (hm : ∀ sl k P Q, (∀ d k', P d k' → Q d k') → tv sl k P → tv sl k Q) : ∀ E E' sl k, E.Le E' → (dSet i tv) E sl k → (dSet i tv) E' sl k := fun E E' sl k l q => hm _ _ _ _ (fun s k' => l.nx _ _) q
theorem ds_set {pos' : Pos} (hN : X.N.Nodup) (hi : X.N[i]? = some x) (hx : Loc X.env.scope x) (h : DV X e tv) (hs : swapsWith e (some (.Name x pos')) pos.line X.env = pure false := by rfl) (hf : X.fn x = true ∨ X.env.scope.names.lookup x = some .local := by first | exact .inl rfl | exact .inr rfl | assumption) :
    DS X (.Assign [.Name x pos'] e pos) (dSet i tv) :=
  ⟨PS.weak (L2.ps_set hN hi hx h.pe hs hf) fun D σ H q => asg_core h.mono (fun _ _ _ z => z) q, dset_mono h.mono⟩
theorem ds_setLc {elt tg iter : Expr} {ifs : List Expr} {scope : Scope} {own : List (Str × Nat)} {lpos : Pos} {ti : TDA} {tgd : TDG} {tt : TDT} {te : TD} {is : List Nat} {wr : TD → TDS} (hw : ∀ σ H Q t, tSl X.K (wr t) σ H Q → (∀ sl k P Q, (∀ d k', P d k' → Q d k') → t sl k P → t sl k Q) → tDN X.K .c t σ H Q)
    (hwm : ∀ t : TD, (∀ sl k P Q, (∀ d k', P d k' → Q d k') → t sl k P → t sl k Q) → ∀ sl k P Q, (∀ d k', P d k' → Q d k') → (wr t) sl k P → (wr t) sl k Q)
    (hc : X.calm = true) (hN : X.N.Nodup) (hy : X.N[i]? = some y) (hyl : X.env.scope.names.lookup y = some .local) (hsw : swapsWith (.ListComp elt [⟨tg, iter, ifs, 0⟩] scope lpos) (some (.Name y py)) pos.line X.env = pure true)
    (L : LcOk X elt tg iter ifs scope own is ti tgd tt te) (ne : Shared) (hs : ∀ x, foldedSetIterable iter X.env x = pure x := by intro _; rfl) :
    DS X (.Assign [.Name y py] (.ListComp elt [⟨tg, iter, ifs, 0⟩] scope lpos) pos) (dSet i (wr (dLc ti tgd tt te (own.map (·.2))))) := by
  have mg := (L.hg ne (fun _ => none) 0 [] []).mono
  have mt := (L.ht ne (fun _ => none) 0 [] []).mono
  have me := (L.he ne (fun _ => none) 0 [] []).mono
  have ml := lc_mono L.hi.mono mg mt me (vs := own.map (·.2))
  refine ⟨PS.weak (ps_setLc (g := tG X.K is tgd) (tt := tDT X.K tt) (te := tD X.K .c te) hc hN hy hyl hsw L.hi.pi L.ok (fun s H C cl fp => (L.hg s H C cl fp).pg) (fun s H C cl fp => (L.ht s H C cl fp).pts) (fun s H C cl fp => (L.he s H C cl fp).pe) hs) fun D σ H q => ?_, dset_mono (hwm _ ml)⟩
  exact asg_core (hwm _ ml) (fun σ H Q z => lc_read L.hi.mono mg mt me L.sub (hw σ H Q _ z ml)) q
theorem wr_d {σ : L2.St} {H : Hp} {Q : VK} {t : TD} (z : tSl X.K (vD t) σ H Q) (hm : ∀ sl k P Q, (∀ d k', P d k' → Q d k') → t sl k P → t sl k Q) : tDN X.K .c t σ H Q := by
  obtain ⟨g, sl, k, E, q⟩ := z
  refine ⟨g, sl, k, E, hm _ _ _ _ (fun d k' q v H' B n => q _ v H' B.bx0 ⟨?_, trivial⟩) q⟩
  have r : Rep X.K (Av g sl σ) H' d (Av g sl σ) v := n.rep fun b z => E.avdom z
  have m : Mv H' H' (Av g sl σ) (Av (g.ext fun _ => False) sl σ) := Mv.anti fun b z => .inl (z.imp (fun z => z.elim id fun y => y.elim) id)
  exact Rep.mv m d m r
theorem wr_o {σ : L2.St} {H : Hp} {Q : VK} {t : TD} (z : tSl X.K (vO t) σ H Q) (hm : ∀ sl k P Q, (∀ d k', P d k' → Q d k') → t sl k P → t sl k Q) : tDN X.K .c t σ H Q := by
  obtain ⟨g, sl, k, E, q⟩ := z
  refine ⟨g, sl, k, E, hm _ _ _ _ (fun d k' ⟨hc, q⟩ v H' B n => ?_) q⟩
  obtain ⟨p, e, hp, o⟩ := n.own hc
  have Ep := E.pls B.env hp B.le o.ne
  exact q (fun b => b = p) v H' ⟨Ep, B.le, fun b z => by rw [z]; exact hp⟩ ⟨p, e, rfl, o.mv (Mv.anti fun b z => .inl (Av.pls z)) fun _ h => h, trivial⟩
theorem wm_d (t : TD) (hm : ∀ sl k P Q, (∀ d k', P d k' → Q d k') → t sl k P → t sl k Q) : ∀ sl k P Q, (∀ d k', P d k' → Q d k') → (vD t) sl k P → (vD t) sl k Q := fun sl k P Q h q => hm _ _ _ _ (fun d k' => h _ _) q
theorem wm_o (t : TD) (hm : ∀ sl k P Q, (∀ d k', P d k' → Q d k') → t sl k P → t sl k Q) : ∀ sl k P Q, (∀ d k', P d k' → Q d k') → (vO t) sl k P → (vO t) sl k Q := fun sl k P Q h q => hm _ _ _ _ (fun d k' z => ⟨z.1, h _ _ z.2⟩) q
/-! a, b = x, y -/
def dPar (is : List Nat) (t : TDSs) : TSd := fun E sl k => t sl k fun ss k' => ss.length = is.length ∧ E.nx (setSS sl is ss) k'
theorem dpar_mono {is : List Nat} (hm : ∀ sl k P Q, (∀ d k', P d k' → Q d k') → tvs sl k P → tvs sl k Q) : ∀ E E' sl k, E.Le E' → (dPar is tvs) E sl k → (dPar is tvs) E' sl k := fun E E' sl k l q => hm _ _ _ _ (fun s k' z => ⟨z.1, l.nx _ _ z.2⟩) q
theorem SlsIs.length {K : PySem.W.Frag} {g : G} {sl : SL} {σ : L2.St} {H : Hp} : ∀ {ss : List Slot} {vs : List V} {P : AS}, SlsIs K g sl σ H ss vs P → ss.length = vs.length
  | [], _, _, r => by
    rw [show _ = [] from r]
    rfl
  | s :: ss, _, P, ⟨v, ws, e, r⟩ => by
    subst e
    rw [List.length_cons, List.length_cons]
    cases s with
    | d d => rw [SlsIs.length r.2]
    | own d =>
      obtain ⟨p, e, hp, o, q⟩ := r
      rw [SlsIs.length q]
    | un => exact r.elim
    | pen => exact r.elim
theorem par_core {is : List Nat} {D : Ends} {σ : L2.St} {H : Hp} (h : DVs X es tvs) (q : tS X.K (dPar is tvs) D σ H) : tSls X.K tvs σ H fun vs H1 => vs.length = is.length ∧ D.nx (setN σ is vs) H1 ∧ ∀ T, H1 T = none → D.nx (setN σ is vs) (upd H1 T (.tup vs)) := by
  obtain ⟨g, sl, k, E, en, lk, q⟩ := q
  refine ⟨g, sl, k, en, h.mono _ _ _ _ (fun ss k' ⟨hl, q⟩ P vs H' B r => ?_) q⟩
  have E' := assignN (is := is) B.env (fun p hp => ⟨en.le.nn (B.new p hp), fun z => en.dom p z (B.new p hp)⟩) r
  exact ⟨by rw [← r.length]; exact hl, lk.nx _ _ _ _ E' q, fun T hT => lk.nx _ _ _ _ (E'.new hT) q⟩
theorem PA.mono' {K : PySem.W.Frag} (hm : ∀ sl k P Q, (∀ d k', P d k' → Q d k') → tvs sl k P → tvs sl k Q) {σ : L2.St} {H : Hp} {Q Q' : List V → Hp → Prop} (h : tSls K tvs σ H Q) (hq : ∀ vs H', Q vs H' → Q' vs H') : tSls K tvs σ H Q' := by
  obtain ⟨g, sl, k, E, q⟩ := h
  exact ⟨g, sl, k, E, hm _ _ _ _ (fun ss k' q P vs H' B r => hq _ _ (q P vs H' B r)) q⟩
theorem ds_par2 {a b : Expr} {px pt : Pos} {kt k2 pt2} (hc : X.calm = true) (hN : X.N.Nodup) (hi : X.N[i]? = some x) (hj : X.N[j]? = some y) (hij : i ≠ j) (hx : X.env.scope.names.lookup x = some .local) (hy : X.env.scope.names.lookup y = some .local) (h : DVs X [a, b] tvs)
    (hw : swappedStores [.Tuple [.Name x px, .Name y py] kt pt] (.Tuple [a, b] k2 pt2) X.env = pure (some [x, y])) (hs : swapsWithSole [.Tuple [.Name x px, .Name y py] kt pt] (.Tuple [a, b] k2 pt2) pos.line X.env = pure false := by rfl) :
    DS X (.Assign [.Tuple [.Name x px, .Name y py] kt pt] (.Tuple [a, b] k2 pt2) pos) (dPar [i, j] tvs) := by
  refine ⟨PS.weak (ps_par hc hN hi hj hij hx hy h.pa hw hs) fun D σ H q => PA.mono' h.mono (par_core h q) fun vs H1 ⟨hl, q, _⟩ => ?_, dpar_mono h.mono⟩
  match vs, hl with
  | [v, w], _ => exact ⟨v, w, rfl, q⟩
theorem ds_par3 {l : Nat} {z : Str} {a b c : Expr} {px pz pt : Pos} {kt k2 pt2} (hc : X.calm = true) (hN : X.N.Nodup) (hi : X.N[i]? = some x) (hj : X.N[j]? = some y) (hl : X.N[l]? = some z) (hij : i ≠ j) (hil : i ≠ l) (hjl : j ≠ l)
    (hx : X.env.scope.names.lookup x = some .local) (hy : X.env.scope.names.lookup y = some .local) (hz : X.env.scope.names.lookup z = some .local) (h : DVs X [a, b, c] tvs)
    (hw : swappedStores [.Tuple [.Name x px, .Name y py, .Name z pz] kt pt] (.Tuple [a, b, c] k2 pt2) X.env = pure (some [x, y, z])) (hs : swapsWithSole [.Tuple [.Name x px, .Name y py, .Name z pz] kt pt] (.Tuple [a, b, c] k2 pt2) pos.line X.env = pure false := by rfl) :
    DS X (.Assign [.Tuple [.Name x px, .Name y py, .Name z pz] kt pt] (.Tuple [a, b, c] k2 pt2) pos) (dPar [i, j, l] tvs) := by
  refine ⟨PS.weak (ps_par3 hc hN hi hj hl hij hil hjl hx hy hz h.pa hw hs) fun D σ H q => PA.mono' h.mono (par_core h q) fun vs H1 ⟨hl, q, _⟩ => ?_, dpar_mono h.mono⟩
  match vs, hl with
  | [v, w, u], _ => exact ⟨v, w, u, rfl, q⟩
/-- plain names one by one -/
def gNames : List Nat → TGs
  | [] => gNil
  | i :: is => gCons (gName i) (gNames is)
theorem gNames_ok : ∀ {is : List Nat} {vs : List V} {σ : L2.St} {H : Hp} {Q : L2.St → Hp → Prop}, vs.length = is.length → Q (setN σ is vs) H → gNames is vs σ H Q
  | [], [], _, _, _, _, q => ⟨rfl, q⟩
  | i :: is, v :: vs, σ, H, Q, hl, q => ⟨v, vs, rfl, gNames_ok (is := is) (by simpa using hl) q⟩
theorem ds_parN {is : List Nat} {tgs : List Expr} {pt : Pos} {n kt k2 pt2} (hc : X.calm = true) (hg : PGs X tgs (gNames is)) (h : DVs X es tvs) (hz : is.length ≤ 1000) (hl0 : is.length = n)
    (hn : (assignEach tgs X.env).length = n := by rfl) (hst : (assignEach tgs X.env).findIdx? (·.1) = none := by rfl)
    (hs : swapsWithSole [.Tuple tgs kt pt] (.Tuple es k2 pt2) pos.line X.env = pure false := by rfl) (hw : swappedStores [.Tuple tgs kt pt] (.Tuple es k2 pt2) X.env = pure none := by rfl) (h1 : (assignEach [.Tuple tgs kt pt] X.env).map (·.2) = [assign (.Tuple tgs kt pt) X.env] := by rfl) :
    DS X (.Assign [.Tuple tgs kt pt] (.Tuple es k2 pt2) pos) (dPar is tvs) := by
  refine ⟨PS.weak (ps_asg (pe_tup h.pa) (pg_tup hc hg hn hst) hs hw h1) fun D σ H q => PA.mono' h.mono (par_core h q) fun vs H1 ⟨hl, _, q⟩ => ⟨?_, fun T hT => ?_⟩, dpar_mono h.mono⟩
  · rw [hl]; exact Nat.le_trans hz (by decide)
  · exact ⟨T, vs, rfl, .inl (.inl upd_same), by rw [hl, hl0], gNames_ok hl (q T hT)⟩
/-! a, b = value -/
def dUnp (t : TD) (g : TDG) : TSd := fun E sl k => t sl k fun d k' => g d sl fun sl' => E.nx sl' k'
theorem ds_unp {tg : Expr} {is : List Nat} {gd : TDG} (h : DE X .c e te) (hg : DG X tg is gd) (hs : swapsWithSole [tg] e pos.line X.env = pure false := by rfl) (hw : swappedStores [tg] e X.env = pure none := by rfl)
    (h1 : (assignEach [tg] X.env).map (·.2) = [assign tg X.env] := by rfl) : DS X (.Assign [tg] e pos) (dUnp te gd) := by
  refine ⟨PS.weak (ps_asg h.pe hg.pg hs hw h1) fun D σ H ⟨g, sl, k, E, en, lk, q⟩ => ⟨g, sl, k, en, h.mono _ _ _ _ (fun d k' q v H' B r => ?_) q⟩, fun E E' sl k l q => h.mono _ _ _ _ (fun d k' => hg.mono _ _ _ _ fun sl' => l.nx _ _) q⟩
  exact ⟨g, sl, k', d, B.env, r, hg.mono _ _ _ _ (fun sl' q σ' G => lk.nx _ _ _ _ G.env q) q⟩
end
end DL

/-! data layer, part h: loops, what is changed, defs -/
namespace DL
open PySem PySem.Spec PyProof.Rows L2
section
variable {X : Cx} {fl fl' : Fl} {st : Stmt} {rest body orelse : List Stmt} {t u tb : TSd} {e c tg iter o ix : Expr} {es : List Expr} {te ti' tk : TD} {ti : TDA} {tgd : TDG} {tv : TDS} {tvs : TDSs} {tc : TDT} {tA : TDA} {pos p py apos cpos : Pos} {x y : Str} {i j : Nat} {is : List Nat}
theorem EndsD.Le.loop {E E' : EndsD} (l : E.Le E') (n : SL → Nat → Prop) : EndsD.Le { E with nx := n, ct := n, bk := E.nx } { E' with nx := n, ct := n, bk := E'.nx } := ⟨fun _ _ z => z, l.rt, l.nx, fun _ _ z => z⟩
/-- W: what holds, by a measure -/
def dWhile (c : TDT) (tb : TSd) : TSd := fun E sl k => ∃ W : Nat → SL → Nat → Prop, (∃ m, W m sl k) ∧ ∀ m sl' k', W m sl' k' → c sl' k' fun b k2 => if b = true then tb { E with nx := fun s q => ∃ m', m' < m ∧ W m' s q, ct := fun s q => ∃ m', m' < m ∧ W m' s q, bk := E.nx } sl' k2 else E.nx sl' k2
theorem ds_while (hp : PassesOwn (model X.prog X.w) X.A X.env X.xe) (hc : DT X c tc) (hb : DSs X body tb) : DS X (.While c body [] pos) (dWhile tc tb) := by
  refine ⟨PS.weak (ps_while hp hc.pt hb.pss) fun D σ H ⟨g, sl, k, E, en, lk, W, ⟨m0, w0⟩, turn⟩ => ?_, fun E E' sl k l ⟨W, w0, turn⟩ => ⟨W, w0, fun m sl' k' w => hc.mono _ _ _ _ (fun b k2 => mono_if (hb.mono _ _ _ _ (l.loop _)) (l.nx _ _)) (turn m sl' k' w)⟩⟩
  refine ⟨fun m σ' H' => ∃ sl' k', EnvOk X.K g sl' k' σ' H' ∧ W m sl' k', ⟨m0, sl, k, en, w0⟩, ?_⟩
  rintro m σ' H' ⟨sl', k', en', w⟩
  refine ⟨g, sl', k', en', hc.mono _ _ _ _ (fun b k2 q H1 B => ?_) (turn m sl' k' w)⟩
  cases b with
  | true =>
    refine ⟨fun σ2 H2 => ∃ m', m' < m ∧ ∃ sl2 k2, EnvOk X.K g sl2 k2 σ2 H2 ∧ W m' sl2 k2, fun _ _ z => z, ?_⟩
    exact ⟨g, sl', k2, { E with nx := fun s q => ∃ m', m' < m ∧ W m' s q, ct := fun s q => ∃ m', m' < m ∧ W m' s q, bk := E.nx }, B.env, ⟨fun s q σ2 H2 en2 ⟨m', l, w'⟩ => ⟨m', l, s, q, en2, w'⟩, lk.rt, lk.nx, fun s q σ2 H2 en2 ⟨m', l, w'⟩ => ⟨m', l, s, q, en2, w'⟩⟩, q⟩
  | false => exact lk.nx _ _ _ _ B.env q
def dFor (ti : TDA) (tg : TDG) (tb : TSd) : TSd := fun E sl k => ti sl k fun xs k1 => ∃ I : Nat → SL → Nat → Prop, I 0 sl k1 ∧
  (∀ j x sl' k', xs[j]? = some x → I j sl' k' → tg x sl' fun sl2 => tb { E with nx := I (j + 1), ct := I (j + 1), bk := E.nx } sl2 k') ∧ ∀ sl' k', I xs.length sl' k' → E.nx sl' k'
theorem ds_for (hp : PassesOwn (model X.prog X.w) X.A X.env X.xe) (hc : X.calm = true) (hi : DI X tg iter ti) (hg : DG X tg is tgd) (hb : DSs X body tb) (hs : ∀ x, foldedSetIterable iter X.env x = pure x := by intro _; rfl) : DS X (.For tg iter body [] pos) (dFor ti tgd tb) := by
  refine ⟨PS.weak (ps_for hp hc hi.pi hg.pg hb.pss hs) fun D σ H ⟨g, sl, k, E, en, lk, q⟩ => ⟨g, sl, k, en, hi.mono _ _ _ _ (fun xs k1 ⟨I, i0, turn, fin⟩ J H1 B wk => ?_) q⟩,
    fun E E' sl k l q => hi.mono _ _ _ _ (fun xs k1 ⟨I, i0, turn, fin⟩ => ⟨I, i0, fun j x sl' k' a b => hg.mono _ _ _ _ (fun sl2 => hb.mono _ _ _ _ (l.loop _)) (turn j x sl' k' a b), fun _ _ z => l.nx _ _ (fin _ _ z)⟩) q⟩
  have E1 := B.env
  refine ⟨fun j m σ' H' => ∃ sl' k', m = xs.length - j ∧ j ≤ xs.length ∧ I j sl' k' ∧ EnvOk X.K (g.at sl σ H1) sl' k' σ' H', ⟨xs.length, sl, k1, rfl, Nat.zero_le _, i0, E1.rebase⟩, ?_⟩
  rintro j m σ' H' ⟨sl', k', rfl, hj, hI, E'⟩
  have lS : LeA (fun b => Av (g.at sl σ H1) sl' σ' b ∨ OwnB sl σ b) H1 H' := E'.le.mono fun b z => .inr z
  obtain ⟨wk1, wk2⟩ := wk (fun b => Av (g.at sl σ H1) sl' σ' b ∨ OwnB sl σ b) (fun b z => by
    rcases z with (z | z) | z
    · exact .inl (.inl z)
    · rcases (E'.ownH z).2 with z | z
      · exact .inr z
      · exact .inl (.inr z)
    · exact .inl (.inr z)) H' lS
  by_cases hlt : j < xs.length
  · obtain ⟨go, wy⟩ := wk1 j xs[j] (by simp [hlt])
    refine .inr ⟨go, fun σ2 H2 => ∃ sl2 k2, I (j + 1) sl2 k2 ∧ EnvOk X.K (g.at sl σ H1) sl2 k2 σ2 H2, fun σ2 H2 ⟨sl2, k2, a, b⟩ => ⟨xs.length - (j + 1), by omega, sl2, k2, rfl, hlt, a, b⟩, fun v H2 y => ?_⟩
    obtain ⟨sm, rv⟩ := wy v H2 y
    have E2 := E'.grow sm
    have mx : Mv H2 H2 (fun b => Av (g.at sl σ H1) sl' σ' b ∨ OwnB sl σ b) (Av (g.at sl σ H1) sl' σ') := Mv.anti fun b z => .inl (.inl z)
    refine ⟨g.at sl σ H1, sl', k', xs[j], E2, Rep.mv mx _ mx rv, hg.mono _ _ _ _ (fun sl2 q2 σ2 G2 => ?_) (turn j xs[j] sl' k' (by simp [hlt]) hI)⟩
    exact ⟨g.at sl σ H1, sl2, k', { E with nx := I (j + 1), ct := I (j + 1), bk := E.nx }, G2.env, ⟨fun s q σ3 H3 en2 z => ⟨s, q, z, en2⟩, fun d v s q σ3 H3 en2 r z => lk.rt d v s q σ3 H3 (E1.unbase en2) r z, fun s q σ3 H3 en2 z => lk.nx _ _ _ _ (E1.unbase en2) z, fun s q σ3 H3 en2 z => ⟨s, q, z, en2⟩⟩, q2⟩
  · have e : j = xs.length := by omega
    subst e
    exact .inl ⟨wk2, lk.nx _ _ _ _ (E1.unbase E') (fin _ _ hI)⟩

/-! ### what is changed -/
/-- xs.append(e) -/
def dApp (i : Nat) (te : TD) : TSd := fun E sl k => ∃ xs, sl[i]? = some (Slot.own (.lst xs)) ∧ te sl k fun d k' => xs.length < 100000 ∧ E.nx (sl.set i (.own (.lst (xs ++ [d])))) k'
theorem OwnAt.lst {K : PySem.W.Frag} {S : AS} {H : Hp} {xs : List D} {a : Addr} (o : OwnAt K S H (.lst xs) a) : ∃ vs, H a = some (.lst vs) ∧ RepL K S H xs vs := o
/-- the list at a told anew, its parts as they are -/
theorem rep_put {K : PySem.W.Frag} {g : G} {sl : SL} {σ : L2.St} {H : Hp} {a : Addr} {u u' : HO} (oa : OwnB sl σ a) (hu : H a = some u) (hm : mutb (core u)) : Mv H (upd H a u') (Av g sl σ) (Av g sl σ) := fun b z e n => by
  have ne : b ≠ a := fun q => by
    subst q
    rw [hu] at e; cases e
    exact n hm (.inr oa)
  exact ⟨⟨z, by rw [upd_ne ne]; exact e, rfl⟩, n⟩
theorem ds_append (h : DE X .c e te) (hv : PE X (.Name x py) (tVar i)) (hs : swapsWith (.Call (.Attribute (.Name x py) "append" apos) [e] [] cpos) none pos.line X.env = pure false := by rfl)
    (hbase : attributeBase (.Name x py) "append" X.env (eval (.Name x py) X.env) = eval (.Name x py) X.env := by rfl)
    (hfew : ((backTo cpos (starEach [e] X.env)).all (fun x => !x.1) && (backToKw cpos (keywordEach [] X.env)).all (fun x => x.1.isSome) && decide ([e].length + ([] : List Keyword).length + (if ([] : List Keyword).isEmpty then 0 else 1) < 30)) = true := by rfl)
    (hline : (apos.endLine == cpos.line) = true := by rfl) (hst : starEach [e] X.env = (false, eval e X.env) :: starEach [] X.env := by rfl) (hplain : (backTo cpos (starEach [] X.env)).any (·.1) = false := by rfl) :
    DS X (.Expr (.Call (.Attribute (.Name x py) "append" apos) [e] [] cpos) pos) (dApp i te) := by
  refine ⟨PS.weak (L2.ps_expr (pe_bm PySem.F.plainAttrs_list PySem.F.slot_list_append PySem.F.type_list_append mt_append hv (pa_cons h.pe pa_nil hst) hbase hfew hline hst hplain) hs) fun D σ H ⟨g, sl, k, E, en, lk, xs, hi, q⟩ => ?_,
    fun E E' sl k l ⟨xs, hi, q⟩ => ⟨xs, hi, h.mono _ _ _ _ (fun d k' ⟨z, q⟩ => ⟨z, l.nx _ _ q⟩) q⟩⟩
  obtain ⟨a, ea, o, _⟩ := en.own i _ hi
  obtain ⟨vs, ha, r⟩ := o.lst
  refine ⟨.ref a, ea, .inl ⟨rfl, vs, .inl (.inl ha)⟩, g, sl, k, en, h.mono _ _ _ _ (fun d k' ⟨hz, q⟩ v H1 B r1 => ?_) q⟩
  obtain ⟨a', ea', o', _⟩ := B.env.own i _ hi
  rw [ea] at ea'; cases ea'
  obtain ⟨vs', ha', r'⟩ := o'.lst
  have oa : OwnB sl σ a := ⟨i, _, hi, trivial, ea⟩
  have m := rep_put (K := X.K) (g := g) (u' := .lst (vs' ++ [v])) oa ha' trivial
  refine ⟨a, vs', v, rfl, rfl, ha', by rw [← r'.length]; exact Nat.lt_of_lt_of_le hz (by decide), lk.nx _ _ _ _ (B.env.put (x' := .lst (xs ++ [d])) hi ea ha' trivial trivial trivial ⟨_, upd_same, RepL.append (RepL.mv m _ r') (RepL.one (Rep.mv m d m r1))⟩) q⟩
/-- xs[i] = e -/
def dSetI (i : Nat) (tix te : TD) : TSd := fun E sl k => ∃ xs, sl[i]? = some (Slot.own (.lst xs)) ∧ te sl k fun d k1 => tix sl k1 fun n k2 => ∃ m j, n = .int m ∧ ixN xs.length m = some j ∧ E.nx (sl.set i (.own (.lst (xs.set j d)))) k2
theorem ds_seti {spos : Pos} (h : DE X .c e te) (hv : PE X (.Name x py) (tVar i)) (h2 : DE X fl ix tk)
    (ha : ∀ v, assign (.Subscript (.Name x py) ix spos) X.env v = (do
      let ov ← holding [v] (eval (.Name x py) X.env)
      let iv ← holding [v, ov] (eval ix X.env)
      standAt spos
      holding [v, ov, iv] (setItem ov iv v)
      release [v, ov, iv] []) := by intro _; rfl)
    (hs : swapsWithSole [.Subscript (.Name x py) ix spos] e pos.line X.env = pure false := by rfl) (hw : swappedStores [.Subscript (.Name x py) ix spos] e X.env = pure none := by rfl)
    (h1 : (assignEach [.Subscript (.Name x py) ix spos] X.env).map (·.2) = [assign (.Subscript (.Name x py) ix spos) X.env] := by rfl) :
    DS X (.Assign [.Subscript (.Name x py) ix spos] e pos) (dSetI i tk te) := by
  refine ⟨PS.weak (ps_asg h.pe (pg_sub hv h2.pe set_list ha) hs hw h1) fun D σ H ⟨g, sl, k, E, en, lk, xs, hi, q⟩ => ⟨g, sl, k, en, h.mono _ _ _ _ (fun d k1 q v H1 B1 r1 => ?_) q⟩,
    fun E E' sl k l ⟨xs, hi, q⟩ => ⟨xs, hi, h.mono _ _ _ _ (fun d k1 => h2.mono _ _ _ _ fun n k2 ⟨m, j, a, b, q⟩ => ⟨m, j, a, b, l.nx _ _ q⟩) q⟩⟩
  obtain ⟨a, ea, o, _⟩ := B1.env.own i _ hi
  refine ⟨.ref a, ea, g, sl, k1, B1.env, h2.mono _ _ _ _ (fun n k2 ⟨m, j, e, hj, q⟩ w H2 B2 r2 => ?_) q⟩
  subst e
  have e2 : w = .int m := r2
  subst e2
  obtain ⟨a', ea', o', _⟩ := B2.env.own i _ hi
  rw [ea] at ea'; cases ea'
  obtain ⟨vs', ha', r'⟩ := o'.lst
  have oa : OwnB sl σ a := ⟨i, _, hi, trivial, ea⟩
  have mm := rep_put (K := X.K) (g := g) (u' := .lst (vs'.set j v)) oa ha' trivial
  refine ⟨a, vs', m, j, rfl, rfl, ha', by rw [← r'.length]; exact hj, lk.nx _ _ _ _ (B2.env.put (x' := .lst (xs.set j d)) hi ea ha' trivial trivial trivial ⟨_, upd_same, RepL.set (Rep.mv mm d mm (r1.le B2.le)) j (RepL.mv mm _ r')⟩) q⟩
/-! d[k] = e -/
def putD {κ : Type} [DecidableEq κ] (kvs : List (κ × D)) (k : κ) (v : D) : List (κ × D) :=
  if (kvs.any fun kv => decide (kv.1 = k)) = true then kvs.map (fun kv => if kv.1 = k then (kv.1, v) else kv) else kvs ++ [(k, v)]
/-- the dict behind d[y] = v -/
inductive DSet : D → D → D → D → Prop where
  | k (kvs : List (Key × D)) (k : Key) (v : D) : DSet (.dK kvs) (keyD k) v (.dK (putD kvs k v))
  | t (kvs : List (List Key × D)) (k : List Key) (v : D) : DSet (.dT kvs) (.tup (k.map keyD)) v (.dT (putD kvs k v))
def dLen : D → Nat
  | .dK kvs => kvs.length
  | .dT kvs => kvs.length
  | _ => 0
def dSetK (i : Nat) (tix te : TD) : TSd := fun E sl k => ∃ d, sl[i]? = some (Slot.own d) ∧ te sl k fun v k1 => tix sl k1 fun y k2 => dLen d < 100000 ∧ ∃ d', DSet d y v d' ∧ E.nx (sl.set i (.own d')) k2
section
variable {K : PySem.W.Frag} {S : AS} {H : Hp}
theorem RepK.length : ∀ {ds : List (Key × D)} {vs : List (Key × V)}, RepK K S H ds vs → ds.length = vs.length
  | [], _, r => by
    rw [show _ = [] from r]
    rfl
  | (_, _) :: _, _, ⟨v, ws, e, r, q⟩ => by rw [e, List.length_cons, List.length_cons, RepK.length q]
theorem RepT.length : ∀ {ds : List (List Key × D)} {vs : List (List Key × V)}, RepT K S H ds vs → ds.length = vs.length
  | [], _, r => by
    rw [show _ = [] from r]
    rfl
  | (_, _) :: _, _, ⟨v, ws, e, r, q⟩ => by rw [e, List.length_cons, List.length_cons, RepT.length q]
theorem RepK.any {k : Key} : ∀ {ds : List (Key × D)} {vs : List (Key × V)}, RepK K S H ds vs → (ds.any fun kv => decide (kv.1 = k)) = (vs.any fun kv => decide (kv.1 = k))
  | [], _, r => by
    rw [show _ = [] from r]
    rfl
  | (_, _) :: _, _, ⟨v, ws, e, r, q⟩ => by rw [e, List.any_cons, List.any_cons, RepK.any q]
theorem RepT.any {k : List Key} : ∀ {ds : List (List Key × D)} {vs : List (List Key × V)}, RepT K S H ds vs → (ds.any fun kv => decide (kv.1 = k)) = (vs.any fun kv => decide (kv.1 = k))
  | [], _, r => by
    rw [show _ = [] from r]
    rfl
  | (_, _) :: _, _, ⟨v, ws, e, r, q⟩ => by rw [e, List.any_cons, List.any_cons, RepT.any q]
theorem RepK.repl {k : Key} {x : D} {w : V} (h : Rep K S H x S w) : ∀ {ds : List (Key × D)} {vs : List (Key × V)}, RepK K S H ds vs → RepK K S H (ds.map fun kv => if kv.1 = k then (kv.1, x) else kv) (vs.map fun kv => if kv.1 = k then (kv.1, w) else kv)
  | [], _, r => by
    rw [show _ = [] from r]
    rfl
  | (k', y) :: ds, _, ⟨v, ws, e, r, q⟩ => by
    subst e
    rw [List.map_cons, List.map_cons]
    by_cases z : k' = k
    · rw [if_pos z, if_pos z]
      exact ⟨w, _, rfl, h, RepK.repl h q⟩
    · rw [if_neg z, if_neg z]
      exact ⟨v, _, rfl, r, RepK.repl h q⟩
theorem RepT.repl {k : List Key} {x : D} {w : V} (h : Rep K S H x S w) : ∀ {ds : List (List Key × D)} {vs : List (List Key × V)}, RepT K S H ds vs → RepT K S H (ds.map fun kv => if kv.1 = k then (kv.1, x) else kv) (vs.map fun kv => if kv.1 = k then (kv.1, w) else kv)
  | [], _, r => by
    rw [show _ = [] from r]
    rfl
  | (k', y) :: ds, _, ⟨v, ws, e, r, q⟩ => by
    subst e
    rw [List.map_cons, List.map_cons]
    by_cases z : k' = k
    · rw [if_pos z, if_pos z]
      exact ⟨w, _, rfl, h, RepT.repl h q⟩
    · rw [if_neg z, if_neg z]
      exact ⟨v, _, rfl, r, RepT.repl h q⟩
theorem RepK.snoc {k : Key} {x : D} {w : V} (h : Rep K S H x S w) : ∀ {ds : List (Key × D)} {vs : List (Key × V)}, RepK K S H ds vs → RepK K S H (ds ++ [(k, x)]) (vs ++ [(k, w)])
  | [], _, r => by
    rw [show _ = [] from r]
    exact ⟨w, [], rfl, h, rfl⟩
  | (k', y) :: ds, _, ⟨v, ws, e, r, q⟩ => by subst e; exact ⟨v, _, rfl, r, RepK.snoc h q⟩
theorem RepT.snoc {k : List Key} {x : D} {w : V} (h : Rep K S H x S w) : ∀ {ds : List (List Key × D)} {vs : List (List Key × V)}, RepT K S H ds vs → RepT K S H (ds ++ [(k, x)]) (vs ++ [(k, w)])
  | [], _, r => by
    rw [show _ = [] from r]
    exact ⟨w, [], rfl, h, rfl⟩
  | (k', y) :: ds, _, ⟨v, ws, e, r, q⟩ => by subst e; exact ⟨v, _, rfl, r, RepT.snoc h q⟩
theorem RepK.put {k : Key} {x : D} {w : V} (h : Rep K S H x S w) {ds : List (Key × D)} {vs : List (Key × V)} (r : RepK K S H ds vs) : RepK K S H (putD ds k x) (putK vs k w) := by
  unfold putD putK
  rw [RepK.any r]
  split
  · exact RepK.repl h r
  · exact RepK.snoc h r
theorem RepT.put {k : List Key} {x : D} {w : V} (h : Rep K S H x S w) {ds : List (List Key × D)} {vs : List (List Key × V)} (r : RepT K S H ds vs) : RepT K S H (putD ds k x) (putK vs k w) := by
  unfold putD putK
  rw [RepT.any r]
  split
  · exact RepT.repl h r
  · exact RepT.snoc h r
end
theorem ds_setk {spos : Pos} (hu : X.A.units + 1 < cLine) (h : DE X .c e te) (hv : PE X (.Name x py) (tVar i)) (h2 : DE X .c ix tk) (hs : swapsWith e (some (.Subscript (.Name x py) ix spos)) pos.line X.env = pure false := by rfl) :
    DS X (.Assign [.Subscript (.Name x py) ix spos] e pos) (dSetK i tk te) := by
  refine ⟨PS.weak (ps_dput hu hv h2.pe h.pe hs) fun D σ H ⟨g, sl, k, E, en, lk, d, hi, q⟩ => ⟨g, sl, k, en, h.mono _ _ _ _ (fun v k1 q w H1 B1 r1 => ?_) q⟩,
    fun E E' sl k l ⟨d, hi, q⟩ => ⟨d, hi, h.mono _ _ _ _ (fun v k1 => h2.mono _ _ _ _ fun y k2 ⟨z, d', a, q⟩ => ⟨z, d', a, l.nx _ _ q⟩) q⟩⟩
  obtain ⟨a, ea, o, _⟩ := B1.env.own i _ hi
  refine ⟨.ref a, ea, g, sl, k1, B1.env, h2.mono _ _ _ _ (fun y k2 ⟨hz, d', hd, q⟩ u H2 B2 r2 => ?_) q⟩
  obtain ⟨a', ea', o', _⟩ := B2.env.own i _ hi
  rw [ea] at ea'; cases ea'
  have oa : OwnB sl σ a := ⟨i, _, hi, trivial, ea⟩
  have r1 := r1.le B2.le
  cases hd with
  | k kvs key v =>
    obtain ⟨ws, ha, r⟩ := (show ∃ ws, H2 a = some (.dK ws) ∧ RepK X.K (Av g sl σ) H2 kvs ws from o')
    have mm := rep_put (K := X.K) (g := g) (u' := .dK (putK ws key w)) oa ha trivial
    refine ⟨a, _, rfl, .inl ⟨ws, key, ha, keyD_rep r2, by rw [← RepK.length r]; exact Nat.lt_of_lt_of_le hz (by decide), rfl⟩, lk.nx _ _ _ _ (B2.env.put (x' := .dK (putD kvs key v)) hi ea ha trivial trivial trivial ⟨_, upd_same, RepK.put (Rep.mv mm _ mm r1) (RepK.mv mm _ r)⟩) q⟩
  | t kvs key v =>
    obtain ⟨ws, ha, r⟩ := (show ∃ ws, H2 a = some (.dT ws) ∧ RepT X.K (Av g sl σ) H2 kvs ws from o')
    have mm := rep_put (K := X.K) (g := g) (u' := .dT (putK ws key w)) oa ha trivial
    obtain ⟨b, vs, eb, tb', rb⟩ := r2
    refine ⟨a, _, rfl, .inr ⟨ws, key, b, ha, eb, by rw [← keyL_rep rb]; exact tb', by rw [← RepT.length r]; exact Nat.lt_of_lt_of_le hz (by decide), rfl⟩, lk.nx _ _ _ _ (B2.env.put (x' := .dT (putD kvs key v)) hi ea ha trivial trivial trivial ⟨_, upd_same, RepT.put (Rep.mv mm _ mm r1) (RepT.mv mm _ r)⟩) q⟩
end

/-! ### defs -/
def startS (N : List Str) (ds : List D) : SL := ds.map Slot.d ++ List.replicate (N.length - ds.length) .un
section
variable {P : Program} {w : World} {K : PySem.W.Frag} {mg : Str → Option Value} {base : Heap}
theorem start_len {N : List Str} {vs : List V} : (start N vs).length = vs.length + (N.length - vs.length) := by
  unfold L2.start
  rw [List.length_append, List.length_map, List.length_replicate]
theorem startS_d {N : List Str} {ds : List D} {i : Nat} {s : Slot} (h : (startS N ds)[i]? = some s) : (s = .un) ∨ ∃ x, ds[i]? = some x ∧ s = .d x := by
  unfold startS at h
  by_cases hi : i < ds.length
  · rw [List.getElem?_append_left (by simpa using hi), List.getElem?_map] at h
    cases e : ds[i]? with
    | none => rw [e] at h; cases h
    | some x => rw [e] at h; cases h; exact .inr ⟨x, rfl, rfl⟩
  · rw [List.getElem?_append_right (by simpa using hi), List.getElem?_replicate] at h
    split at h <;> cases h
    exact .inl rfl
theorem start_get {N : List Str} {vs : List V} {i : Nat} {v : V} (h : vs[i]? = some v) : (start N vs)[i]? = some (some v) := by
  have hi := (List.getElem?_eq_some_iff.mp h).1
  unfold L2.start
  rw [List.getElem?_append_left (by simpa using hi), List.getElem?_map, h]
  rfl
theorem start_env {A : AS} {H : Hp} {N : List Str} {ds : List D} {vs : List V} (hA : ∀ b, A b → H b ≠ none) (r : RepL K A H ds vs) : EnvOk K ⟨A, fun _ => False, H, 0, [], 0⟩ (startS N ds) 0 (start N vs) H := by
  have no : ∀ b, OwnB (startS N ds) (start N vs) b → False := fun b ⟨i, s, h1, h2, _⟩ => by
    rcases startS_d h1 with e | ⟨x, _, e⟩ <;> (subst e; exact h2)
  have m : Mv H H A (Av ⟨A, fun _ => False, H, 0, [], 0⟩ (startS N ds) (start N vs)) := Mv.anti fun b z => .inl (z.elim id fun z => (no b z).elim)
  refine ⟨by rw [start_len]; unfold startS; rw [List.length_append, List.length_map, List.length_replicate, r.length], fun i x e => ?_, fun i x e => ?_, fun i e => ?_, fun i j s t a e1 _ o1 => ?_, LeA.refl H, hA, fun b z => z.elim, fun i a e q => ?_⟩
  · rcases startS_d e with e | ⟨y, e1, e2⟩
    · cases e
    · cases e2
      obtain ⟨v, hv, rv⟩ := r.get e1
      exact ⟨v, start_get hv, Rep.mv m x m rv⟩
  · rcases startS_d e with e | ⟨y, e1, e2⟩ <;> cases ‹_›
  · rcases startS_d e with e | ⟨y, e1, e2⟩ <;> cases ‹_›
  · rcases startS_d e1 with e | ⟨y, _, e⟩ <;> (subst e; exact o1.elim)
  · rcases startS_d ‹_› with e | ⟨y, _, e⟩ <;> cases e
/-- THE RULE for a def over data -/
theorem def_ok {x qual : Str} {st : Stmt} {f : Addr} {fdt : FuncData} {N ps : List Str} {k : Nat} {fd : FD} (F : Fun K x qual st f fdt) (S : FnScope N ps (defScope st)) (len : ∀ ds Q, fd.r ds Q → ds.length = ps.length)
    (hbody : ∀ (cdv : Value) (A : Around) (outer : List Env) (s : Shared) (H : Hp) (E : XK), Room k (A.deeper (envOfC qual (defScope st) s.heap.objs.size f cdv)) → ∃ t, DSs (cxOf CX0 P w K mg base N qual (defScope st) f cdv A outer s H E).nox (defBody st) t ∧
      ∀ ds (Q : D → Prop), fd.r ds Q → t { nx := fun _ _ => Q .non, rt := fun d _ _ => Q d } (startS N ds) 0) : FnOk P w K mg base CX0 (k + 1) f fdt ps (liftSp K fd) := by
  refine F.ok S (fun vs H Q E h => ?_) fun cdv A outer s H vs Q E hr h => ?_
  · obtain ⟨A, ds, hA, r, q⟩ := h
    rw [← r.length]
    exact len ds _ q
  · obtain ⟨A', ds, hA, r, q⟩ := h
    obtain ⟨t, ht, hq⟩ := hbody cdv A outer s H E hr
    refine ⟨_, ht.pss, ⟨A', fun _ => False, H, 0, [], 0⟩, _, 0, _, start_env hA r, ?_, hq ds _ q⟩
    have sm : ∀ {sl k σ H'}, EnvOk K ⟨A', fun _ => False, H, 0, [], 0⟩ sl k σ H' → Same H H' := fun {sl k σ H'} e b o h => (e.le b o h).elim id fun z => z.1.elim
    exact ⟨fun sl k σ H' e q => q .non H' (sm e) rfl, fun d v sl k σ H' e r q => q v H' (sm e) r, fun _ _ _ _ _ q => q.elim, fun _ _ _ _ _ q => q.elim⟩
def startSP (N : List Str) (ds : List D) : SL := .pen :: (ds.map Slot.d ++ List.replicate (N.length - (ds.length + 1)) .un)
theorem startSP_d {N : List Str} {ds : List D} {i : Nat} {s : Slot} (h : (startSP N ds)[i + 1]? = some s) : (s = .un) ∨ ∃ x, ds[i]? = some x ∧ s = .d x := by
  unfold startSP at h
  rw [List.getElem?_cons_succ] at h
  by_cases hi : i < ds.length
  · rw [List.getElem?_append_left (by simpa using hi), List.getElem?_map] at h
    cases e : ds[i]? with
    | none => rw [e] at h; cases h
    | some x => rw [e] at h; cases h; exact .inr ⟨x, rfl, rfl⟩
  · rw [List.getElem?_append_right (by simpa using hi), List.getElem?_replicate] at h
    split at h <;> cases h
    exact .inl rfl
theorem start_envP {A : AS} {H : Hp} {N : List Str} {ds : List D} {ws : List V} {a pb : Addr} {pn : List Int} {k : Nat} (hA : ∀ b, A b → H b ≠ none) (ha : A a) (hp : PenAt K A H k pb pn a) (r : RepL K A H ds ws) : EnvOk K ⟨A, fun b => b = a, H, pb, pn, a⟩ (startSP N ds) k (start N (.ref a :: ws)) H := by
  have ow : ∀ (i : Nat) s, (startSP N ds)[i]? = some s → ownS s → i = 0 ∧ s = .pen := fun i s h o => by
    cases i with
    | zero => cases h; exact ⟨rfl, rfl⟩
    | succ i =>
      rcases startSP_d h with e | ⟨x, _, e⟩ <;> (subst e; exact o.elim)
  have s0 : (start N (V.ref a :: ws))[0]? = some (some (V.ref a)) := start_get rfl
  have no : ∀ b, OwnB (startSP N ds) (start N (V.ref a :: ws)) b → b = a := fun b ⟨i, s, h1, h2, h3⟩ => by
    obtain ⟨e, _⟩ := ow i s h1 h2
    subst e
    rw [s0] at h3; cases h3; rfl
  have m : Mv H H A (Av ⟨A, fun b => b = a, H, pb, pn, a⟩ (startSP N ds) (start N (V.ref a :: ws))) := Mv.anti fun b z => .inl (z.elim id fun z => no b z ▸ ha)
  refine ⟨?_, fun i x e => ?_, fun i x e => ?_, fun i e => ?_, fun i j s t b e1 e2 o1 o2 _ _ => ?_, LeA.refl H, hA, fun b z => ?_, fun i b e q => ?_⟩
  · rw [start_len]; unfold startSP; rw [List.length_cons, List.length_append, List.length_map, List.length_replicate, List.length_cons, r.length]; omega
  · cases i with
    | zero => cases e
    | succ i =>
      rcases startSP_d e with e | ⟨y, e1, e2⟩
      · cases e
      · cases e2
        obtain ⟨v, hv, rv⟩ := r.get e1
        exact ⟨v, start_get (by rw [List.getElem?_cons_succ]; exact hv), Rep.mv m x m rv⟩
  · have := (ow i _ e trivial).2
    cases this
  · obtain ⟨e0, _⟩ := ow i _ e trivial
    subst e0
    exact ⟨a, s0, hp.mv m fun _ h => h, .inl rfl⟩
  · rw [(ow i s e1 o1).1, (ow j t e2 o2).1]
  · have : b = a := z
    subst this
    exact hA _ ha
  · obtain ⟨e0, _⟩ := ow i _ e trivial
    subst e0
    rw [s0] at q; cases q; rfl
/-- THE RULE for a def over data whose first parameter is the pen -/
theorem def_okP {x qual : Str} {st : Stmt} {f : Addr} {fdt : FuncData} {N ps : List Str} {k : Nat} {fp : FP} (F : Fun K x qual st f fdt) (S : FnScope N ps (defScope st)) (len : ∀ k ds Q, fp.r k ds Q → ds.length + 1 = ps.length)
    (hbody : ∀ (cdv : Value) (A : Around) (outer : List Env) (s : Shared) (H : Hp) (E : XK), Room k (A.deeper (envOfC qual (defScope st) s.heap.objs.size f cdv)) → ∃ t, DSs (cxOf CX0 P w K mg base N qual (defScope st) f cdv A outer s H E).nox (defBody st) t ∧
      ∀ k ds (Q : D → Nat → Prop), fp.r k ds Q → t { nx := fun sl k' => sl[0]? = some .pen ∧ Q .non k', rt := fun d sl k' => sl[0]? = some .pen ∧ Q d k' } (startSP N ds) k) : FnOk P w K mg base CX0 (k + 1) f fdt ps (liftSpP K fp) := by
  refine F.ok S (fun vs H Q E h => ?_) fun cdv A outer s H vs Q E hr h => ?_
  · obtain ⟨A, ds, a, ws, k, pb, pn, e, ha, hA, hp, r, q⟩ := h
    subst e
    rw [List.length_cons, ← r.length]
    exact len k ds _ q
  · obtain ⟨A', ds, a, ws, k1, pb, pn, e, ha, hA, hp, r, q⟩ := h
    subst e
    obtain ⟨t, ht, hq⟩ := hbody cdv A outer s H E hr
    refine ⟨_, ht.pss, ⟨A', fun b => b = a, H, pb, pn, a⟩, _, k1, _, start_envP hA ha hp r, ?_, hq k1 ds _ q⟩
    have pen : ∀ {sl k σ H'}, EnvOk K ⟨A', fun b => b = a, H, pb, pn, a⟩ sl k σ H' → sl[0]? = some Slot.pen → PenAt K A' H' k pb pn a := fun {sl k σ H'} e h => by
      obtain ⟨a', q1, q2, _⟩ := e.pen 0 h
      have : a = a' := e.pa 0 a' h q1
      subst this
      exact q2.mv (Mv.anti fun b z => .inl (.inl z)) fun _ h => h
    exact ⟨fun sl k σ H' e q => q.2 .non H' e.le (pen e q.1) rfl, fun d v sl k σ H' e r q => q.2 v H' e.le (pen e q.1) r, fun _ _ _ _ _ q => q.elim, fun _ _ _ _ _ q => q.elim⟩
end
end DL

/-! data layer, part i: enumerate of a tuple, isinstance, chains, constants -/
namespace PySem
open Sem (wp)
set_option maxHeartbeats 1000000 in
theorem meets_enumerate_new1B {v : Value} {o : Obj} {H : Heap → Prop} (B : Begins v o H) :
    Meets (Builtin.«enumerate.__new__» ⟨[.type "enumerate", v], []⟩) (fun _ R s => H s.heap ∧
      R (.ok (.ret (.ref (s.heap.push o).objs.size))) { s with heap := (s.heap.push o).push { cls := .type "enumerate", data := .fields #[.none, .bool false, .ref s.heap.objs.size, rawInt 0, .none, .none] } }) :=
  .of_wp fun prog w A R s h => by
    obtain ⟨hp, g, d, tk, os⟩ := s; obtain ⟨h1, h⟩ := h
    have hsub := sub_enumerate
    have q1 : ∀ {A' : Around} {E : Value → Shared → Prop} {Q : Value → Shared → Prop}, Q (.ref hp.objs.size) ⟨hp.push o, g, d, tk, os⟩ → wpAny (model prog w) A' (pyIter v) Q E ⟨hp, g, d, tk, os⟩ :=
      fun q => B.iter prog w _ _ ⟨hp, g, d, tk, os⟩ _ h1 q
    wp_walk using q1
    refine wpAny_stack_any fun st => wpAny_pure ?_
    split
    · rename_i c _ _ _ _ _
      cases (c == Value.type "enumerate")
      · wp_walk using q1
        exact ⟨_, rfl, h⟩
      · wp_walk using q1
        exact ⟨_, rfl, h⟩
    · wp_walk using q1
      exact ⟨_, rfl, h⟩
theorem call_enumerate_tup {prog : Program} {w : World} {A : Around} {E : Value → Shared → Prop} {s : Shared} {l : Addr} {items : Array Value} {Q : Value → Shared → Prop} (hL : s.heap.IsTuple l items)
    (h : ∀ h', IsEnum h' (s.heap.objs.size + 1) s.heap.objs.size 0 .none → h'.IsTupleIter s.heap.objs.size l 0 → h'.objs.size = s.heap.objs.size + 2 →
      (∀ b o, s.heap.get? b = some o → h'.get? b = some o) → Q (.ref (s.heap.objs.size + 1)) { s with heap := h' }) :
    wpAny (model prog w) A (call (.type "enumerate") [.ref l]) Q E s := by
  refine callType_new F.called_enumerate (by decide) (F.typeCall_enumerate_1 _) (F.newCall_enumerate_1 _) (fun obj => F.args_object_init_2 obj _) F.entry_enumerate_new
    (meets_enumerate_new1B (begins_tuple l items)) ⟨hL, ?_⟩
  have hz : (s.heap.push { cls := .type "tuple_iterator", data := .fields #[.ref l, .int 0 0] }).objs.size = s.heap.objs.size + 1 := Heap.size_push ..
  show _ ∧ _
  rw [hz]
  have he : IsEnum ((s.heap.push { cls := .type "tuple_iterator", data := .fields #[.ref l, .int 0 0] }).push
      { cls := .type "enumerate", data := .fields #[.none, .bool false, .ref s.heap.objs.size, rawInt 0, .none, .none] }) (s.heap.objs.size + 1) s.heap.objs.size 0 .none := by
    have := Heap.get?_push_size (s.heap.push { cls := .type "tuple_iterator", data := .fields #[.ref l, .int 0 0] })
      (o := { cls := .type "enumerate", data := .fields #[.none, .bool false, .ref s.heap.objs.size, rawInt 0, .none, .none] }) rfl
    rw [hz] at this; exact this
  refine ⟨⟨_, he, rfl⟩, h _ he ⟨_, Heap.get?_push_of_some _ (Heap.get?_push_size _ rfl), rfl, rfl⟩ (by rw [Heap.size_push, hz]) fun b o x => Heap.get?_push_of_some _ (Heap.get?_push_of_some _ x)⟩
end PySem
namespace DL
open PySem PySem.Spec PyProof.Rows L2
/-- enumerate(a tuple) -/
def IteT (K : PySem.W.Frag) (a : Addr) : It :=
  ⟨fun i H => ∃ (xs : List V) (x : V), SqT K H a xs ∧ xs[i]? = some x, fun i H v H' => ∃ T x, v = .ref T ∧ H T = none ∧ H' = upd H T (.tup [.int (i : Nat), x]) ∧ ∀ xs, SqT K H a xs → xs[i]? = some x, fun i H => ∃ xs : List V, SqT K H a xs ∧ xs.length = i⟩
theorem turn_enumT {P : Program} {w : World} {K : PySem.W.Frag} {elts : List Expr} {kk : Nat} {tpos : Pos} (a e it : Addr) :
    Turn P w K (.Tuple elts kk tpos) (IteT K a) [e, it] e (fun i h => (∃ old, IsEnum h e it ((i : Nat) : Int) old) ∧ h.IsTupleIter it a i ∧ e ≠ it ∧ e ≠ a ∧ a ≠ it) where
  mem := by simp
  obj := fun i h st b hb => by
    obtain ⟨⟨old, he⟩, ⟨o, ho, hc, hd⟩, _⟩ := st
    have e' : b = e ∨ b = it := by simpa using hb
    rcases e' with z | z
    · rw [z]; exact ⟨_, he, fun v q => nomatch q⟩
    · rw [z]; exact ⟨o, ho, fun v q => by rw [hd] at q; cases q⟩
  keep := fun i h h' st k => let ⟨⟨old, he⟩, hi, hne⟩ := st; ⟨⟨old, k e (by simp) _ he⟩, hi.at fun o q => k it (by simp) o q, hne⟩
  item := by
    intro X hP hw hK hc i pins s σ H E I hf st hg
    subst hP hw hK
    obtain ⟨⟨old, he⟩, hit, hne, hea, hai⟩ := st
    obtain ⟨xs, x, hq, hx⟩ := hg
    obtain ⟨its, rv, p, hz⟩ := I.tuple hq
    obtain ⟨u, hu, ru⟩ := rv.get hx
    have hel : e < s.heap.objs.size := Heap.lt_size he
    have hil : it < s.heap.objs.size := by obtain ⟨_, q, _⟩ := hit; exact Heap.lt_size q
    have D := Draws.tuple (prog := X.prog) (w := X.w) (A := X.A.in1) (show X.A.in1.handled = none from I.ok.hd hc) it a hai its.toArray
    have hlt : i < its.toArray.size := by
      have := (List.getElem?_eq_some_iff.mp hu).1
      simpa using this
    refine wpAny_pyNext_enum_itemC D he ⟨hit, show s.heap.IsTuple a its.toArray from p⟩ hlt hne (by simp [hne, hea]) fun x' h' tk hx' ho hit' hT hsz hk => ?_
    have ex : x' = u := by
      have h1 : its[i]? = some x' := by simpa using hx'
      rw [hu] at h1; exact (Option.some.inj h1).symm
    subst ex
    refine ⟨_, rfl, wpAny_letOwnedTupleGo_enum (s := { s with heap := h', toks := tk + 1 }) ho fun h'' he' sb => ?_⟩
    have hT2 : h''.get? s.heap.objs.size = some { cls := .type "tuple", data := .seq #[.int i tk, x'] } := (sb.2 _ (Nat.ne_of_gt hel)).trans hT
    have new : ObjOk X.prog X.w (upd H s.heap.objs.size (.tup [.int (i : Nat), x])) h'' s.heap.objs.size (.tup [.int (i : Nat), x]) :=
      ⟨by show 2 ≤ sizeLine; decide, [.int i tk, x'], .cons ⟨_, rfl⟩ (.cons ru .nil), ⟨_, hT2, rfl, _, rfl⟩⟩
    have I1 : Inv X pins σ (upd H s.heap.objs.size (.tup [.int (i : Nat), x])) { s with heap := h'', toks := tk + 1 } :=
      I.turnedNew (ch := [e, it]) (fun b ob hb q => (sb.2 b (fun z => hb (by simp [z]))).trans (hk b ob (fun z => hb (by simp [z])) (fun z => hb (by simp [z])) q)) hf (Nat.le_refl _) new
    refine ⟨.ref s.heap.objs.size, _, I1, rfl, ⟨_, x, rfl, I.hok.fresh (Nat.le_refl _), rfl, fun ys hy => by rw [I.tuple_inj hy hq]; exact hx⟩, ⟨⟨x', ?_⟩, hit'.1.at fun o q => (sb.2 it (Ne.symm hne)).trans q, hne, hea, hai⟩, fun b hb => ?_⟩
    · have e1 : ((i + 1 : Nat) : Int) = (i : Int) + 1 := by omega
      rw [e1]; exact he'
    · have hb' : b < s.heap.objs.size := by
        have e' : b = e ∨ b = it := by simpa using hb
        rcases e' with z | z
        · rw [z]; exact hel
        · rw [z]; exact hil
      rw [upd_ne (Nat.ne_of_lt hb')]
      exact (hf b hb).1
  done := by
    intro X hP hw hK hc i pins s σ H E I hf st hg
    subst hP hw hK
    obtain ⟨⟨old, he⟩, hit, hne, hea, hai⟩ := st
    obtain ⟨xs, hq, hx⟩ := hg
    obtain ⟨its, rv, p, hz⟩ := I.tuple hq
    obtain ⟨f0, f1, f2, f3, f4, f5⟩ := hf it (by simp)
    have hl := rv.length
    have D := Draws.tuple (prog := X.prog) (w := X.w) (A := X.A.in1) (show X.A.in1.handled = none from I.ok.hd hc) it a hai its.toArray
    have e : its.toArray.size = i := by rw [List.size_toArray, ← hl, hx]
    exact wpAny_pyNext_enum_endD D he ⟨by rw [e]; exact hit, show s.heap.IsTuple a its.toArray from p⟩ fun h' eb => ⟨rfl, I.turned (t' := s.toks) (fun b o hb q => eb b o hb q) f0 f1 f3 f4 f5⟩
  self := fun A i s Q E st h => let ⟨⟨_, he⟩, _⟩ := st; wpAny_pyIter_enum he h
def iEnumT (K : PySem.W.Frag) (ta : TA) : TI := fun σ H R => ta σ H fun vs H1 => ∃ a xs, vs = [.ref a] ∧ SqT K H1 a xs ∧ R (IteT K a) H1
theorem pi_enumT {X : Cx} {e : Expr} {ta : TA} {p pos tpos : Pos} {elts : List Expr} {kk : Nat} (hg : Gl X "enumerate") (hm : X.mg "enumerate" = none) (ha : PA X [e] ta) (hs : starEach [e] X.env = [(false, eval e X.env)] := by rfl) :
    PI X (.Tuple elts kk tpos) (.Call (.Name "enumerate" p) [e] [] pos) (iEnumT X.K ta) := by
  refine ⟨fun pins s σ H R I h => ?_⟩
  refine Call_ (ld_blt I hg hm boot_enumerate (PyProof.Rows.callWith_type1 (thn (ha.run pos pins s σ H _ I h) fun us s1 ⟨vs, H1, I1, r1, q1⟩ => ?_) hs rfl))
  obtain ⟨a, xs, ex, hq, q⟩ := q1
  subst ex
  cases r1 with
  | cons r rr =>
    cases rr
    cases r
    obtain ⟨its, rv, p', hz⟩ := I1.tuple hq
    have hal : a < s1.heap.objs.size := by obtain ⟨o, e, _⟩ := p'; exact Heap.lt_size e
    refine call_enumerate_tup (show s1.heap.IsTuple a its.toArray from p') fun h' he hit hsz hk => wpAny_pyIter_enum he ?_
    have I2 : Inv X pins σ H1 { s1 with heap := h' } := I1.kept (t' := s1.toks) hk
    refine ⟨s1.heap.objs.size + 1, [s1.heap.objs.size + 1, s1.heap.objs.size], _, _, H1, rfl, I2, turn_enumT a (s1.heap.objs.size + 1) s1.heap.objs.size, ⟨⟨.none, he⟩, hit, Nat.succ_ne_self _, Nat.ne_of_gt (Nat.lt_succ_of_lt hal), Nat.ne_of_lt hal⟩, fun b hb => ?_, q⟩
    have e' : b = s1.heap.objs.size + 1 ∨ b = s1.heap.objs.size := by simpa using hb
    have hle : s1.heap.objs.size ≤ b := by
      rcases e' with z | z
      · rw [z]; exact Nat.le_add_right _ _
      · rw [z]; exact Nat.le_refl _
    exact I1.fpOk hle (I1.hok.fresh hle)
theorem walks_enumT {K : PySem.W.Frag} {S : AS} {H : Hp} {xs : List D} {vs : List V} {a : Addr} (h : H a = some (.tup vs)) (r : RepL K S H xs vs) : Walks K S H (IteT K a) (enumD xs) := fun S' hS' H1 l => by
  have h1 : H1 a = some (.tup vs) := (l a _ h).elim id fun z => z.2.1.elim
  have r1 : RepL K S' H1 xs vs := RepL.mv (Mv.le l (fun _ z => z) fun _ z => .inl z) xs (RepL.mv (Mv.anti hS') xs r)
  refine ⟨fun i y e => ?_, ⟨vs, .inl (.inl h1), by rw [← r1.length, enumD_len]⟩⟩
  obtain ⟨x, ex, ey⟩ := enumD_get e
  subst ey
  obtain ⟨v, hv, rv⟩ := r1.get ex
  refine ⟨⟨vs, v, .inl (.inl h1), hv⟩, fun w H' ⟨T, z, e1, hT, e2, e3⟩ => ?_⟩
  subst e1 e2
  have := e3 vs (.inl (.inl h1))
  rw [hv] at this
  cases this
  refine ⟨fun b o q => by rw [upd_ne (ne_of_none q hT)]; exact q, T, _, rfl, upd_same, _, _, rfl, rfl, _, [], rfl, ?_, rfl⟩
  exact rv.mv (Mv.le (P := fun _ => False) (LeA.new hT) (fun _ z => z.elim) fun _ z => .inl z) x (Mv.le (P := fun _ => False) (LeA.new hT) (fun _ z => z.elim) fun _ z => .inl z)
section
variable {X : Cx} {fl fl' fl'' : Fl} {e a b c i o tg : Expr} {es : List Expr} {ta tb tc td ty t : TD} {tA : TDA} {pos p : Pos} {x : Str}
def dEnT (t : TD) : TDA := fun sl k Q => t sl k fun d k' => ∃ xs, d = .tup xs ∧ Q (enumD xs) k'
theorem di_enumT {tp : Pos} {elts : List Expr} {kk : Nat} (hg : Gl X "enumerate") (hm : X.mg "enumerate" = none) (h : DE X .c e t) (hs : starEach [e] X.env = [(false, eval e X.env)] := by rfl) : DI X (.Tuple elts kk tp) (.Call (.Name "enumerate" p) [e] [] pos) (dEnT t) := by
  refine ⟨PI.weak (pi_enumT hg hm (pa_cons h.pe pa_nil (by rw [hs]; rfl)) hs) fun σ H R ⟨g, sl, k, E, q⟩ => ⟨g, sl, k, E, h.mono _ _ _ _ (fun d k1 ⟨xs, e, q⟩ v H1 B1 r1 => ?_) q⟩,
    fun sl k P Q hh q => h.mono _ _ _ _ (fun d k1 ⟨xs, e, q⟩ => ⟨xs, e, hh _ _ q⟩) q⟩
  subst e
  obtain ⟨a, vs, rfl, l, r⟩ := r1
  exact ⟨a, vs, rfl, l.sq, q _ H1 B1 (walks_enumT l r)⟩
/-! a module's number; a built-in class -/
theorem de_globI {n : Int} (hg : Gl X x) (hm : ∃ t, X.mg x = some (.int n t)) (hd : (x == ("__debug__" : Str)) = false := by decide) : DE X .c (.Name x pos) (dC (.int n)) := by
  obtain ⟨t, hm⟩ := hm
  exact de_glob (v := .int n) (.int n) hg hm ⟨t, rfl⟩ rfl hd
theorem de_ty (n : String) (hg : Gl X x) (hm : X.mg x = none) (hv : bootBuiltins x = some (.type n)) (hn : x ≠ "__name__" := by decide) (hd : (x == ("__debug__" : Str)) = false := by decide) : DE X .c (.Name x pos) (dC (.raw (.ty n))) :=
  de_c _ (pe_bltn (v := .ty n) hg hm hv rfl hn hd) rfl
theorem de_cls {C : Addr} (hg : Gl X x) (hm : X.mg x = some (.ref C)) (hd : (x == ("__debug__" : Str)) = false := by decide) : DE X .c (.Name x pos) (dC (.raw (.ref C))) :=
  de_c _ (pe_glob (v := .ref C) hg hm rfl hd) rfl
/-! a < b < c -/
def dChain (r r' : RD2) (ta tb tc : TD) : TD := fun sl k Q => ta sl k fun x k1 => tb sl k1 fun y k2 => r x y fun z => ∃ b, z = .bl b ∧ if b = true then tc sl k2 fun w k3 => r' y w fun z' => Q z' k3 else Q (.bl false) k2
theorem de_chain {op op' : CmpOp} {r r' : RD2} (ho : OpS X (compareOp op) r) (ho' : OpS X (compareOp op') r') (ha : DE X fl a ta) (hb : DE X fl' b tb) (hc : DE X fl'' c tc) (hm : lastMarks [op, op'] [b, c] = false := by with_unfolding_all rfl) : DE X .c (.Compare a [op, op'] [b, c] pos) (dChain r r' ta tb tc) := by
  obtain ⟨rr, h1, h2⟩ := ho.ex
  obtain ⟨rr', h1', h2'⟩ := ho'.ex
  refine ⟨PE.weak (pe_chain h1 h1' ha.pe hb.pe hc.pe hm) fun σ H Q ⟨g, sl, k, E, q⟩ => ?_, fun sl k P Q h q => ha.mono _ _ _ _ (fun x k1 => hb.mono _ _ _ _ fun y k2 => ho.mono x y _ _ fun z ⟨b, e, q⟩ => ⟨b, e, mono_if (hc.mono _ _ _ _ fun w k3 => ho'.mono y w _ _ fun z' => h z' k3) (h _ _) q⟩) q⟩
  refine ⟨g, sl, k, E, ha.mono _ _ _ _ (fun x k1 q v H1 B1 r1 => ?_) q⟩
  refine ⟨g, sl, k1, B1.env, hb.mono _ _ _ _ (fun y k2 q u H2 B2 r2 => ?_) q⟩
  refine h2 _ _ _ _ H2 x y v u _ _ (r1.le B2.le) r2 q fun z w ⟨b, e, q⟩ hz => ?_
  subst e
  cases hz
  refine ⟨b, rfl, ?_⟩
  cases b with
  | true =>
    refine ⟨g, sl, k2, B2.env, hc.mono _ _ _ _ (fun w k3 q v3 H3 B3 r3 => ?_) q⟩
    exact h2' _ _ _ _ H3 y w u v3 _ Q (r2.le B3.le) r3 q fun z' w' pz hz => pz w' H3 ((B1.trans B2).trans B3) (sc_rep hz)
  | false => exact q _ H2 (B1.trans B2) rfl
/-! isinstance -/
/-- what isinstance asks of an own class -/
structure InsTy (K : PySem.W.Frag) (C : Addr) : Prop where
  cls : Cls K C
  dun : PySem.W.findIn K (.ref C) "__class__" = some (some (.builtin "object.__class__"))
  get : PySem.W.specialIn K (.builtin "object.__class__") "__get__" = some (some (.builtin "getset_descriptor.__get__"))
  tak : PySem.W.takesIn K (.builtin "object.__class__") = some true
  obj : PySem.W.mroIn K C (.type "object") = some true
/-- a datum's class -/
inductive TypD (K : PySem.W.Frag) : D → Value → Prop where
  | non : TypD K .non (.type "NoneType")
  | bl (b : Bool) : TypD K (.bl b) (.type "bool")
  | int (i : Int) : TypD K (.int i) (.type "int")
  | str (x : Str) : TypD K (.str x) (.type "str")
  | lst (xs : List D) : TypD K (.lst xs) (.type "list")
  | tup (xs : List D) : TypD K (.tup xs) (.type "tuple")
  | dK (xs : List (Key × D)) : TypD K (.dK xs) (.type "dict")
  | ins (C : Addr) (fs : List (Str × D)) (h : InsTy K C) : TypD K (.ins C fs) (.ref C)
theorem typ_ok {K : PySem.W.Frag} {S T : AS} {H : Hp} {d : D} {v : V} {t : Value} (h : TypD K d t) (r : Rep K S H d T v) : TyX K H v t := by
  cases h with
  | non => rw [show v = .non from r]; exact .base .non
  | bl b => rw [show v = .bl b from r]; exact .base (.bl b)
  | int i => rw [show v = .int i from r]; exact .base (.int i)
  | str x => rw [show v = .str x from r]; exact .base (.str x)
  | lst xs => obtain ⟨a, vs, rfl, l, _⟩ := r; exact .base (.lst l.1)
  | tup xs => obtain ⟨a, vs, rfl, l, _⟩ := r; exact .base (.tup l)
  | dK xs =>
    obtain ⟨a, vs, rfl, ⟨⟨x, hx, hc⟩, _⟩, _⟩ := r
    unfold core at hc
    split at hc
    · exact .fDict (hx.trans (by rw [hc]))
    · cases hc
    · subst hc; exact .base (.dK hx)
  | ins C fs h => obtain ⟨a, dx, ws, rfl, hi, _, _⟩ := r; exact .base (.ins hi h.cls h.dun h.get h.tak h.obj)
def rIsiD (K : PySem.W.Frag) : RDA := fun ds Q => ∃ x c t u b, ds = [x, .raw c] ∧ ClsV c u ∧ TypD K x t ∧ PySem.W.kitOne K t u = some b ∧ Q (.bl b)
theorem cg_isi : CallG X (.builtin "isinstance") (rIsiD X.K) := by
  refine ⟨⟨_, call_isi, fun S T H ds vs P Q r q k => ?_⟩, fun ds P Q h ⟨x, c, t, u, b, e, h1, h2, h3, q⟩ => ⟨x, c, t, u, b, e, h1, h2, h3, h _ q⟩⟩
  obtain ⟨x, c, t, u, b, rfl, h1, h2, h3, q⟩ := q
  obtain ⟨v, w, rfl, r1, r2⟩ := un2 r
  rw [show w = c from r2]
  exact ⟨v, c, t, u, b, rfl, h1, typ_ok h2 r1, h3, k _ _ _ q (fun _ _ h => h) (NewRep.sc rfl)⟩
/-- isinstance(x, (c1, ..)) -/
def rIsiTD (K : PySem.W.Frag) : RDA := fun ds Q => ∃ x cs t us b, ds = [x, .tup (cs.map D.raw)] ∧ Paired ClsV cs us ∧ TypD K x t ∧ PySem.W.kitAny K t us = some b ∧ Q (.bl b)
theorem RepL.raws {K : PySem.W.Frag} {S : AS} {H : Hp} : ∀ {ns : List V} {vs : List V}, RepL K S H (ns.map D.raw) vs → vs = ns
  | [], _, r => r
  | n :: ns, _, ⟨v, ws, e, r, q⟩ => by
    have r' : v = n := r
    subst r' e
    rw [RepL.raws q]
theorem cg_isiT : CallG X (.builtin "isinstance") (rIsiTD X.K) := by
  refine ⟨⟨_, call_isiT, fun S T H ds vs P Q r q k => ?_⟩, fun ds P Q h ⟨x, c, t, u, b, e, h1, h2, h3, q⟩ => ⟨x, c, t, u, b, e, h1, h2, h3, h _ q⟩⟩
  obtain ⟨x, cs, t, us, b, rfl, h1, h2, h3, q⟩ := q
  obtain ⟨v, w, rfl, r1, a, vs, rfl, l, r2⟩ := un2 r
  have e := RepL.raws r2
  subst e
  exact ⟨v, a, vs, t, us, b, rfl, l, h1, typ_ok h2 r1, h3, k _ _ _ q (fun _ _ h => h) (NewRep.sc rfl)⟩
end
end DL

/-! data layer, part p: a def of a class whose body begins with super().__init__(..) -/
namespace DL
open PySem PySem.Spec PyProof.Rows L2

structure SupScope (N P : List Str) (sc : Scope) : Prop where
  kind : sc.kind = ScopeKind.function
  co : sc.isCoroutine = false
  gen : sc.isGenerator = false
  nd : N.Nodup
  pre : List.take P.length N = P
  par : ∀ x ∈ P, List.lookup x sc.names = some NameKind.local
  nocell : ∀ y ∈ sc.names, y.snd ≠ NameKind.cell
  free : ∀ y ∈ sc.names, y.snd = NameKind.free → y.fst = "__class__"

abbrev cxS (CX : CXT) (P : Program) (w : World) (K : PySem.W.Frag) (mg : Str → Option Value) (base : Heap) (N : List Str) (qual : Str) (scope : Scope) (f : Addr) (cd : Value) (cc : Addr) (A : Around) (outer : List Env) (s : Shared) (H : Hp) (E : XK) : Cx :=
  { prog := P, w := w, K := K, mg := mg, base := base, A := A.deeper (W.ksEnv qual scope s.heap.objs.size f cd cc), N := N,
    s_0 := s, H_0 := H, env := W.ksEnv qual scope s.heap.objs.size f cd cc, outer := outer,
    stack := W.ksEnv qual scope s.heap.objs.size f cd cc :: outer, ex := [], fn := fun x => x != "__class__", calm := true, pn := [],
    xe := fun e s' =>
      wpAny (model P w) (A.deeper (W.ksEnv qual scope s.heap.objs.size f cd cc))
        (leaving (W.ksEnv qual scope s.heap.objs.size f cd cc) e) (fun x s'' => CX outer H s E e s'')
        (fun e' s'' => CX outer H s E e' s'') s' }

structure PSsAt (X : Cx) (body st : List Stmt) (t : TS) : Prop where
  run : ∀ (pins : List (Addr × Obj)) (s : Shared) (σ : L2.St) (H : Hp) (D : Ends), L2.Inv X pins σ H s → t D σ H →
    PySem.wpAt (model X.prog X.w) X.A (Code.func body X.env) (execs st X.env) (SP X pins D) X.xe s

theorem lookup_zip_none {ps : List Str} {us : List Value} {x : Str} (h : x ∉ ps) : List.lookup x (ps.zip us) = none := by
  induction ps generalizing us with
  | nil => rfl
  | cons p ps ih =>
    cases us with
    | nil => rfl
    | cons u us =>
      have h1 : x ≠ p := fun e => h (e ▸ List.mem_cons_self)
      show List.lookup x ((p, u) :: ps.zip us) = none
      rw [List.lookup_cons, beq_false_of_ne h1]
      exact ih fun m => h (List.mem_cons_of_mem _ m)

theorem lookup_zip_rev {ps : List Str} {us : List Value} (hn : ps.Nodup) (hl : us.length = ps.length) {i : Nat} {x : Str} {u : Value} (hx : ps[i]? = some x) (hu : us[i]? = some u) :
    List.lookup x (ps.zip us).reverse = some u := by
  induction ps generalizing us i with
  | nil => cases i <;> cases hx
  | cons p ps ih =>
    cases us with
    | nil => cases hl
    | cons v us =>
      have hn' := List.nodup_cons.mp hn
      show List.lookup x ((p, v) :: ps.zip us).reverse = some u
      rw [List.reverse_cons, List.lookup_append]
      cases i with
      | zero =>
        cases hx; cases hu
        have : List.lookup x (ps.zip us).reverse = none := by
          rw [List.lookup_eq_none_iff]
          intro q hq
          have := List.of_mem_zip (List.mem_reverse.mp hq)
          exact bne_iff_ne.mpr fun e => hn'.1 (e ▸ this.1)
        rw [this]
        show List.lookup x [(x, u)] = some u
        rw [List.lookup_cons, beq_self_eq_true]
      | succ i =>
        rw [ih hn'.2 (by exact Nat.succ.inj hl) hx hu]
        rfl

theorem inv_startS {CX : CXT} {P : Program} {w : World} {K : PySem.W.Frag} {mg : Str → Option Value} {base : Heap} {N ps : List Str} {qual : Str} {scope : Scope} {f : Addr} {cd : Value} {cc : Addr} {A : Around} {outer : List Env} {s : Shared} {h1 : Heap} {tk : Nat} {H : Hp} {E : XK} {us : List Value} {vs : List V} {D : Addr}
    {cl : Value} {cld : Option Addr} {csl : Array (Option Value)}
    (S : SupScope N ps scope) (hd : A.handled = none) (e0 : Env0 P w K mg base A outer s H) (hl : vs.length = ps.length) (r : Vals vs us)
    (lc : List.lookup cc K = some { cls := cl, dict := cld, data := Data.cell (some (Value.ref D)), slots := csl })
    (hns : h1.Ns s.heap.objs.size fun x => List.lookup x (ps.zip us).reverse)
    (hk : ∀ (b : Addr) (o : Obj), s.heap.get? b = some o → h1.get? b = some o) :
    L2.Inv (cxS CX P w K mg base N qual scope f cd cc A outer s H E) [] (L2.start N vs) H { heap := h1, gens := s.gens, drawn := s.drawn, toks := tk, os := s.os } := by
  have hcc : base.get? cc = some { cls := cl, dict := cld, data := Data.cell (some (Value.ref D)), slots := csl } := e0.mod.kin cc _ lc
  have hcs := e0.bs cc _ hcc
  have hlu : ∀ {x : Str} {c : Addr}, List.lookup x [(("__class__" : Str), cc)] = some c → x = "__class__" ∧ c = cc := by
    intro x c h
    rw [List.lookup_cons] at h
    cases e : x == ("__class__" : Str) with
    | true => rw [e] at h; cases h; exact ⟨eq_of_beq e, rfl⟩
    | false => rw [e] at h; cases h
  have hps : ps.Nodup := by rw [← S.pre]; exact List.Nodup.sublist (List.take_sublist _ _) S.nd
  refine { ok := ?ok, os := rfl, bare := e0.bare, base := Un.kept hk, loc := ⟨_, hns, ?loc⟩, cell := ?cell, free := e0.hok.fresh (Nat.le_refl _), freeC := ?freeC, pin := ?pin, hok := e0.hok.kept hk, len := ?len }
  case ok =>
    refine { mod := e0.mod, kind := S.kind, glob := rfl, blt := rfl, above := Nat.le_refl _, inj := ?_, has := ?_, cab := ?_, hd := fun _ => hd, frames := Around.frames_deeper e0.frames, stk := .inr ⟨rfl, rfl⟩, exf := ?_, bs := e0.bs, bsz := e0.bsz, noex := ?_, exfs := ?_, funs := e0.funs, frf := e0.frf }
    · intro x y c h h2
      exact (hlu h).1.trans (hlu h2).1.symm
    · intro x h
      rcases h with h | h
      · exact absurd rfl (S.nocell _ (PySem.mem_of_lookup h))
      · have := S.free _ (PySem.mem_of_lookup h) rfl
        refine ⟨cc, ?_⟩
        have e : x = "__class__" := this
        subst e
        rfl
    · intro x c h h2
      have := (hlu h2).1
      subst this
      cases h
    · intro b h; cases h
    · intro b o _ h; cases h
    · intro b h; cases h
  case loc =>
    intro i x v hx hv hvis
    have hi : i < vs.length := by
      by_cases hi : i < vs.length
      · exact hi
      · exfalso
        unfold L2.start at hv
        rw [List.getElem?_append_right (by rw [List.length_map]; omega), List.getElem?_replicate] at hv
        split at hv <;> cases hv
    have hv' : vs[i]? = some v := by
      unfold L2.start at hv
      rw [List.getElem?_append_left (by rw [List.length_map]; exact hi), List.getElem?_map] at hv
      cases e : vs[i]? with
      | none => rw [e] at hv; cases hv
      | some u => rw [e] at hv; cases hv; rfl
    have hp : ps[i]? = some x := by
      rw [← S.pre, List.getElem?_take, if_pos (by omega)]
      exact hx
    obtain ⟨u, hu, ru⟩ := Vals.get r hv'
    have hus : us.length = ps.length := by rw [← Vals.length r, hl]
    exact ⟨u, ru, .inl ⟨S.par x (List.mem_of_getElem? hp), lookup_zip_rev hps hus hp hu⟩⟩
  case cell =>
    intro x c h
    have := (hlu h).2
    subst this
    exact ⟨_, _, hk _ _ hcs.1, rfl⟩
  case freeC =>
    intro x c h
    have := (hlu h).2
    subst this
    exact hcs.2
  case pin => intro p h; cases h
  case len =>
    show (L2.start N vs).length = N.length
    unfold L2.start
    have hN : ps.length ≤ N.length := by
      have := congrArg List.length S.pre
      rw [List.length_take] at this
      omega
    rw [List.length_append, List.length_map, List.length_replicate]
    omega

theorem fn_sup {CX : CXT} {P : Program} {w : World} {K : PySem.W.Frag} {mg : Str → Option Value} {base : Heap} {k : Nat} {f cc D : Addr} {name qual : Str} {params : Arguments} {body : List Stmt} {scope : Scope} {dV kV doc pm cdv ct oc cl : Value} {an od cld : Option Addr} {osl csl : Array (Option Value)} {N ps : List Str} {sp : Sp}
    (lk : List.lookup f K = some { cls := oc, dict := od, data := Data.func (W.ksFn name qual params body scope dV kV doc pm an cdv ct cc), slots := osl })
    (hcd : W.codeIn K cdv qual = true) (S : SupScope N ps scope)
    (lc : List.lookup cc K = some { cls := cl, dict := cld, data := Data.cell (some (Value.ref D)), slots := csl })
    (len : ∀ (vs : List V) (H : Hp) (Q : VK) (E : XK), sp vs H Q E → vs.length = ps.length)
    (hbody : ∀ (A : Around) (outer : List Env) (s : Shared) (H : Hp) (vs : List V) (Q : VK) (E : XK),
      Room k (A.deeper (W.ksEnv qual scope s.heap.objs.size f cdv cc)) → sp vs H Q E →
      ∃ t, PSsAt (cxS CX P w K mg base N qual scope f cdv cc A outer s H E) body body t ∧ t { nx := fun x H' => Q V.non H', rt := Q } (L2.start N vs) H) :
    FnOk P w K mg base CX (k + 1) f (W.ksFn name qual params body scope dV kV doc pm an cdv ct cc) ps sp := by
  refine ⟨len, fun A outer s H args us vs Q E hr e0 hb r hsp => ?_⟩
  have hl := len vs H Q E hsp
  have hus : us.length = ps.length := by rw [← Vals.length r, hl]
  have KX := W.Frag.In.keeps e0.mod.kin fun b o e => (e0.bs b o e).left
  have lim := Heap.NoLimit.keeps e0.mod.nolimit fun b o e => (e0.bs b o e).left
  refine ks_codeAny_call_defAt (Room.depth hr) (KX f _ lk) rfl lim (W.codeRec_of KX hcd) rfl hb S.nocell (fun x hx => S.par x.1 (List.of_mem_zip hx).1) (fun h₀ hns hk => ?_) S.co S.gen S.kind
  obtain ⟨t, ht, hq⟩ := hbody A outer s H vs Q E (Room.deeper hr _) hsp
  refine ks_wpAt_mono (ht.run [] _ _ H _ (inv_startS S hr.hd e0 hl r lc hns hk) hq) (fun fl s' hs => ?_) (fun e s' hs => hs)
  have fin : ∀ {σ' : L2.St} {H' : Hp} {v : V} {u : Value}, L2.Inv (cxS CX P w K mg base N qual scope f cdv cc A outer s H E) [] σ' H' s' → L2.RelV v u → Q v H' → CR CX outer P w H s Q E (Except.ok (Flow.ret u)) s' :=
    fun {σ'} {H'} {v} {u} J rv q => ⟨v, H', J.os, J.bare, J.base, J.hok, rv, q⟩
  cases fl with
  | next => obtain ⟨σ', H', J, q⟩ := hs; exact fin (v := V.non) (u := Value.none) J rfl q
  | brk => obtain ⟨σ', H', J, q⟩ := hs; exact q.elim
  | cont => obtain ⟨σ', H', J, q⟩ := hs; exact q.elim
  | ret u => obtain ⟨v, σ', H', J, rv, q⟩ := hs; exact fin J rv q

/-- an object of the model's own, at the end of the heap -/
theorem Inv.own {X : Cx} {pins : List (Addr × Obj)} {σ : L2.St} {H : Hp} {s : Shared} {h' : Heap} {t' : Nat} {o : Obj} (I : L2.Inv X pins σ H s)
    (hk : ∀ (b : Addr) (u : Obj), s.heap.get? b = some u → h'.get? b = some u) (ho : h'.get? s.heap.objs.size = some o) (hc : ∀ v, o.data ≠ Data.cell v) :
    L2.Inv X (pins ++ [(s.heap.objs.size, o)]) σ H { heap := h', gens := s.gens, drawn := s.drawn, toks := t', os := s.os } := by
  have J := I.kept (t' := t') hk
  refine J.pins_of fun p hp => ?_
  rcases List.mem_append.mp hp with q | q
  · exact J.pin p (List.mem_append_right _ q)
  · rw [List.mem_singleton] at q
    subst q
    have lt := I.lt
    exact ⟨ho, I.hok.fresh (Nat.le_refl _), fun e => absurd (e ▸ lt) (Nat.lt_irrefl _), I.nofs (Nat.le_refl _), hc⟩

def tSup (C D f2 : Addr) (sp : Sp) (ta : TA) (t' : TS) : TS := fun En σ H => ∃ (x dx : Addr) (fs : List (Str × V)),
  σ[0]? = some (some (V.ref x)) ∧ H x = some (.ins C dx fs) ∧ ta σ H fun vs H1 => sp (V.ref x :: vs) H1 (fun _ H2 => t' En σ H2) (fun _ _ _ => False)

theorem inst_at {X : Cx} {pins : List (Addr × Obj)} {σ : L2.St} {H : Hp} {s : Shared} (I : L2.Inv X pins σ H s) {x C dx : Addr} {fs : List (Str × V)} (h : H x = some (.ins C dx fs)) :
    ∃ o, W.InstAt s.heap x (W.instObj C dx) C (some o) := by
  have z := I.hok x _ h
  unfold ObjOk at z
  simp at z
  obtain ⟨_, _, _, h1, mA, h2, _⟩ := z
  obtain ⟨o, _, _, ho, _⟩ := h2
  exact ⟨o, h1, rfl, rfl, ho⟩

theorem pss_super {X : Cx} {body rest : List Stmt} {p0 p1 p2 p3 p4 : Pos} {e : Expr} {es : List Expr} {C D f f2 cda cc : Addr} {fd : FuncData} {ar : Arg} {vs0 : Array Value} {file : Str} {tf : Tok} {oc ccl cl : Value} {od cdd cld : Option Addr} {osl ccs csl : Array (Option Value)} {cdD cdC : ClassData} {k2 : Nat} {sp : Sp} {ta : TA} {t' : TS} {pl : Sem Bool}
    (hkind : X.env.scope.kind = ScopeKind.function)
    (hks : X.env.kindOf "super" = some NameKind.globalImplicit) (hkc : X.env.kindOf "__class__" = some NameKind.free)
    (hfn : X.env.func = some f) (hf : List.lookup f X.K = some { cls := oc, dict := od, data := Data.func fd, slots := osl })
    (hpar : (fd.params.posonlyargs ++ fd.params.args).head? = some ar) (hN : X.N[0]? = some ar.arg) (hka : X.env.kindOf ar.arg = some NameKind.local)
    (hcode : X.env.code = Value.ref cda) (hcd : List.lookup cda X.K = some { cls := ccl, dict := cdd, data := Data.fields vs0, slots := ccs })
    (hvs : vs0[2]? = some (Value.str file tf)) (hfile : (X.prog.main.file == file) = true) (htop : (List.lookup ("super" : Str) X.prog.main.scope.names).isSome = false)
    (hcells : List.lookup ("__class__" : Str) X.env.cells = some cc) (hcell : List.lookup cc X.K = some { cls := cl, dict := cld, data := Data.cell (some (Value.ref D)), slots := csl })
    (hD : W.clsIn X.K D = some cdD) (hC : W.clsIn X.K C = some cdC) (hsub : W.mroIn X.K C (Value.ref D) = some true) (hsuper : X.mg "super" = none)
    (hop : W.nsIn X.K cStatics "thirdparty.any" = some none) (hm : W.ks_superIn X.K C D "__init__" = some (some (Value.ref f2))) (ht2 : W.typeIn X.K (Value.ref f2) = some (Value.type "function")) (hfi : W.fnIn X.K f2 = true)
    (F2 : FnR X.prog X.w X.K X.mg X.base CX0 k2 f2 sp) (hr : Room k2 X.A)
    (ha : PA X (e :: es) ta) (hrest : PSs X rest t')
    (hst : starEach (e :: es) X.env = (false, eval e X.env) :: starEach es X.env := by rfl)
    (hpl : ((backTo p3 (starEach es X.env)).any fun x => x.fst) = false := by rfl)
    (hev : eval (.Call (.Attribute (.Call (.Name "super" p0) [] [] p1) "__init__" p2) (e :: es) [] p3) X.env = (do
          let ov ← attributeBase (.Call (.Name "super" p0) [] [] p1) "__init__" X.env (eval (.Call (.Name "super" p0) [] [] p1) X.env)
          standAt p2.atName
          let __x ← holding [ov] (getMethod ov "__init__" pl)
          match __x with
            | (f, first) => callWith p3 f first (backTo p3 (starEach (e :: es) X.env)) []) := by rfl) :
    PSsAt X body (.Expr (.Call (.Attribute (.Call (.Name "super" p0) [] [] p1) "__init__" p2) (e :: es) [] p3) p4 :: rest) (tSup C D f2 sp ta t') := by
  refine ⟨fun pins s σ H En I h => ?_⟩
  obtain ⟨hh, g, d, t, os⟩ := s
  obtain ⟨x, dx, fs, hσ, hx, hq⟩ := h
  obtain ⟨m, hns, hloc⟩ := I.loc
  obtain ⟨u, ru, hu⟩ := hloc 0 ar.arg (V.ref x) hN hσ (.inl hka)
  have hmu : m ar.arg = some u := by
    rcases hu with ⟨_, z⟩ | ⟨z, _⟩
    · exact z
    · rcases z with z | z <;> (rw [hka] at z; cases z)
  have eu : u = Value.ref x := ru
  subst eu
  have kin := I.kIn
  obtain ⟨od0, hio⟩ := inst_at I hx
  obtain ⟨oD, hD1, hD2⟩ : ∃ oD, hh.get? D = some oD ∧ oD.data = Data.cls cdD := by
    unfold W.clsIn at hD
    split at hD
    · rename_i e; cases hD; exact ⟨_, kin D _ e, rfl⟩
    · cases hD
  obtain ⟨mb, hmb, hboot⟩ := I.mod.blt
  refine ks_wpAt_execs_cons (ks_wpAt_Expr_any (ks_wpAt_MethodCall (pl := pl) ?_ hev) I.quiet rfl)
  refine ks_wpAt_super_base hks hkc rfl hfn (kin f _ hf) rfl hpar hcode (kin cda _ hcd) rfl hvs hfile htop ?_
  refine W.ks_loadName_global hkind hks (Calls.loadGlobal_builtin (mg := X.mg) (mb := mb) ?_ hsuper ?_ ((hboot ("super" : Str) (by decide)).trans (by rfl : bootBuiltins ("super" : Str) = some (Value.type "super"))) ⟨rfl, ?_⟩)
  · rw [I.ok.glob]; exact Heap.Ns.keeps I.mod.glob I.bk
  · rw [I.ok.blt]; exact Heap.Ns.keeps hmb I.bk
  refine wpAny_loadName_free hkind hkc hcells ⟨_, kin cc _ hcell, rfl⟩ (wpAny_loadName_local hkind hka hns hmu (ks_wpAny_isType_cls hD1 hD2 ⟨rfl, ?_⟩))
  refine ks_wpAny_call_super hD1 hD2 hio.at_ hio.cls (fun c z => by cases z) (W.looks_mroIn kin hsub) fun h1 e1 k1 => ?_
  have I1 : L2.Inv X (pins ++ [(hh.objs.size, W.ks_superObj D x C)]) σ H { heap := h1, gens := g, drawn := d, toks := t, os := os } := Inv.own I k1 e1 (fun v z => by cases z)
  obtain ⟨of2, hof, hofc⟩ : ∃ o, h1.get? f2 = some o ∧ o.cls = Value.type "function" := by
    unfold W.typeIn at ht2
    cases z : List.lookup f2 X.K with
    | none => simp [z] at ht2
    | some o => simp [z] at ht2; exact ⟨o, I1.kIn f2 _ z, ht2⟩
  have hio1 : W.InstAt h1 x (W.instObj C dx) C (some od0) := ⟨k1 _ _ hio.at_, rfl, rfl, k1 _ _ hio.dict⟩
  have hm' : W.alongIn X.K "__init__" (List.drop 1 (List.dropWhile (fun x => x != Value.ref D) cdC.mro)) = some (some (Value.ref f2)) := by
    unfold W.ks_superIn at hm
    rw [hC] at hm
    exact hm
  refine ks_wpAny_getMethod_super e1 (W.looks_opaque I1.kIn hop) (fun A Q E s k q => wpAny_bind (W.looks_clsIn I1.kIn hC A (fun a s' => wpAny _ A (pure a.mro) Q E s') E s k (wpAny_pure q))) rfl I1.kIn hm' hof hofc (W.ks_ne I1.kIn hio1 hC) rfl ?_
  have I2 : L2.Inv X (pins ++ [(hh.objs.size, W.ks_superObj D x C)] ++ [(h1.objs.size, W.methodObj (Value.ref f2) (Value.ref x))]) σ H { heap := h1.push (W.methodObj (Value.ref f2) (Value.ref x)), gens := g, drawn := d, toks := t + 1, os := os } :=
    Inv.own I1 (fun b o z => Heap.get?_push_of_some _ z) (Heap.get?_push_at rfl rfl) (fun v z => by cases z)
  have hanys : (((backTo p3 (starEach (e :: es) X.env)).any fun x => x.fst) || ([] : List (Option Str × Sem Value)).any fun x => x.fst.isNone) = false := by
    rw [hst]
    show ((false || (backTo p3 (starEach es X.env)).any (fun x => x.fst)) || false) = false
    rw [hpl]; rfl
  refine callwith_met (a := x) (g := f2) hanys hfi ?_
  have hrun := ha.run p3 _ _ σ H _ I2 hq
  rw [hst] at hrun ⊢
  refine Calls.evalArgs_plain (thn hrun fun us s3 hz => ?_)
  obtain ⟨vs, H3, I3, rvs, q3⟩ := hz
  have hp := (I3.pin (h1.objs.size, W.methodObj (Value.ref f2) (Value.ref x)) (by simp)).1
  refine ⟨⟨hp, I3.kIn⟩, ?_⟩
  refine wpAny_call (ks_codeAny_call_bound hp ?_)
  refine codeAny_mono (run_fnR F2 hr (fun _ _ _ _ _ _ _ z => z.elim) I3 (vs := V.ref x :: vs) (Paired.cons rfl rvs) q3) fun r s4 hr4 => ?_
  cases r with
  | error e => exact hr4
  | ok fl =>
    cases fl with
    | next => exact hr4.elim
    | brk => exact hr4.elim
    | cont => exact hr4.elim
    | ret u =>
      obtain ⟨v, H4, I4, _, q4⟩ := hr4
      exact PySem.wpAt_of_wpAny (hrest.run pins _ σ H4 En I4.unpinned.unpinned q4)
end DL

/-! data layer, part q: papers: instances made by an __init__, their fields, their truth -/
namespace DL
open PySem PySem.Spec PyProof.Rows L2

/-- what an __init__ over data says: R: from the arguments to the fields -/
def spIns (K : PySem.W.Frag) (C : Addr) (R : List D → List (Str × D) → Prop) : Sp := fun vs H Q _ => ∃ (x dx : Addr) (ws : List V) (A : AS) (ds : List D) (fs : List (Str × D)),
  vs = .ref x :: ws ∧ H x = some (.ins C dx []) ∧ (∀ b, A b → H b ≠ none) ∧ A x ∧ RepL K A H ds ws ∧ R ds fs ∧
  ∀ H' us, (∀ b o, b ≠ x → H b = some o → H' b = some o) → H' x = some (.ins C dx us) → RepF K A H' fs us → Q .non H'
def dMake (C : Addr) (R : List D → List (Str × D) → Prop) (t : TDA) : TD := fun sl k Q => t sl k fun ds k1 => ∃ fs, R ds fs ∧ Q (.ins C fs) k1
section
variable {X : Cx} {fl fl' : Fl} {k0 : Nat} {f C : Addr} {fdt : FuncData} {ps : List Str} {x y : Str} {p pos : Pos} {e : Expr} {es : List Expr} {tA : TDA} {t : TD} {R : List D → List (Str × D) → Prop}
theorem de_make (M : Mk X.K C f) (F : FnOk X.prog X.w X.K X.mg X.base CX0 k0 f fdt ps (spIns X.K C R)) (hr : Room (k0 + 1) X.A) (hg : Gl X x) (hm : X.mg x = some (.ref C)) (hb : Binds X.K fdt ps [])
    (ha : DA X fl (e :: es) tA) (hf : fl.cd := by trivial) (hdb : (x == ("__debug__" : Str)) = false := by decide) (he : starEach (e :: es) X.env = (false, eval e X.env) :: starEach es X.env := by rfl) (hpl : (backTo pos (starEach es X.env)).any (·.1) = false := by rfl) :
    DE X fl (.Call (.Name x p) (e :: es) [] pos) (dMake C R tA) := by
  refine ⟨PE.weak (pe_make (E := fun _ _ _ => False) M F hr hg hm hb .nil (fun _ _ _ _ _ _ _ z => z.elim) ha.pa hdb he hpl) fun σ H Q h => ?_, fun sl k P Q h q => ha.mono _ _ _ _ (fun ds k1 ⟨fs, r, q⟩ => ⟨fs, r, h _ _ q⟩) q⟩
  obtain ⟨g, sl, k, E, q⟩ := h
  refine ⟨g, sl, k, E, ha.mono _ _ _ _ (fun ds k1 ⟨fs, hR, q⟩ vs H1 B1 r1 => ?_) q⟩
  intro x dx hx hdx hne
  have rr := isL_rep hf r1
  have dom : ∀ b, fl.sub g sl σ b → H1 b ≠ none := fun b z => B1.env.avdom (Fl.subAv z)
  have g1 : ∀ b o, H1 b = some o → upd (upd H1 dx (HO.own x)) x (.ins C dx []) b = some o := fun b o z => by
    rw [upd_ne (ne_of_none z hx), upd_ne (ne_of_none z hdx)]; exact z
  rw [List.append_nil]
  refine ⟨x, dx, vs, Pls (fl.sub g sl σ) x, ds, fs, rfl, upd_same, fun b z => ?_, .inr rfl, ?_, hR, fun H' us hk hi rF => ⟨rfl, ?_⟩⟩
  · rcases z with z | z
    · exact (LeA.same (A := fun _ => False) g1).ne (dom b z)
    · rw [z, upd_same]; intro y; cases y
  · exact RepL.mv (Mv.le (P := fun _ => False) (LeA.same g1) (fun _ z => z.elim) fun _ z => z.imp id fun e => by rw [e]; exact hx) ds rr
  · have g2 : ∀ b o, H1 b = some o → H' b = some o := fun b o z => hk b o (ne_of_none z hx) (g1 b o z)
    refine q (.ref x) H' (B1.trans ⟨B1.env.grow g2, LeA.same g2⟩) ?_
    exact ⟨x, dx, us, rfl, hi, fun z => B1.env.avdom (Fl.topAv z) hx, RepF.mv (Mv.anti fun _ z => .inl (.inl z)) _ rF⟩
/-- a field -/
theorem RepF.get {K : PySem.W.Frag} {S : AS} {H : Hp} {y : Str} {d : D} : ∀ {fs : List (Str × D)} {us : List (Str × V)}, RepF K S H fs us → List.lookup y fs = some d → ∃ v, List.lookup y us = some v ∧ Rep K S H d S v
  | [], _, _, h => by cases h
  | (z, x) :: fs, _, ⟨v, ws, e, r, q⟩, h => by
    subst e
    rw [List.lookup_cons] at h ⊢
    cases e : y == z with
    | true => rw [e] at h; cases h; exact ⟨v, rfl, r⟩
    | false => rw [e] at h; exact RepF.get q h
structure FldOk (K : PySem.W.Frag) (C : Addr) (y : Str) : Prop where
  cls : Cls K C
  no : NoAttr K C y
def dFld (K : PySem.W.Frag) (y : Str) (t : TD) : TD := fun sl k Q => t sl k fun d k' => ∃ C fs z, d = .ins C fs ∧ FldOk K C y ∧ List.lookup y fs = some z ∧ Q z k'
theorem de_fld (h : DE X fl e t) (hb : attributeBase e y X.env (eval e X.env) = eval e X.env := by rfl) : DE X fl.dn (.Attribute e y pos) (dFld X.K y t) := by
  refine ⟨PE.weak (pe_fld h.pe hb) fun σ H Q ⟨g, sl, k, E, q⟩ => ⟨g, sl, k, E, h.mono _ _ _ _ (fun d k1 ⟨C, fs, z, e, hF, hl, q⟩ v H1 B1 r1 => ?_) q⟩, fun sl k P Q hh q => h.mono _ _ _ _ (fun d k1 ⟨C, fs, z, e, hF, hl, q⟩ => ⟨C, fs, z, e, hF, hl, hh _ _ q⟩) q⟩
  subst e
  obtain ⟨a, dx, us, rfl, hi, _, rF⟩ := r1
  obtain ⟨v, hv, rv⟩ := rF.get hl
  refine ⟨a, C, dx, us, v, rfl, hi, hF.cls, hF.no, hv, q v H1 B1 ?_⟩
  cases fl
  · exact rv
  · exact rv
  · exact Rep.mv (Mv.anti fun _ z => .inl z) z (Mv.anti fun _ z => .inl z) rv
/-! truth by an own __bool__ -/
/-- what an own __bool__ says -/
def spBool (K : PySem.W.Frag) (B : Addr → Bool → Prop) : Sp := fun vs H Q _ => ∃ x C dx us b, vs = [V.ref x] ∧ H x = some (.ins C dx us) ∧ B C b ∧ (us.all fun u => u.1 != "IS_TRUE") = true ∧ Q (.bl b) H
structure BoolOk (K : PySem.W.Frag) (B : Addr → Bool → Prop) (f : Addr) : Prop where
  at_ : ∀ C b, B C b → PySem.W.findIn K (.ref C) "__bool__" = some (some (.ref f))
  fn : PySem.W.isFn K (.ref f) = true
def dTruI (B : Addr → Bool → Prop) (t : TD) : TDT := fun sl k Q => t sl k fun d k' => ∃ C fs b, d = .ins C fs ∧ B C b ∧ (fs.all fun u => u.1 != "IS_TRUE") = true ∧ Q b k'
theorem RepF.names {K : PySem.W.Frag} {S : AS} {H : Hp} {P : Str → Bool} : ∀ {fs : List (Str × D)} {us : List (Str × V)}, RepF K S H fs us → (fs.all fun u => P u.1) = true → (us.all fun u => P u.1) = true
  | [], _, r, _ => by rw [show _ = [] from r]; rfl
  | (z, x) :: fs, _, ⟨v, ws, e, r, q⟩, h => by
    subst e
    rw [List.all_cons, Bool.and_eq_true] at h ⊢
    exact ⟨h.1, RepF.names q h.2⟩
theorem dt_ins {B : Addr → Bool → Prop} (O : BoolOk X.K B f) (F : FnOk X.prog X.w X.K X.mg X.base CX0 k0 f fdt ps (spBool X.K B)) (hr : Room k0 X.A) (hb : Binds X.K fdt ps []) (h : DE X fl e t)
    (he : ∀ whole, isTrue e X.env whole = (do let v ← whole; standAt e.pos; holding [v] (truthy v)) := by intro _; rfl) : DT X e (dTruI B t) := by
  refine ⟨⟨fun pins s σ H Q I q => ?_⟩, fun sl k P Q hh q => h.mono _ _ _ _ (fun d k1 ⟨C, fs, b, e1, e2, e3, q⟩ => ⟨C, fs, b, e1, e2, e3, hh _ _ q⟩) q⟩
  refine isTrue_plain (thn (h.pe.run pins s σ H (fun x H1 => ∃ a C dx us b, x = V.ref a ∧ H1 a = some (.ins C dx us) ∧ B C b ∧ (us.all fun u => u.1 != "IS_TRUE") = true ∧ Q b H1) I ?_) fun v s1 x => ?_) (he _)
  · obtain ⟨g, sl, k, E, q⟩ := q
    refine ⟨g, sl, k, E, h.mono _ _ _ _ (fun d k1 ⟨C, fs, b, e1, e2, e3, q⟩ v H1 B1 r1 => ?_) q⟩
    subst e1
    obtain ⟨a, dx, us, rfl, hi, _, rF⟩ := r1
    exact ⟨a, C, dx, us, b, rfl, hi, e2, rF.names (P := fun u => u != "IS_TRUE") e3, q H1 B1⟩
  · obtain ⟨z, H1, I1, r1, a, C, dx, us, b, rfl, hi, hB, hn, q⟩ := x
    have e1 : v = Value.ref a := r1
    subst e1
    obtain ⟨o, ho⟩ := inst_at I1 hi
    obtain ⟨m, hfr⟩ := I1.fr
    refine W.truthy_K hfr I1.ok.mod.kin ho (O.at_ C b hB) O.fn (thn (run_fn F hr hb .nil (fun _ _ _ _ _ _ _ z => z.elim) I1 (E := fun _ _ _ => False) (Q := fun v H2 => v = V.bl b ∧ Q b H2) (us := [Value.ref a]) (vs := [V.ref a]) (Paired.cons rfl .nil) ⟨a, C, dx, us, b, rfl, hi, hB, hn, rfl, q⟩) fun u s2 ⟨v2, H2, I2, r2, e2, q2⟩ => ?_)
    subst e2
    have e3 : u = Value.bool b := r2
    subst e3
    exact ⟨H2, I2, q2⟩
/-! one of two ways -/
theorem di_or {tg e : Expr} {t u : TDA} (h : DI X tg e t) (h2 : DI X tg e u) : DI X tg e (fun sl k Q => t sl k Q ∨ u sl k Q) :=
  ⟨PI.weak (PI.or h.pi h2.pi) fun σ H R ⟨g, sl, k, E, q⟩ => q.imp (fun q => ⟨g, sl, k, E, q⟩) (fun q => ⟨g, sl, k, E, q⟩), fun sl k P Q hh q => q.imp (h.mono _ _ _ _ hh) (h2.mono _ _ _ _ hh)⟩
end
end DL

/-! data layer, part r: walks over a dict's keys -/
namespace DL
open PySem PySem.Spec PyProof.Rows L2

theorem keyD_mk {K : PySem.W.Frag} {S T : AS} {H : Hp} : ∀ k : Key, Rep K S H (keyD k) T (kV k)
  | .inl _ => rfl
  | .inr _ => rfl
theorem keysD_mk {K : PySem.W.Frag} {S : AS} {H : Hp} : ∀ k : List Key, RepL K S H (k.map keyD) (k.map kV)
  | [] => rfl
  | k :: ks => ⟨_, _, rfl, keyD_mk k, keysD_mk ks⟩
/-- a dict's keys -/
def keysOf : D → Option (List D)
  | .dK kvs => some (kvs.map fun p => keyD p.1)
  | .dT kvs => some (kvs.map fun p => .tup (p.1.map keyD))
  | _ => none
theorem RepK.get {K : PySem.W.Frag} {S : AS} {H : Hp} : ∀ {kvs : List (Key × D)} {ws : List (Key × V)}, RepK K S H kvs ws → ws.map (·.1) = kvs.map (·.1)
  | [], _, r => by rw [show _ = [] from r]; rfl
  | (k, x) :: kvs, _, ⟨v, ws, e, r, q⟩ => by
    subst e
    rw [List.map_cons, List.map_cons, RepK.get q]
theorem RepT.get {K : PySem.W.Frag} {S : AS} {H : Hp} : ∀ {kvs : List (List Key × D)} {ws : List (List Key × V)}, RepT K S H kvs ws → ws.map (·.1) = kvs.map (·.1)
  | [], _, r => by rw [show _ = [] from r]; rfl
  | (k, x) :: kvs, _, ⟨v, ws, e, r, q⟩ => by
    subst e
    rw [List.map_cons, List.map_cons, RepT.get q]
theorem key_at {α β γ : Type} {ws : List (α × β)} {kvs : List (α × γ)} (h : ws.map (·.1) = kvs.map (·.1)) {i : Nat} {p : α × γ} (e : kvs[i]? = some p) : ∃ v, ws[i]? = some (p.1, v) := by
  have h1 : (ws.map (·.1))[i]? = some p.1 := by rw [h, List.getElem?_map, e]; rfl
  rw [List.getElem?_map] at h1
  cases z : ws[i]? with
  | none => rw [z] at h1; cases h1
  | some q =>
    rw [z] at h1
    have h2 : q.1 = p.1 := Option.some.inj h1
    exact ⟨q.2, by rw [← h2]⟩
section
variable {K : PySem.W.Frag} {S : AS} {H : Hp} {d : Addr} {o : Obj}
theorem frz_keep {S' : AS} {H1 : Hp} (n : ¬ S d) (hS' : ∀ b, S' b → S b ∨ H b = none) {u : HO} (h : H d = some u) (l : LeA S' H H1) : H1 d = some u :=
  (l d _ h).elim id fun y => (hS' d y.1).elim (fun z => absurd z n) fun z => by rw [h] at z; cases z
theorem walks_keysK {kvs : List (Key × D)} {ws : List (Key × V)} (h : H d = some (.frz o (.dK ws))) (n : ¬ S d) (r : ws.map (·.1) = kvs.map (·.1)) : Walks K S H (Itk d o ws) (kvs.map fun p => keyD p.1) := fun S' hS' H1 l => by
  have h1 := frz_keep n hS' h l
  have hl : ws.length = kvs.length := by have := congrArg List.length r; rwa [List.length_map, List.length_map] at this
  refine ⟨fun i x e => ?_, h1, by rw [List.length_map, hl]; exact Nat.le_refl _⟩
  rw [List.getElem?_map] at e
  cases z : kvs[i]? with
  | none => rw [z] at e; cases e
  | some p =>
    rw [z] at e; cases e
    obtain ⟨v, hv⟩ := key_at r z
    refine ⟨⟨h1, (List.getElem?_eq_some_iff.mp hv).1⟩, fun u H' ⟨e1, k, v2, e2, e3⟩ => ?_⟩
    subst e1
    rw [hv] at e2
    have e4 : p.1 = k := congrArg Prod.fst (Option.some.inj e2)
    subst e3
    rw [← e4]
    exact ⟨fun _ _ h => h, keyD_mk _⟩
theorem walks_keysT {kvs : List (List Key × D)} {ws : List (List Key × V)} (h : H d = some (.frz o (.dT ws))) (n : ¬ S d) (r : ws.map (·.1) = kvs.map (·.1)) : Walks K S H (Itkt d o ws) (kvs.map fun p => .tup (p.1.map keyD)) := fun S' hS' H1 l => by
  have h1 := frz_keep n hS' h l
  have hl : ws.length = kvs.length := by have := congrArg List.length r; rwa [List.length_map, List.length_map] at this
  refine ⟨fun i x e => ?_, h1, by rw [List.length_map, hl]; exact Nat.le_refl _⟩
  rw [List.getElem?_map] at e
  cases z : kvs[i]? with
  | none => rw [z] at e; cases e
  | some p =>
    rw [z] at e; cases e
    obtain ⟨v, hv⟩ := key_at r z
    refine ⟨⟨h1, (List.getElem?_eq_some_iff.mp hv).1⟩, fun u H' ⟨e1, k, v2, q, e2, e3, e4⟩ => ?_⟩
    subst e1
    rw [hv] at e2
    have e5 : p.1 = k := congrArg Prod.fst (Option.some.inj e2)
    subst e3
    rw [← e5] at e4
    exact ⟨fun _ _ h => h, q, _, rfl, e4, keysD_mk _⟩
end
/-- the dict in a slot -/
def dKeys (i : Nat) : TDA := fun sl k Q => ∃ d ys, sl[i]? = some (Slot.d d) ∧ keysOf d = some ys ∧ Q ys k
/-- the slot's object is locked -/
def Zf (i : Nat) (σ : L2.St) (H : Hp) : Prop := ∃ a od u, σ[i]? = some (some (V.ref a)) ∧ H a = some (.frz od u)
def tZ (Z : L2.St → Hp → Prop) (t : TI) : TI := fun σ H R => Z σ H ∧ t σ H R
theorem keys_mono (i : Nat) : ∀ sl k P Q, (∀ d k', P d k' → Q d k') → dKeys i sl k P → dKeys i sl k Q := fun sl k P Q h ⟨d, ys, e1, e2, q⟩ => ⟨d, ys, e1, e2, h _ _ q⟩
theorem pi_keysZ {X : Cx} {tg : Expr} {x : Str} {py : Pos} {i : Nat} (hv : PE X (.Name x py) (tVar i)) : PI X tg (.Name x py) (tZ (Zf i) (tDI X.K (dKeys i))) := by
  refine PI.weak (pi_keys hv) fun σ H R ⟨⟨a, od, u, h1, h2⟩, g, sl, k, E, d, ys, e1, e2, q⟩ => ?_
  obtain ⟨v, hv, r⟩ := E.d i d e1
  rw [h1] at hv; cases hv
  refine ⟨_, h1, a, od, rfl, ?_⟩
  cases d with
  | dK kvs =>
    cases e2
    obtain ⟨a', ws, e, ⟨⟨o, ho, hc⟩, n⟩, rk⟩ := r
    cases e
    rw [h2] at ho; cases ho
    cases u <;> first | cases hc; done | skip
    cases hc
    exact .inl ⟨_, h2, q _ H (Bh.refl E) (walks_keysK h2 n rk.get)⟩
  | dT kvs =>
    cases e2
    obtain ⟨a', ws, e, ⟨⟨o, ho, hc⟩, n⟩, rk⟩ := r
    cases e
    rw [h2] at ho; cases ho
    cases u <;> first | cases hc; done | skip
    cases hc
    exact .inr ⟨_, h2, q _ H (Bh.refl E) (walks_keysT h2 n rk.get)⟩
  | _ => cases e2
/-! the lock -/
section
variable {K : PySem.W.Frag} {g : G} {sl sl' : SL} {k k' : Nat} {σ σ' : L2.St} {H H' : Hp} {a : Addr} {od : Obj} {u : HO}
def isDc : HO → Prop
  | .dK _ => True
  | .dT _ => True
  | _ => False
theorem core_frz (hu : isDc u) : core (.frz od u) = core u := by
  cases u <;> first | exact hu.elim | rfl
theorem lock_mv (hu : isDc u) (ha : H a = some u) (S : AS) : Mv H (upd H a (.frz od u)) S S := fun b x e n => by
  refine ⟨?_, n⟩
  by_cases q : b = a
  · subst q
    rw [ha] at e; cases e
    exact ⟨_, upd_same, core_frz hu⟩
  · exact ⟨x, by rw [upd_ne q]; exact e, rfl⟩
theorem unlock_mv (hu : isDc u) (ha : H a = some (.frz od u)) (S : AS) : Mv H (upd H a u) S S := fun b x e n => by
  refine ⟨?_, n⟩
  by_cases q : b = a
  · subst q
    rw [ha] at e; cases e
    exact ⟨_, upd_same, (core_frz hu).symm⟩
  · exact ⟨x, by rw [upd_ne q]; exact e, rfl⟩
/-- the context of what stands under the lock -/
theorem EnvOk.lock (E : EnvOk K g sl k σ H) (hu : isDc u) (ha : H a = some u) (n : ¬ OwnB sl σ a) : EnvOk K (g.at sl σ (upd H a (.frz od u))) sl k σ (upd H a (.frz od u)) := by
  have ne : ∀ b, OwnB sl σ b → b ≠ a := fun b z e => n (e ▸ z)
  refine E.move (g' := g.at sl σ (upd H a (.frz od u))) (lock_mv hu ha _) (fun i x b e q o h => ?_) (fun i b e q p => p.mv (lock_mv hu ha _) fun o h => ?_) (fun _ _ z => z) (fun b z _ => .inr z) (fun b z _ => .inl z) (LeA.refl _) (fun b z => ?_) (fun b z => ?_)
  · rw [upd_ne (ne b ⟨i, _, e, trivial, q⟩)]; exact h
  · rw [upd_ne (ne b ⟨i, _, e, trivial, q⟩)]; exact h
  · by_cases q : b = a
    · subst q; rw [upd_same]; intro z; cases z
    · rw [upd_ne q]; exact E.dom b z
  · show upd H a (.frz od u) b ≠ none
    rw [upd_ne (ne b z)]; exact (E.ownH z).1
/-- .. left again -/
theorem EnvOk.unlock (E : EnvOk K g sl k σ H) (hu : isDc u) (ha : H a = some u) (n : ¬ OwnB sl σ a) (E' : EnvOk K (g.at sl σ (upd H a (.frz od u))) sl' k' σ' H') :
    H' a = some (.frz od u) ∧ EnvOk K g sl' k' σ' (upd H' a u) := by
  have hl : H' a = some (.frz od u) := (E'.le a _ upd_same).elim id fun z => absurd z.1 n
  refine ⟨hl, E.unbase ?_⟩
  have m : ∀ S, Mv H' (upd H' a u) S S := unlock_mv hu hl
  refine E'.move (g' := g.at sl σ H) (m _) (fun i x b e q o h => ?_) (fun i b e q p => p.mv (m _) fun o h => ?_) (fun _ _ z => z) (fun b z w => w.imp (fun w => ?_) id) (fun b z w => w.imp id fun w => ⟨w.1, ?_⟩) (fun b x e => ?_) (fun b z => ?_) (fun b z => (E.ownH z).1)
  · have : b ≠ a := fun w => by
      subst w
      obtain ⟨b', q', o', _⟩ := E'.own i x e
      rw [q] at q'; cases q'
      cases x <;> first | exact o'.elim | (obtain ⟨vs, h1, _⟩ := o'; rw [hl] at h1; cases h1)
    rw [upd_ne this]; exact h
  · have : b ≠ a := fun w => by
      subst w
      obtain ⟨_, _, h1, _⟩ := p
      rw [hl] at h1; cases h1
    rw [upd_ne this]; exact h
  · have : b ≠ a := fun y => by subst y; exact absurd (upd_same.symm.trans w) (by intro y; cases y)
    exact (upd_ne this).symm.trans w
  · have w := w.2
    have : b ≠ a := fun y => by subst y; exact absurd (upd_same.symm.trans w) (by intro y; cases y)
    exact (upd_ne this).symm.trans w
  · by_cases q : b = a
    · subst q
      have e' : H b = some x := e
      rw [ha] at e'; cases e'
      exact .inl upd_same
    · rw [upd_ne q]
      exact E'.le b x (by rw [show (g.at sl σ (upd H a (.frz od u))).H0 = upd H a (.frz od u) from rfl, upd_ne q]; exact e)
  · by_cases q : b = a
    · subst q; rw [upd_same]; intro y; cases y
    · rw [upd_ne q]; exact E'.dom b z
/-- the statement for all the walk's dict: as it is, or locked -/
def dictS (sl : SL) (i : Nat) : Prop := ∃ d ys, sl[i]? = some (Slot.d d) ∧ keysOf d = some ys
theorem dict_at (E : EnvOk K g sl k σ H) {i : Nat} (h : dictS sl i) : ∃ a, σ[i]? = some (some (V.ref a)) ∧ ¬ OwnB sl σ a ∧ ∃ u, isDc u ∧ (H a = some u ∨ ∃ od, H a = some (.frz od u)) := by
  obtain ⟨d, ys, e1, e2⟩ := h
  obtain ⟨v, hv, r⟩ := E.d i d e1
  cases d with
  | dK kvs =>
    obtain ⟨a, ws, e, ⟨⟨o, ho, hc⟩, n⟩, rk⟩ := r
    subst e
    refine ⟨a, hv, fun z => n (.inr z), .dK ws, trivial, ?_⟩
    unfold core at hc
    split at hc
    · cases hc; exact .inr ⟨_, ho⟩
    · cases hc
    · rw [hc] at ho; exact .inl ho
  | dT kvs =>
    obtain ⟨a, ws, e, ⟨⟨o, ho, hc⟩, n⟩, rk⟩ := r
    subst e
    refine ⟨a, hv, fun z => n (.inr z), .dT ws, trivial, ?_⟩
    unfold core at hc
    split at hc
    · cases hc
    · cases hc; exact .inr ⟨_, ho⟩
    · rw [hc] at ho; exact .inl ho
  | _ => cases e2
end
theorem PS.or {X : Cx} {st : Stmt} {t t' : TS} (p : PS X st t) (p' : PS X st t') : PS X st (fun D σ H => t D σ H ∨ t' D σ H) := ⟨fun pins s σ H D I q => q.elim (p.run pins s σ H D I) (p'.run pins s σ H D I)⟩
theorem PE.or {X : Cx} {e : Expr} {t t' : TE} (p : PE X e t) (p' : PE X e t') : PE X e (fun σ H Q => t σ H Q ∨ t' σ H Q) := ⟨fun pins s σ H Q I q => q.elim (p.run pins s σ H Q I) (p'.run pins s σ H Q I)⟩
theorem dc_mut {u : HO} (h : isDc u) : Mut (some u) := by
  cases u <;> first | exact h.elim | trivial
section
variable {X : Cx} {tg iter : Expr} {body : List Stmt} {pos py : Pos} {is : List Nat} {tgd : TDG} {tb : TSd} {i : Nat} {x : Str}
theorem for_keys (hg : DG X tg is tgd) (hb : DSs X body tb) : ∀ {D : Ends} {σ : L2.St} {H : Hp}, tS X.K (dFor (dKeys i) tgd tb) D σ H → tFor (tDI X.K (dKeys i)) (tG X.K is tgd) (tS X.K tb) D σ H := fun {D σ H} ⟨g, sl, k, E, en, lk, q⟩ => by
  refine ⟨g, sl, k, en, keys_mono i _ _ _ _ (fun xs k1 ⟨I, i0, turn, fin⟩ J H1 B wk => ?_) q⟩
  have E1 := B.env
  refine ⟨fun j m σ' H' => ∃ sl' k', m = xs.length - j ∧ j ≤ xs.length ∧ I j sl' k' ∧ EnvOk X.K (g.at sl σ H1) sl' k' σ' H', ⟨xs.length, sl, k1, rfl, Nat.zero_le _, i0, E1.rebase⟩, ?_⟩
  rintro j m σ' H' ⟨sl', k', rfl, hj, hI, E'⟩
  have lS : LeA (fun b => Av (g.at sl σ H1) sl' σ' b ∨ OwnB sl σ b) H1 H' := E'.le.mono fun b z => .inr z
  obtain ⟨wk1, wk2⟩ := wk (fun b => Av (g.at sl σ H1) sl' σ' b ∨ OwnB sl σ b) (fun b z => by
    rcases z with (z | z) | z
    · exact .inl (.inl z)
    · rcases (E'.ownH z).2 with z | z
      · exact .inr z
      · exact .inl (.inr z)
    · exact .inl (.inr z)) H' lS
  by_cases hlt : j < xs.length
  · obtain ⟨go, wy⟩ := wk1 j xs[j] (by simp [hlt])
    refine .inr ⟨go, fun σ2 H2 => ∃ sl2 k2, I (j + 1) sl2 k2 ∧ EnvOk X.K (g.at sl σ H1) sl2 k2 σ2 H2, fun σ2 H2 ⟨sl2, k2, a, b⟩ => ⟨xs.length - (j + 1), by omega, sl2, k2, rfl, hlt, a, b⟩, fun v H2 y => ?_⟩
    obtain ⟨sm, rv⟩ := wy v H2 y
    have E2 := E'.grow sm
    have mx : Mv H2 H2 (fun b => Av (g.at sl σ H1) sl' σ' b ∨ OwnB sl σ b) (Av (g.at sl σ H1) sl' σ') := Mv.anti fun b z => .inl (.inl z)
    refine ⟨g.at sl σ H1, sl', k', xs[j], E2, Rep.mv mx _ mx rv, hg.mono _ _ _ _ (fun sl2 q2 σ2 G2 => ?_) (turn j xs[j] sl' k' (by simp [hlt]) hI)⟩
    exact ⟨g.at sl σ H1, sl2, k', { E with nx := I (j + 1), ct := I (j + 1), bk := E.nx }, G2.env, ⟨fun s q σ3 H3 en2 z => ⟨s, q, z, en2⟩, fun d v s q σ3 H3 en2 r z => lk.rt d v s q σ3 H3 (E1.unbase en2) r z, fun s q σ3 H3 en2 z => lk.nx _ _ _ _ (E1.unbase en2) z, fun s q σ3 H3 en2 z => ⟨s, q, z, en2⟩⟩, q2⟩
  · have e : j = xs.length := by omega
    subst e
    exact .inl ⟨wk2, lk.nx _ _ _ _ (E1.unbase E') (fin _ _ hI)⟩
/-- for k in d: -/
theorem ds_forK (hp : PassesOwn (model X.prog X.w) X.A X.env X.xe) (hc : X.calm = true) (hv : PE X (.Name x py) (tVar i)) (hg : DG X tg is tgd) (hb : DSs X body tb) (hs : ∀ z, foldedSetIterable (.Name x py) X.env z = pure z := by intro _; rfl) : DS X (.For tg (.Name x py) body [] pos) (dFor (dKeys i) tgd tb) := by
  have P : PS X (.For tg (.Name x py) body [] pos) _ := ps_for hp hc (pi_keysZ hv) hg.pg hb.pss hs
  refine ⟨PS.weak (PS.or P (ps_lock P)) fun D σ H h => ?_,
    fun E E' sl k l q => keys_mono i _ _ _ _ (fun xs k1 ⟨I, i0, turn, fin⟩ => ⟨I, i0, fun j x sl' k' a b => hg.mono _ _ _ _ (fun sl2 => hb.mono _ _ _ _ (l.loop _)) (turn j x sl' k' a b), fun _ _ z => l.nx _ _ (fin _ _ z)⟩) q⟩
  obtain ⟨g, sl, k, E, en, lk, q⟩ := h
  have hq := q
  obtain ⟨d, ys, e1, e2, _⟩ := q
  obtain ⟨a, hσ, no, u, hu, hH⟩ := dict_at en ⟨d, ys, e1, e2⟩
  rcases hH with hH | ⟨od, hH⟩
  · refine .inr ⟨a, u, hH, dc_mut hu, fun od => ⟨⟨a, od, u, hσ, upd_same⟩, for_keys hg hb ⟨g.at sl σ (upd H a (.frz od u)), sl, k, E, en.lock hu hH no, ?_, hq⟩⟩⟩
    refine ⟨fun sl' k' σ' H' e' z => ?_, fun d v sl' k' σ' H' e' r z => ?_, fun sl' k' σ' H' e' z => ?_, fun sl' k' σ' H' e' z => ?_⟩
    · obtain ⟨l1, l2⟩ := en.unlock hu hH no e'
      exact ⟨l1, lk.nx _ _ _ _ l2 z⟩
    · obtain ⟨l1, l2⟩ := en.unlock hu hH no e'
      exact ⟨l1, lk.rt _ _ _ _ _ _ l2 (Rep.mv (unlock_mv hu l1 _) d (unlock_mv hu l1 _) r) z⟩
    · obtain ⟨l1, l2⟩ := en.unlock hu hH no e'
      exact ⟨l1, lk.bk _ _ _ _ l2 z⟩
    · obtain ⟨l1, l2⟩ := en.unlock hu hH no e'
      exact ⟨l1, lk.ct _ _ _ _ l2 z⟩
  · exact .inl ⟨⟨a, od, u, hσ, hH⟩, for_keys hg hb ⟨g, sl, k, E, en, lk, hq⟩⟩
end
theorem NewRep.unlock {K : PySem.W.Frag} {S : AS} {H H' : Hp} {a : Addr} {od : Obj} {u : HO} {d : D} {v : V} (hu : isDc u) (ha : H a = some u) (ha' : H' a = some (.frz od u)) (h : NewRep K S (upd H a (.frz od u)) H' d v) : NewRep K S H (upd H' a u) d v := by
  have m : ∀ T, Mv H' (upd H' a u) T T := unlock_mv hu ha'
  have ne : ∀ {p}, upd H a (.frz od u) p = none → p ≠ a ∧ H p = none := fun {p} z => by
    have : p ≠ a := fun y => by subst y; rw [upd_same] at z; cases z
    exact ⟨this, by rw [upd_ne this] at z; exact z⟩
  cases d <;> first | exact h | skip
  · obtain ⟨p, vs, e, hp, hq, r⟩ := h; exact ⟨p, vs, e, (ne hp).2, by rw [upd_ne (ne hp).1]; exact hq, RepL.mv (m _) _ r⟩
  · obtain ⟨p, vs, e, hp, r⟩ := h; exact ⟨p, vs, e, (m S).tpA hp, RepL.mv (m _) _ r⟩
  · obtain ⟨p, vs, e, hp, hq, r⟩ := h; exact ⟨p, vs, e, (ne hp).2, by rw [upd_ne (ne hp).1]; exact hq, RepK.mv (m _) _ r⟩
  · obtain ⟨p, vs, e, hp, hq, r⟩ := h; exact ⟨p, vs, e, (ne hp).2, by rw [upd_ne (ne hp).1]; exact hq, RepT.mv (m _) _ r⟩
structure LcKOk (X : Cx) (elt tg : Expr) (x : Str) (py : Pos) (ifs : List Expr) (scope : Scope) (own : List (Str × Nat)) (is : List Nat) (i : Nat) (tgd : TDG) (tt : TDT) (te : TD) : Prop where
  ok : BlkOk X.N X.env.scope scope own
  hv : PE X (.Name x py) (tVar i)
  hg : ∀ (s : Shared) (H : Hp) (C : Addr) (cl : List (Str × Addr)) (fp : List Addr), DG (X.blk s H scope (compEnvC scope cl C X.env) fp) tg is tgd
  ht : ∀ (s : Shared) (H : Hp) (C : Addr) (cl : List (Str × Addr)) (fp : List Addr), DTs (X.blk s H scope (compEnvC scope cl C X.env) fp) ifs tt
  he : ∀ (s : Shared) (H : Hp) (C : Addr) (cl : List (Str × Addr)) (fp : List Addr), DE (X.blk s H scope (compEnvC scope cl C X.env) fp) .c elt te
  sub : ∀ i ∈ is, i ∈ own.map (·.2)
/-- [e for k in d if c] -/
theorem dn_lcK {X : Cx} {elt tg : Expr} {x : Str} {py pos : Pos} {ifs : List Expr} {scope : Scope} {own : List (Str × Nat)} {is : List Nat} {i : Nat} {tgd : TDG} {tt : TDT} {te : TD} (hc : X.calm = true) (hN : X.N.Nodup) (L : LcKOk X elt tg x py ifs scope own is i tgd tt te) (ne : Shared) (hs : ∀ z, foldedSetIterable (.Name x py) X.env z = pure z := by intro _; rfl) :
    DN X .c (.ListComp elt [⟨tg, .Name x py, ifs, 0⟩] scope pos) (dLc (dKeys i) tgd tt te (own.map (·.2))) := by
  have mg := (L.hg ne (fun _ => none) 0 [] []).mono
  have mt := (L.ht ne (fun _ => none) 0 [] []).mono
  have me := (L.he ne (fun _ => none) 0 [] []).mono
  have P : PE X (.ListComp elt [⟨tg, .Name x py, ifs, 0⟩] scope pos) (tLc (tZ (Zf i) (tDI X.K (dKeys i))) (tG X.K is tgd) (tDT X.K tt) (tD X.K .c te) (own.map (·.2))) := pe_lc hc hN (pi_keysZ L.hv) L.ok (fun s H C cl fp => (L.hg s H C cl fp).pg) (fun s H C cl fp => (L.ht s H C cl fp).pts) (fun s H C cl fp => (L.he s H C cl fp).pe) hs
  refine ⟨PE.weak (PE.or P (pe_lock P)) fun σ H Q h => ?_, lc_mono (keys_mono i) mg mt me⟩
  obtain ⟨g, sl, k, en, hpl, q⟩ := h
  have hq := q
  obtain ⟨d, ys, e1, e2, _⟩ := q
  obtain ⟨a, hσ, no, u, hu, hH⟩ := dict_at en ⟨d, ys, e1, e2⟩
  rcases hH with hH | ⟨od, hH⟩
  · refine .inr ⟨a, u, hH, dc_mut hu, fun od => ⟨⟨a, od, u, hσ, upd_same⟩, ?_⟩⟩
    refine lc_read (Q := fun v H' => H' a = some (HO.frz od u) ∧ Q v (upd H' a u)) (keys_mono i) mg mt me L.sub ⟨g.at sl σ (upd H a (.frz od u)), sl, k, en.lock hu hH no, lc_mono (keys_mono i) mg mt me sl k (fun d k' => ∀ (v : V) (H' : Hp), Bh X.K g sl σ H k' H' → NewRep X.K (Fl.c.sub g sl σ) H H' d v → Q v H') _ (fun d k' z v H' B r => ?_) ⟨hpl, hq⟩⟩
    obtain ⟨l1, l2⟩ := en.unlock hu hH no B.env
    refine ⟨l1, z v (upd H' a u) ⟨l2, fun b x e => ?_⟩ (r.unlock hu hH l1)⟩
    by_cases w : b = a
    · subst w
      rw [hH] at e; cases e
      exact .inl upd_same
    · rw [upd_ne w]
      exact B.le b x (by rw [upd_ne w]; exact e)
  · exact .inl ⟨⟨a, od, u, hσ, hH⟩, lc_read (keys_mono i) mg mt me L.sub ⟨g, sl, k, en, hpl, hq⟩⟩
/-- list(d) -/
def rListKD : RDA := fun ds Q => ∃ kvs, ds = [.dK kvs] ∧ Q (.lst (kvs.map fun p => keyD p.1))
theorem keys_rep {K : PySem.W.Frag} {S : AS} {H : Hp} : ∀ {kvs : List (Key × D)} {ws : List (Key × V)}, ws.map (·.1) = kvs.map (·.1) → RepL K S H (kvs.map fun p => keyD p.1) (ws.map fun p => kV p.1)
  | [], [], _ => rfl
  | [], _ :: _, h => by cases h
  | _ :: _, [], h => by cases h
  | p :: kvs, q :: ws, h => by
    rw [List.map_cons, List.map_cons] at h
    obtain ⟨h1, h2⟩ := List.cons.inj h
    exact ⟨kV q.1, _, rfl, by rw [h1]; exact keyD_mk _, keys_rep h2⟩
theorem cg_listD {X : Cx} (hc : X.calm = true := by rfl) : CallG X (.type "list") rListKD := by
  refine ⟨⟨_, call_listD hc, fun S T H ds vs P Q r q k => ?_⟩, fun ds P Q h ⟨x, e, q⟩ => ⟨x, e, h _ q⟩⟩
  obtain ⟨kvs, rfl, q⟩ := q
  obtain ⟨v, rfl, a, ws, rfl, ⟨⟨o, ho, hcr⟩, n⟩, rk⟩ := un1 r
  refine ⟨a, ws, rfl, core_rdK ho hcr, fun p hp => k _ _ _ q (fun b o z => by rw [upd_ne (ne_of_none z hp)]; exact z) (NewRep.lst (keys_rep rk.get) hp)⟩
end DL

/-! data layer, part s: defs called where no text of a container is under way; repr -/
namespace DL
open PySem PySem.Spec PyProof.Rows L2

/-- a def's promise, called where no container's text is being written -/
structure FnG (P : Program) (w : World) (K : PySem.W.Frag) (mg : Str → Option Value) (base : Heap) (k : Nat) (f : Addr) (fd : FuncData) (ps : List Str) (sp : Sp) : Prop where
  len : ∀ (vs : List V) (H : Hp) (Q : VK) (E : XK), sp vs H Q E → vs.length = ps.length
  run : ∀ (A : Around) (outer : List Env) (s : Shared) (H : Hp) (args : Args) (us : List Value) (vs : List V) (Q : VK) (E : XK), A.guards = some [] → Room k A → Env0 P w K mg base A outer s H →
    BindsTo s fd args (ps.zip us) → Vals vs us → sp vs H Q E → codeAny (model P w) A (Code.call (Value.ref f) args) (CR CX0 outer P w H s Q E) s
theorem FnOk.g {P : Program} {w : World} {K : PySem.W.Frag} {mg : Str → Option Value} {base : Heap} {k : Nat} {f : Addr} {fd : FuncData} {ps : List Str} {sp : Sp} (F : FnOk P w K mg base CX0 k f fd ps sp) : FnG P w K mg base k f fd ps sp :=
  ⟨F.len, fun A outer s H args us vs Q E _ => F.run A outer s H args us vs Q E⟩
theorem Fun.okG {P : Program} {w : World} {K : PySem.W.Frag} {mg : Str → Option Value} {base : Heap} {x qual : Str} {st : Stmt} {f : Addr} {fd : FuncData} {N ps : List Str} {k : Nat} {sp : Sp} (F : Fun K x qual st f fd) (S : FnScope N ps (defScope st))
    (len : ∀ (vs : List V) (H : Hp) (Q : VK) (E : XK), sp vs H Q E → vs.length = ps.length)
    (hbody : ∀ (cdv : Value) (A : Around) (outer : List Env) (s : Shared) (H : Hp) (vs : List V) (Q : VK) (E : XK), A.guards = some [] → Room k (A.deeper (envOfC qual (defScope st) s.heap.objs.size f cdv)) → sp vs H Q E →
      ∃ t, PSs (cxOf CX0 P w K mg base N qual (defScope st) f cdv A outer s H E).nox (defBody st) t ∧ t { nx := fun x H' => Q V.non H', rt := Q } (L2.start N vs) H) :
    FnG P w K mg base (k + 1) f fd ps sp := by
  obtain ⟨oc, od, kV, doc, pm, an, cdv, ct, osl, rfl, lk, hcd⟩ := F.ex
  refine ⟨len, fun A outer s H args us vs Q E hA hr e0 hb r hsp => ?_⟩
  have hl := len vs H Q E hsp
  have KX := W.Frag.In.keeps e0.mod.kin fun b o e => (e0.bs b o e).left
  have lim := Heap.NoLimit.keeps e0.mod.nolimit fun b o e => (e0.bs b o e).left
  refine codeAny_call_function (Room.depth hr) (KX f _ lk) rfl S.co S.gen rfl (W.codeRec_of KX hcd) (hb _ _ _ _ ?_)
  refine wpAny_newFunctionEnv_cells S.kind (fun y hy => ?_) fun env he s1 z => ?_
  · rcases S.par y.1 (List.of_mem_zip hy).1 with q | q
    · exact .inl q
    · exact .inr ⟨q, W.cellsFrom_some _ _ [] (.inl q)⟩
  · subst he
    refine ⟨Heap.NoLimit.keeps lim z.toInCall.keep, codeAny_func ?_⟩
    obtain ⟨t, ht, hq⟩ := hbody cdv A outer s H vs Q E hA (Room.deeper hr _) hsp
    have I := inv_start (CX := CX0) (E := E) S hr.hd e0 hl r z
    refine wpAny_mono (ht.nox.run [] s1 (L2.start N vs) H _ I hq) (fun fl s' hs => ?_) (fun e s' hs => hs)
    have fin : ∀ {σ' : L2.St} {H' : Hp} {v : V} {u : Value}, L2.Inv (cxOf CX0 P w K mg base N qual (defScope st) f cdv A outer s H E) [] σ' H' s' → L2.RelV v u → Q v H' → CR CX0 outer P w H s Q E (Except.ok (Flow.ret u)) s' :=
      fun {σ'} {H'} {v} {u} J rv q => ⟨v, H', J.os, J.bare, J.base, J.hok, rv, q⟩
    cases fl with
    | next => obtain ⟨σ', H', J, q⟩ := hs; exact fin (v := V.non) (u := Value.none) J rfl q
    | brk => obtain ⟨σ', H', J, q⟩ := hs; exact q.elim
    | cont => obtain ⟨σ', H', J, q⟩ := hs; exact q.elim
    | ret u => obtain ⟨v, σ', H', J, rv, q⟩ := hs; exact fin J rv q
theorem run_fnG {X : Cx} {k : Nat} {f : Addr} {fd : FuncData} {ps : List Str} {sp : Sp} {pins : List (Addr × Obj)} {σ : L2.St} {H : Hp} {s : Shared} {Q : VK} {us : List Value} {vs : List V} (F : FnG X.prog X.w X.K X.mg X.base k f fd ps sp) (hA : X.A.guards = some []) (hr : Room k X.A) (hb : Binds X.K fd ps [])
    (I : L2.Inv X pins σ H s) (r : Vals vs us) (h : sp (vs ++ []) H Q (fun _ _ _ => False)) : wpAny (model X.prog X.w) X.A (call (Value.ref f) us) (EP X pins σ Q) X.xe s := by
  rw [List.append_nil] at h
  have hl : (us ++ []).length = ps.length := by rw [List.append_nil, ← Vals.length r]; exact F.len _ _ _ _ h
  refine wpAny_call (codeAny_mono (F.run X.A X.stack s H { pos := us } (us ++ []) vs Q (fun _ _ _ => False) hA hr I.env0 (hb s us I.kIn hl) (by rw [List.append_nil]; exact r) h) fun r s' hq => ?_)
  cases r with
  | error e => exact hq.elim
  | ok fl =>
    cases fl with
    | ret u => exact Inv.after I hq
    | _ => exact hq.elim
theorem pe_callG {X : Cx} {k : Nat} {f : Addr} {fd : FuncData} {ps : List Str} {sp : Sp} {x : Str} {p pos : Pos} {e : Expr} {es : List Expr} {t : TA} (F : FnG X.prog X.w X.K X.mg X.base k f fd ps sp) (hA : X.A.guards = some []) (hr : Room k X.A) (hg : Gl X x) (hm : X.mg x = some (Value.ref f)) (hk : W.keepIn X.K (Value.ref f) = true) (hb : Binds X.K fd ps [])
    (ha : PA X (e :: es) t) (hdb : (x == ("__debug__" : Str)) = false := by decide) (he : starEach (e :: es) X.env = (false, eval e X.env) :: starEach es X.env := by rfl) (hpl : ((backTo pos (starEach es X.env)).any fun x => x.fst) = false := by rfl) :
    PE X ((Expr.Name x p).Call (e :: es) [] pos) (fun σ H Q => t σ H fun vs H1 => sp (vs ++ []) H1 Q (fun _ _ _ => False)) :=
  ⟨fun pins s σ H Q I h => wpAny_Call_Name_kw (ld_glob I hg hm (W.callWith_K I.ok.mod.kin hk (thn (ha.run pos pins s σ H _ I h) fun us s1 ⟨vs, H1, I1, r, q⟩ => ⟨I1.kIn, run_fnG F hA hr hb I1 r q⟩) he hpl) hdb)⟩
/-! ### over data -/
section
variable {X : Cx} {fl : Fl} {k0 : Nat} {f : Addr} {fdt : FuncData} {ps : List Str} {fd : FD} {fp : FP} {x y : Str} {p py pos : Pos} {e : Expr} {es : List Expr} {tA : TDA}
theorem de_callG (F : FnG X.prog X.w X.K X.mg X.base k0 f fdt ps (liftSp X.K fd)) (hA : X.A.guards = some []) (hr : Room k0 X.A) (hg : Gl X x) (hm : X.mg x = some (.ref f)) (hk : PySem.W.keepIn X.K (.ref f) = true) (hb : Binds X.K fdt ps [])
    (ha : DA X fl (e :: es) tA) (hf : fl.cd := by trivial) (hdb : (x == ("__debug__" : Str)) = false := by decide) (he : starEach (e :: es) X.env = (false, eval e X.env) :: starEach es X.env := by rfl) (hpl : (backTo pos (starEach es X.env)).any (·.1) = false := by rfl) :
    DE X fl (.Call (.Name x p) (e :: es) [] pos) (dCall fd tA) :=
  ⟨PE.weak (pe_callG F hA hr hg hm hk hb ha.pa hdb he hpl) fun σ H Q h => call_core hf ha h, fun sl k P Q h q => ha.mono _ _ _ _ (fun ds k1 => fd.mono _ _ _ fun z => h z k1) q⟩
theorem de_callPG {i : Nat} (F : FnG X.prog X.w X.K X.mg X.base k0 f fdt ps (liftSpP X.K fp)) (hA : X.A.guards = some []) (hr : Room k0 X.A) (hg : Gl X x) (hm : X.mg x = some (.ref f)) (hk : PySem.W.keepIn X.K (.ref f) = true) (hb : Binds X.K fdt ps [])
    (hv : PE X (.Name y py) (tVar i)) (ha : DA X .c es tA) (hdb : (x == ("__debug__" : Str)) = false := by decide) (h1 : starEach (.Name y py :: es) X.env = (false, eval (.Name y py) X.env) :: starEach es X.env := by rfl) (hpl : (backTo pos (starEach es X.env)).any (·.1) = false := by rfl) :
    DE X .c (.Call (.Name x p) (.Name y py :: es) [] pos) (dCallP i fp tA) :=
  ⟨PE.weak (pe_callG F hA hr hg hm hk hb (pa_cons hv ha.pa h1) hdb h1 hpl) fun σ H Q h => callP_core ha h,
    fun sl k P Q h ⟨hi, ho, q⟩ => ⟨hi, ho, ha.mono _ _ _ _ (fun ds k1 => fp.mono _ _ _ _ h) q⟩⟩
/-- repr(x) -/
def rReprD : RDA := fun ds Q => (∃ i : Int, ds = [.int i] ∧ i.natAbs.log2 < 1920 ∧ Q (.str (toString i))) ∨
  ∃ x a p, ds = [x] ∧ (x = .lst a ∨ x = .tup a) ∧ pyD x = some p ∧ p.showable = true ∧ p.hasDict = false ∧ p.depth ≤ 60 ∧ p.shown.length ≤ sizeLine ∧ Q (.str p.shown)
theorem call_reprD (hA : X.A.guards = some []) (hu : X.A.units + 64 < cLine) : CallR X (.builtin "repr") (fun vs H Q => (∃ i : Int, vs = [.int i] ∧ i.natAbs.log2 < 1920 ∧ Q (.str (toString i)) H) ∨ ∃ a p, vs = [.ref a] ∧ Dp X.K H (.ref a) p ∧ p.showable = true ∧ p.hasDict = false ∧ p.depth ≤ 60 ∧ p.shown.length ≤ sizeLine ∧ Q (.str p.shown) H) := by
  intro pins s σ H xs us Q I r h
  rcases h with ⟨i, rfl, hi, q⟩ | ⟨a, p, rfl, hp, h1, h2, h3, h4, q⟩
  · exact SkE.call_repr_int pins s σ H _ us Q I r ⟨i, rfl, hi, q⟩
  · obtain ⟨u, rfl, ru⟩ := L2.vals1 r
    have eu : u = Value.ref a := ru
    subst eu
    obtain ⟨as, rd⟩ := Dp.reads I p _ _ hp ru
    refine repr_of_reads' rd h1 (fun z => by rw [h2] at z; cases z) hA (by omega) (fun _ _ e => e) (fun h' u tk k => ?_) h4
    exact ⟨.str p.shown, H, I.kept k, ⟨u, rfl⟩, q⟩
theorem cg_repr (hA : X.A.guards = some []) (hu : X.A.units + 64 < cLine) : CallG X (.builtin "repr") rReprD := by
  refine ⟨⟨_, call_reprD hA hu, fun S T H ds vs P Q r q k => ?_⟩, fun ds P Q h q => q.imp (fun ⟨i, a, b, q⟩ => ⟨i, a, b, h _ q⟩) fun ⟨x, a, p, e, h0, h1, h2, h3, h4, h5, q⟩ => ⟨x, a, p, e, h0, h1, h2, h3, h4, h5, h _ q⟩⟩
  rcases q with ⟨i, rfl, hi, q⟩ | ⟨x, a, p, rfl, h0, h1, h2, h3, h4, h5, q⟩
  · obtain ⟨v, rfl, r1⟩ := un1 r
    rw [show v = .int i from r1]
    exact .inl ⟨i, rfl, hi, k _ _ _ q (fun _ _ h => h) (NewRep.sc rfl)⟩
  · obtain ⟨v, rfl, r1⟩ := un1 r
    have dp := pyD_ok x h1 r1
    rcases h0 with rfl | rfl
    · obtain ⟨b, vs, rfl, _⟩ := r1
      exact .inr ⟨b, p, rfl, dp, h2, h3, h4, h5, k _ _ _ q (fun _ _ h => h) (NewRep.sc rfl)⟩
    · obtain ⟨b, vs, rfl, _⟩ := r1
      exact .inr ⟨b, p, rfl, dp, h2, h3, h4, h5, k _ _ _ q (fun _ _ h => h) (NewRep.sc rfl)⟩
end
section
variable {P : Program} {w : World} {K : PySem.W.Frag} {mg : Str → Option Value} {base : Heap}
theorem def_okPG {x qual : Str} {st : Stmt} {f : Addr} {fdt : FuncData} {N ps : List Str} {k : Nat} {fp : FP} (F : Fun K x qual st f fdt) (S : FnScope N ps (defScope st)) (len : ∀ k ds Q, fp.r k ds Q → ds.length + 1 = ps.length)
    (hbody : ∀ (cdv : Value) (A : Around) (outer : List Env) (s : Shared) (H : Hp) (E : XK), A.guards = some [] → Room k (A.deeper (envOfC qual (defScope st) s.heap.objs.size f cdv)) → ∃ t, DSs (cxOf CX0 P w K mg base N qual (defScope st) f cdv A outer s H E).nox (defBody st) t ∧
      ∀ k ds (Q : D → Nat → Prop), fp.r k ds Q → t { nx := fun sl k' => sl[0]? = some .pen ∧ Q .non k', rt := fun d sl k' => sl[0]? = some .pen ∧ Q d k' } (startSP N ds) k) : FnG P w K mg base (k + 1) f fdt ps (liftSpP K fp) := by
  refine DL.Fun.okG F S (fun vs H Q E h => ?_) fun cdv A outer s H vs Q E hA hr h => ?_
  · obtain ⟨A, ds, a, ws, k, pb, pn, e, ha, hA, hp, r, q⟩ := h
    subst e
    rw [List.length_cons, ← r.length]
    exact len k ds _ q
  · obtain ⟨A', ds, a, ws, k1, pb, pn, e, ha, hA', hp, r, q⟩ := h
    subst e
    obtain ⟨t, ht, hq⟩ := hbody cdv A outer s H E hA hr
    refine ⟨_, ht.pss, ⟨A', fun b => b = a, H, pb, pn, a⟩, _, k1, _, start_envP hA' ha hp r, ?_, hq k1 ds _ q⟩
    have pen : ∀ {sl k σ H'}, EnvOk K ⟨A', fun b => b = a, H, pb, pn, a⟩ sl k σ H' → sl[0]? = some Slot.pen → PenAt K A' H' k pb pn a := fun {sl k σ H'} e h => by
      obtain ⟨a', q1, q2, _⟩ := e.pen 0 h
      have : a = a' := e.pa 0 a' h q1
      subst this
      exact q2.mv (Mv.anti fun b z => .inl (.inl z)) fun _ h => h
    exact ⟨fun sl k σ H' e q => q.2 .non H' e.le (pen e q.1) rfl, fun d v sl k σ H' e r q => q.2 v H' e.le (pen e q.1) r, fun _ _ _ _ _ q => q.elim, fun _ _ _ _ _ q => q.elim⟩
theorem def_okG {x qual : Str} {st : Stmt} {f : Addr} {fdt : FuncData} {N ps : List Str} {k : Nat} {fd : FD} (F : Fun K x qual st f fdt) (S : FnScope N ps (defScope st)) (len : ∀ ds Q, fd.r ds Q → ds.length = ps.length)
    (hbody : ∀ (cdv : Value) (A : Around) (outer : List Env) (s : Shared) (H : Hp) (E : XK), A.guards = some [] → Room k (A.deeper (envOfC qual (defScope st) s.heap.objs.size f cdv)) → ∃ t, DSs (cxOf CX0 P w K mg base N qual (defScope st) f cdv A outer s H E).nox (defBody st) t ∧
      ∀ ds (Q : D → Prop), fd.r ds Q → t { nx := fun _ _ => Q .non, rt := fun d _ _ => Q d } (startS N ds) 0) : FnG P w K mg base (k + 1) f fdt ps (liftSp K fd) := by
  refine DL.Fun.okG F S (fun vs H Q E h => ?_) fun cdv A outer s H vs Q E hA hr h => ?_
  · obtain ⟨A, ds, hA, r, q⟩ := h
    rw [← r.length]
    exact len ds _ q
  · obtain ⟨A', ds, hA', r, q⟩ := h
    obtain ⟨t, ht, hq⟩ := hbody cdv A outer s H E hA hr
    refine ⟨_, ht.pss, ⟨A', fun _ => False, H, 0, [], 0⟩, _, 0, _, start_env hA' r, ?_, hq ds _ q⟩
    have sm : ∀ {sl k σ H'}, EnvOk K ⟨A', fun _ => False, H, 0, [], 0⟩ sl k σ H' → Same H H' := fun {sl k σ H'} e b o h => (e.le b o h).elim id fun z => z.1.elim
    exact ⟨fun sl k σ H' e q => q .non H' (sm e) rfl, fun d v sl k σ H' e r q => q v H' (sm e) r, fun _ _ _ _ _ q => q.elim, fun _ _ _ _ _ q => q.elim⟩
end
/-! ### the law's own call -/
theorem law_callG {P : Program} {w : World} {K : PySem.W.Frag} {mg mb : Str → Option Value} {k : Nat} {fa a : Addr} {fd : FuncData} {x : Str} {sp : Sp} {s₁ : Shared} {vs : List Value} {ns : List Int} (KX : K.In s₁.heap) (hns : s₁.heap.Ns mainGlobals mg) (hb : s₁.heap.Ns builtinsNs mb)
    (hbb : ∀ (x : Str), x ≠ Str.ofString "__name__" → mb x = bootBuiltins x) (hlim : s₁.heap.NoLimit) (hg : s₁.gens = #[]) (ha : s₁.heap.get? a = some { cls := Value.type "list", data := Data.seq vs.toArray }) (hi : IntsAre vs ns) (hl : ns.length ≤ sizeLine) (hr : Room k callerA)
    (F : ∀ (base : Heap), K.In base → base.Ns mainGlobals mg → FnG P w K mg base k fa fd [x] sp) (hbind : ∀ (s : Shared) (u : Value), BindsTo s fd { pos := [u] } [(x, u)])
    (hsp : ∀ (H : Hp), Only H → SqL K H a (List.map V.int ns) → sp [V.ref a] H (fun v x => v = V.bl true) fun x x_1 x_2 => False) :
    codeAny (model P w) callerA (Code.call (Value.ref fa) { pos := [Value.ref a] }) (fun r s' => r = Except.ok (Flow.ret (Value.bool true)) ∧ OldK s₁.heap s'.heap ∧ s'.os = s₁.os ∧ AllBare s'.gens) s₁ := by
  have rv := vals_ints hi
  have lenV := IntsAre.length hi
  have core : ∀ H : Hp, Only H → SqL K H a (List.map V.int ns) → HOk P w H s₁.heap → (∀ b, H b ≠ none → b = a) → (H a ≠ none → List.lookup a K = none) → codeAny (model P w) callerA (Code.call (Value.ref fa) { pos := [Value.ref a] }) (fun r s' => r = Except.ok (Flow.ret (Value.bool true)) ∧ OldK s₁.heap s'.heap ∧ s'.os = s₁.os ∧ AllBare s'.gens) s₁ := by
    intro H hO hS hok hA hK
    have noA : ∀ {b o es ep}, s₁.heap.get? b = some o → o.data = Data.dict es ep → H b = none := fun {b o es ep} e d => by
      cases q : H b with
      | none => rfl
      | some u =>
        have e' := hA b (by rw [q]; intro z; cases z)
        subst e'
        rw [ha] at e; cases e; cases d
    have nsK : ∀ {b m}, s₁.heap.Ns b m → (hidT s₁.heap H).Ns b m := fun {b m} ⟨o, es, ep, e, d, r⟩ => ⟨o, es, ep, hidT_get e (noA e d), d, r⟩
    have hKb : K.In (hidT s₁.heap H) := fun b o e => hidT_get (KX b o e) (by
      cases q : H b with
      | none => rfl
      | some u =>
        have e' := hA b (by rw [q]; intro z; cases z)
        subst e'
        rw [hK (by rw [q]; intro z; cases z)] at e; cases e)
    obtain ⟨mc, l1, l2⟩ := hlim
    have hM : L2.Mod K mg (hidT s₁.heap H) := ⟨hKb, nsK hns, ⟨mb, nsK hb, hbb⟩, ⟨mc, nsK l1, l2⟩⟩
    have e0 : Env0 P w K mg (hidT s₁.heap H) callerA [] s₁ H := ⟨rfl, hM, fun b o e => of_hidT e, Nat.le_of_eq (hidT_size _ _), trivial, (fun b hb => by cases hb), hok, AllBare.of_eq hg⟩
    refine codeAny_mono ((F _ hKb (nsK hns)).run callerA [] s₁ H { pos := [Value.ref a] } [Value.ref a] [V.ref a] (fun v _ => v = V.bl true) (fun _ _ _ => False) rfl hr e0 (hbind s₁ (Value.ref a)) (.cons rfl .nil) (hsp H hO hS)) fun r s' h => ?_
    cases r with
    | error e => exact h.elim
    | ok fl =>
      cases fl with
      | ret u =>
        obtain ⟨v, H', os, bare, un, hok', r', q⟩ := h
        subst q
        have eu : u = Value.bool true := r'
        subst eu
        refine ⟨rfl, OldK.of_keep fun b o e => ?_, os, bare⟩
        cases q : H b with
        | none => exact un.keep b o e q (fun z => by cases z) (fun z => by cases z)
        | some u =>
          rcases hO b with z | ⟨ob, xs, z⟩
          · rw [q] at z; cases z
          · have z2 := un.frzs b ob (HO.lst xs) z
            obtain ⟨e1, _⟩ := hok b _ z
            obtain ⟨e2, _⟩ := hok' b _ z2
            rw [e] at e1; cases e1
            exact e2
      | _ => exact h.elim
  cases hk : List.lookup a K with
  | none =>
    refine core (fun b => if b = a then some (.frz { cls := Value.type "list", data := Data.seq vs.toArray } (.lst (List.map V.int ns))) else none) (fun b => ?_) (.inl (.inr ⟨_, if_pos rfl⟩)) (fun b u z => ?_) (fun b z => ?_) fun _ => hk
    · by_cases hb : b = a
      · exact .inr ⟨_, _, if_pos hb⟩
      · exact .inl (if_neg hb)
    · by_cases hb : b = a
      · subst hb
        have z' := (if_pos rfl).symm.trans z
        cases z'
        exact ⟨ha, by rw [List.length_map]; exact hl, vs, 0, rv, ha⟩
      · have z' := (if_neg hb).symm.trans z
        cases z'
    · by_cases hb : b = a
      · exact hb
      · exact absurd (if_neg hb) z
  | some o =>
    have e := KX a o hk
    rw [ha] at e; cases e
    refine core (fun _ => none) (fun _ => .inl rfl) (.inr ⟨_, vs.toArray, 0, hk, rfl, rfl, rfl, ?_, rv⟩) (fun b u z => by cases z) (fun b z => absurd rfl z) fun z => absurd rfl z
    rw [List.size_toArray, lenV]; exact hl
theorem walk_ofG {l : W.OpenLaw} {n k : Nat} {q : Program} {loose : List Str} {XP : (Str → Option Value) → Heap → Prop} {YP : World → Heap → Prop} {d : DefRec} {K : Params → W.Frag} {sp : World → Sp} {x : Str} (hn : l.most = some n) (hn2 : n ≤ sizeLine) (hdf : d.params.defaults = []) (hr : Room k callerA)
    (hY : ∀ (w : World) (h : Heap), YP w h → (K w.params).In h)
    (F : ∀ (w : World) (mg : Str → Option Value) (fa : Addr) (h : Heap), (K w.params).In h → h.Ns mainGlobals mg → mg d.name = some (Value.ref fa) → ∃ fd, (∀ (s : Shared) (u : Value), BindsTo s fd { pos := [u] } [(x, u)]) ∧ ∀ (base : Heap), (K w.params).In base → base.Ns mainGlobals mg → FnG l.prog w (K w.params) mg base k fa fd [x] (sp w))
    (hsp : ∀ (w : World) (H : Hp) (a : Addr) (ns : List Int), ns.length ≤ n → Only H → SqL (K w.params) H a (List.map V.int ns) → sp w [V.ref a] H (fun v x => v = V.bl true) fun x x_1 x_2 => False) :
    W.WalkO q loose XP YP l.row.toRowW d [] fun f vs => call f vs :=
  Att.attach_call hn hdf fun w s₀ s₁ mg mb fa o pm cd doc a vs ns G Y ho hd hcd hmg hobj hints hlen hg => by
    have KX := hY w s₁.heap Y
    obtain ⟨fd, hb, hF⟩ := F w mg fa s₁.heap KX G.T.g hmg
    exact law_callG KX G.T.g G.T.b G.T.builtins G.T.nolimit hg hobj hints (Nat.le_trans hlen hn2) hr hF hb fun H hO hS => hsp w H a ns hlen hO hS
end DL

/-! data layer, part t: calls by names, xs.index(y), len of a dict -/
namespace DL
open PySem PySem.Spec PyProof.Rows L2
structure DK (X : Cx) (fl : Fl) (kws : List Keyword) (t : TDA) : Prop where
  pk : PK X kws (tDA X.K fl t)
  mono : ∀ sl k P Q, (∀ d k', P d k' → Q d k') → t sl k P → t sl k Q
theorem PK.weak {X : Cx} {es : List Keyword} {t t' : TA} (p : PK X es t) (h : ∀ σ H Q, t' σ H Q → t σ H Q) : PK X es t' := ⟨fun pos pins s σ H Q I q => p.run pos pins s σ H Q I (h σ H Q q)⟩
def permL {α : Type} (perm : List Nat) (xs : List α) : List α := perm.filterMap (xs[·]?)
structure KB0 (K : PySem.W.Frag) (fd : FuncData) (ps ks : List Str) (perm : List Nat) : Prop where
  to : ∀ (s : Shared) (ws : List Value), ws.length = ks.length → BindsTo s fd { pos := [], kw := ks.zip ws } (ps.zip (permL perm ws))
theorem vals_perm {vs : List V} {us : List Value} (r : Vals vs us) : ∀ perm : List Nat, Vals (permL perm vs) (permL perm us)
  | [] => .nil
  | i :: is => by
    have ih := vals_perm r is
    unfold permL at ih ⊢
    rw [List.filterMap_cons, List.filterMap_cons]
    cases e : vs[i]? with
    | none =>
      have : us[i]? = none := by
        rw [List.getElem?_eq_none_iff] at e ⊢
        rw [← Vals.length r]; exact e
      rw [this]
      exact ih
    | some v =>
      obtain ⟨u, hu, ru⟩ := Vals.get r e
      rw [hu]
      exact .cons ru ih
theorem repL_perm {K : PySem.W.Frag} {S : AS} {H : Hp} {ds : List D} {vs : List V} (r : RepL K S H ds vs) : ∀ perm : List Nat, RepL K S H (permL perm ds) (permL perm vs)
  | [] => rfl
  | i :: is => by
    have ih := repL_perm r is
    unfold permL at ih ⊢
    rw [List.filterMap_cons, List.filterMap_cons]
    cases e : ds[i]? with
    | none =>
      have : vs[i]? = none := by
        rw [List.getElem?_eq_none_iff] at e ⊢
        rw [← r.length]; exact e
      rw [this]
      exact ih
    | some v =>
      obtain ⟨u, hu, ru⟩ := r.get e
      rw [hu]
      exact ⟨u, _, rfl, ru, ih⟩
def dCallK (perm : List Nat) (fd : FD) (t : TDA) : TD := fun sl k Q => t sl k fun ds k1 => fd.r (permL perm ds) fun d => Q d k1
section
variable {X : Cx} {fl fl' : Fl} {k0 : Nat} {f C : Addr} {fdt : FuncData} {ps ks : List Str} {fd : FD} {x y : Str} {p pos kp : Pos} {e o : Expr} {es : List Expr} {kws : List Keyword} {tA : TDA} {t ta tb : TD} {nm : Option Str} {perm : List Nat}
theorem dk_nil : DK X fl [] dNil := ⟨PK.weak pk_nil fun σ H Q ⟨g, sl, k, E, q⟩ => q [] H (Bh.refl E) rfl, fun _ _ _ _ h q => h _ _ q⟩
theorem dk_cons (h : DE X fl e t) (h2 : DK X fl kws tA) : DK X fl (⟨nm, e, kp⟩ :: kws) (dCons t tA) := by
  refine ⟨PK.weak (pk_cons h.pe h2.pk) fun σ H Q ⟨g, sl, k, E, q⟩ => ⟨g, sl, k, E, h.mono _ _ _ _ (fun x k1 q v H1 B1 r1 => ?_) q⟩, fun sl k P Q hh q => h.mono _ _ _ _ (fun x k1 => h2.mono _ _ _ _ fun xs k2 => hh _ _) q⟩
  exact ⟨g, sl, k1, B1.env, h2.mono _ _ _ _ (fun xs k2 q vs H2 B2 r2 => q _ H2 (B1.trans B2) ⟨v, vs, rfl, r1.le B2.le, r2⟩) q⟩
/-- f(a=.., b=..) -/
theorem pe_callK0 {sp : Sp} {k : Nat} {tk : TA} (F : FnOk X.prog X.w X.K X.mg X.base CX0 k f fdt ps sp) (hr : Room k X.A) (hg : Gl X x) (hm : X.mg x = some (.ref f)) (hk : W.keepIn X.K (.ref f) = true) (hb : KB0 X.K fdt ps ks perm) (hp : ∀ i ∈ perm, i < ks.length) (hkw : PK X kws tk)
    (h1 : ((backToKw pos (keywordEach kws X.env)).all fun x => x.fst.isSome) = true := by rfl) (h2 : List.filterMap (fun x => x.fst) (backToKw pos (keywordEach kws X.env)) = ks := by rfl) (hdb : (x == ("__debug__" : Str)) = false := by decide)
    (h3 : ((((backTo pos (starEach [] X.env)).any fun x => x.fst) || (backToKw pos (keywordEach kws X.env)).any fun x => x.fst.isNone) = false) := by rfl) :
    PE X (.Call (.Name x p) [] kws pos) (fun σ H Q => tk σ H fun vs H1 => vs.length = ks.length ∧ sp (permL perm vs) H1 Q (fun _ _ _ => False)) := by
  refine ⟨fun pins s σ H Q I h => wpAny_Call_Name_kw (ld_glob I hg hm (W.callWith_KW0 I.ok.mod.kin hk h1 (thn (hkw.run pos pins s σ H _ I h) fun us s1 z => ?_) h3) hdb)⟩
  obtain ⟨vs, H1, I1, r, hl, q⟩ := z
  refine ⟨I1.kIn, ?_⟩
  have rp := vals_perm r perm
  rw [h2]
  refine wpAny_call (codeAny_mono (F.run X.A X.stack s1 H1 _ (permL perm us) (permL perm vs) Q (fun _ _ _ => False) hr I1.env0 (hb.to s1 us (by rw [← Vals.length r]; exact hl)) rp q) fun r s' hq => ?_)
  cases r with
  | error e => exact hq.elim
  | ok fl =>
    cases fl with
    | ret u => exact Inv.after I1 hq
    | _ => exact hq.elim
theorem de_callK0 (F : FnOk X.prog X.w X.K X.mg X.base CX0 k0 f fdt ps (liftSp X.K fd)) (hr : Room k0 X.A) (hg : Gl X x) (hm : X.mg x = some (.ref f)) (hk : W.keepIn X.K (.ref f) = true) (hb : KB0 X.K fdt ps ks perm) (hp : ∀ i ∈ perm, i < ks.length) (hkw : DK X fl kws tA) (hf : fl.cd := by trivial)
    (h1 : ((backToKw pos (keywordEach kws X.env)).all fun x => x.fst.isSome) = true := by rfl) (h2 : List.filterMap (fun x => x.fst) (backToKw pos (keywordEach kws X.env)) = ks := by rfl) (hdb : (x == ("__debug__" : Str)) = false := by decide)
    (h3 : ((((backTo pos (starEach [] X.env)).any fun x => x.fst) || (backToKw pos (keywordEach kws X.env)).any fun x => x.fst.isNone) = false) := by rfl) :
    DE X fl (.Call (.Name x p) [] kws pos) (fun sl k Q => tA sl k fun ds k1 => ds.length = ks.length ∧ fd.r (permL perm ds) fun d => Q d k1) := by
  refine ⟨PE.weak (pe_callK0 F hr hg hm hk hb hp hkw.pk h1 h2 hdb h3) fun σ H Q ⟨g, sl, k, E, q⟩ => ⟨g, sl, k, E, hkw.mono _ _ _ _ (fun ds k1 ⟨hl, q⟩ vs H1 B1 r1 => ?_) q⟩, fun sl k P Q h q => hkw.mono _ _ _ _ (fun ds k1 ⟨hl, q⟩ => ⟨hl, fd.mono _ _ _ (fun z => h z k1) q⟩) q⟩
  have rr := isL_rep hf r1
  refine ⟨by rw [← rr.length]; exact hl, fl.sub g sl σ, permL perm ds, fun b z => B1.env.avdom (Fl.subAv z), repL_perm rr perm, fd.mono _ _ _ (fun d q v H' sm r => q v H' (B1.trans ⟨B1.env.grow sm, LeA.same sm⟩) ?_) q⟩
  cases fl
  · exact r
  · exact hf.elim
  · exact r
/-- xs.index(y), xs of ints -/
def dIdx (ta tb : TD) : TD := fun sl k Q => ta sl k fun a k1 => ∃ ns : List Int, a = intsD ns ∧ tb sl k1 fun b k2 => ∃ (j : Nat) (i : Int), b = .int i ∧ ns[j]? = some i ∧ (∀ m z, m < j → ns[m]? = some z → z ≠ i) ∧ Q (.int j) k2
theorem eqV_int (i j : Int) : eqV (V.int i) (V.int j) = decide (i = j) := by simp [eqV, BEq.beq]
theorem de_index (ho : DE X fl o ta) (he : DE X fl' e tb) {apos cpos : Pos} (hbase : attributeBase o "index" X.env (eval o X.env) = eval o X.env := by rfl)
    (hfew : ((((backTo cpos (starEach [e] X.env)).all fun x => !x.fst) && (backToKw cpos (keywordEach [] X.env)).all fun x => x.fst.isSome) && decide (([e].length + ([] : List Keyword).length + if ([] : List Keyword).isEmpty = true then 0 else 1) < 30)) = true := by rfl)
    (hline : (apos.endLine == cpos.line) = true := by rfl) (hst : starEach [e] X.env = (false, eval e X.env) :: starEach [] X.env := by rfl) (hplain : ((backTo cpos (starEach [] X.env)).any fun x => x.fst) = false := by rfl) :
    DE X .c (.Call (.Attribute o "index" apos) [e] [] cpos) (dIdx ta tb) := by
  refine ⟨PE.weak (pe_bm PySem.F.plainAttrs_list PySem.F.slot_list_index PySem.F.type_list_index mt_index ho.pe (pa_cons he.pe pa_nil hst) hbase hfew hline hst hplain) fun σ H Q ⟨g, sl, k, E, q⟩ => ?_, fun sl k P Q h q => ho.mono _ _ _ _ (fun a k1 ⟨ns, e1, q⟩ => ⟨ns, e1, he.mono _ _ _ _ (fun b k2 ⟨j, i, e2, e3, e4, q⟩ => ⟨j, i, e2, e3, e4, h _ _ q⟩) q⟩) q⟩
  refine ⟨g, sl, k, E, ho.mono _ _ _ _ (fun a k1 ⟨ns, e1, q⟩ v H1 B1 r1 => ?_) q⟩
  subst e1
  obtain ⟨p, rfl, l⟩ := unInts r1
  refine ⟨.inl ⟨rfl, _, l⟩, g, sl, k1, B1.env, he.mono _ _ _ _ (fun b k2 ⟨j, i, e2, e3, e4, q⟩ u H2 B2 r2 => ?_) q⟩
  subst e2
  obtain ⟨p', ep, l2⟩ := unInts (r1.le B2.le)
  cases ep
  refine ⟨p, _, u, j, .int i, rfl, rfl, l2, ?_, flat_ints ns, ?_, ?_, fun m z hm hz => ?_, q _ H2 (B1.trans B2) rfl⟩
  · rw [show u = .int i from r2]; rfl
  · rw [List.getElem?_map, e3]; rfl
  · rw [show u = .int i from r2, eqV_int, decide_eq_true rfl]
  · rw [List.getElem?_map] at hz
    cases e : ns[m]? with
    | none => rw [e] at hz; cases hz
    | some y =>
      rw [e] at hz; cases hz
      rw [show u = .int i from r2, eqV_int, decide_eq_false (e4 m y hm e)]
/-- len(d) -/
def rLenK : RDA := fun ds Q => (∃ kvs, ds = [.dK kvs] ∧ Q (.int kvs.length)) ∨ ∃ kvs, ds = [.dT kvs] ∧ Q (.int kvs.length)
theorem call_lenK : CallR X (.builtin "len") (fun vs H Q => ∃ a, vs = [V.ref a] ∧ ((∃ ws, Rd H a (.dK ws) ∧ Q (.int (ws.length : Nat)) H) ∨ ∃ ws, Rd H a (.dT ws) ∧ Q (.int (ws.length : Nat)) H)) := by
  intro pins s σ H xs us Q I r h
  obtain ⟨a, rfl, h⟩ := h
  obtain ⟨u, rfl, ru⟩ := L2.vals1 r
  have eu : u = Value.ref a := ru
  subst eu
  rcases h with ⟨ws, h, q⟩ | ⟨ws, h, q⟩
  · exact d_len I h fun t s' I' => ⟨V.int ↑ws.length, H, I', ⟨t, rfl⟩, q⟩
  · have z := dt_rd I.hok h
    obtain ⟨z1, z2, ys, rel, dd⟩ := z
    have hl := Paired.length rel
    refine call_len_dictH z2 dd ?_ ?_
    · rw [← hl]
      have := sizeLine_eq
      omega
    · rw [← hl]
      exact ⟨V.int ↑ws.length, H, I.tok _, ⟨s.toks + 1, rfl⟩, q⟩
theorem core_rdT' {H : Hp} {a : Addr} {x : HO} {ws : List (List Key × V)} (h : H a = some x) (c : core x = .dT ws) : Rd H a (.dT ws) := by
  unfold core at c
  split at c
  · cases c
  · cases c; exact .inr ⟨_, h⟩
  · rw [c] at h; exact .inl h
theorem RepK.length' {K : PySem.W.Frag} {S : AS} {H : Hp} {kvs : List (Key × D)} {ws : List (Key × V)} (r : RepK K S H kvs ws) : ws.length = kvs.length := by
  have := congrArg List.length r.get
  rwa [List.length_map, List.length_map] at this
theorem RepT.length' {K : PySem.W.Frag} {S : AS} {H : Hp} {kvs : List (List Key × D)} {ws : List (List Key × V)} (r : RepT K S H kvs ws) : ws.length = kvs.length := by
  have := congrArg List.length r.get
  rwa [List.length_map, List.length_map] at this
theorem cg_lenK : CallG X (.builtin "len") rLenK := by
  refine ⟨⟨_, call_lenK, fun S T H ds vs P Q r q k => ?_⟩, fun ds P Q h q => q.imp (fun ⟨x, e, q⟩ => ⟨x, e, h _ q⟩) fun ⟨x, e, q⟩ => ⟨x, e, h _ q⟩⟩
  rcases q with ⟨kvs, rfl, q⟩ | ⟨kvs, rfl, q⟩
  · obtain ⟨v, rfl, a, ws, rfl, ⟨⟨o, ho, hcr⟩, n⟩, rk⟩ := un1 r
    exact ⟨a, rfl, .inl ⟨ws, core_rdK ho hcr, by rw [rk.length']; exact k _ _ _ q (fun _ _ h => h) (NewRep.sc rfl)⟩⟩
  · obtain ⟨v, rfl, a, ws, rfl, ⟨⟨o, ho, hcr⟩, n⟩, rk⟩ := un1 r
    exact ⟨a, rfl, .inr ⟨ws, core_rdT' ho hcr, by rw [rk.length']; exact k _ _ _ q (fun _ _ h => h) (NewRep.sc rfl)⟩⟩
end
end DL

/-! data layer, part u: classes over one base: facts -/
namespace DL
open PySem PySem.Spec PyProof.Rows L2
structure FunS (P : Program) (K : PySem.W.Frag) (x qual : Str) (st : Stmt) (f : Addr) (fd : FuncData) (C : Addr) : Prop where
  ex : ∃ (oc : Value) (od : Option Addr) (kV doc pm : Value) (an : Option Addr) (ca : Addr) (ct : Value) (osl : Array (Option Value)) (cc : Addr) (ccl : Value) (cdd : Option Addr) (vs : Array Value) (ccs : Array (Option Value)) (file : Str) (tf : Tok) (cl : Value) (cld : Option Addr) (csl : Array (Option Value)),
    fd = W.ksFn x qual (defArgs st) (defBody st) (defScope st) Value.none kV doc pm an (.ref ca) ct cc ∧
    List.lookup f K = some { cls := oc, dict := od, data := Data.func fd, slots := osl } ∧ W.codeIn K (.ref ca) qual = true ∧
    List.lookup ca K = some { cls := ccl, dict := cdd, data := Data.fields vs, slots := ccs } ∧ vs[2]? = some (.str file tf) ∧ (P.main.file == file) = true ∧
    List.lookup cc K = some { cls := cl, dict := cld, data := Data.cell (some (.ref C)), slots := csl }
  top : (List.lookup ("super" : Str) P.main.scope.names).isSome = false
theorem funS_mk {P : Program} {K : PySem.W.Frag} {x qual : Str} {st : Stmt} {f C ca cc : Addr} {oc kV doc pm ct ccl cl : Value} {od an cdd cld : Option Addr} {osl ccs csl : Array (Option Value)} {vs : Array Value} {file : Str} {tf : Tok}
    (l : List.lookup f K = some { cls := oc, dict := od, data := Data.func (W.ksFn x qual (defArgs st) (defBody st) (defScope st) Value.none kV doc pm an (.ref ca) ct cc), slots := osl }) (c : W.codeIn K (.ref ca) qual = true)
    (l2 : List.lookup ca K = some { cls := ccl, dict := cdd, data := Data.fields vs, slots := ccs }) (l3 : vs[2]? = some (.str file tf)) (l4 : (P.main.file == file) = true)
    (l5 : List.lookup cc K = some { cls := cl, dict := cld, data := Data.cell (some (.ref C)), slots := csl }) (ht : (List.lookup ("super" : Str) P.main.scope.names).isSome = false) :
    FunS P K x qual st f (W.ksFn x qual (defArgs st) (defBody st) (defScope st) Value.none kV doc pm an (.ref ca) ct cc) C :=
  ⟨⟨oc, od, kV, doc, pm, an, ca, ct, osl, cc, ccl, cdd, vs, ccs, file, tf, cl, cld, csl, rfl, l, c, l2, l3, l4, l5⟩, ht⟩
theorem bindsS {K : PySem.W.Frag} {x qual : Str} {st : Stmt} {f ca cc : Addr} {oc kV doc pm ct : Value} {od an : Option Addr} {osl : Array (Option Value)} {ps : List Str}
    (l : List.lookup f K = some { cls := oc, dict := od, data := Data.func (W.ksFn x qual (defArgs st) (defBody st) (defScope st) Value.none kV doc pm an (.ref ca) ct cc), slots := osl })
    (h : ∀ (kV doc pm : Value) (an : Option Addr) (cdv ct : Value) (cc : Addr) (us : List Value), us.length = ps.length → bindArgs (W.ksFn x qual (defArgs st) (defBody st) (defScope st) Value.none kV doc pm an cdv ct cc) { pos := us } = pure (ps.zip us)) :
    Binds K (W.ksFn x qual (defArgs st) (defBody st) (defScope st) Value.none kV doc pm an (.ref ca) ct cc) ps [] := by
  intro s us _ hl
  rw [List.append_nil] at hl ⊢
  exact .of_eq (h _ _ _ _ _ _ _ us hl)
structure KidOf (K : PySem.W.Frag) (C f2 : Addr) : Prop where
  cls : ∃ cd, W.clsIn K C = some cd
  mro : W.mroIn K C (.ref C) = some true
  sup : W.ks_superIn K C C "__init__" = some (some (.ref f2))
end DL

/-! data layer, part v: comprehensions that change nothing, read -/
namespace DL
open PySem PySem.Spec PyProof.Rows L2
theorem take_snoc {α : Type} {xs : List α} {j : Nat} {x : α} (h : xs[j]? = some x) : xs.take (j + 1) = xs.take j ++ [x] := by
  rw [List.take_add_one, h]
  rfl
/-- what stands behind the walked thing, for those that pass, one by one -/
theorem lc_fm {tg : TDG} {tt : TDT} {te : TD} {vs : List Nat} {sl : SL} {k : Nat} {Q : D → Nat → Prop} {xs : List D} (p : D → Bool) (f : D → D) (hl : xs.length ≤ 100000)
    (step : ∀ x, x ∈ xs → ∀ (A : D → Nat → Prop) (B : Nat → Prop), (p x = true → A (f x) k) → (p x = false → B k) → tg x (wipeS sl vs) fun sl2 => tt sl2 k fun b k2 => if b = true then te sl2 k2 fun y k3 => A y k3 else B k2)
    (q : Q (.lst ((xs.filter p).map f)) k) :
    dLcIn tg tt te vs sl Q xs k := by
  refine ⟨hl, fun j acc k' => k' = k ∧ acc = ((xs.take j).filter p).map f, ⟨rfl, rfl⟩, fun j x acc k' hx ⟨e1, e2⟩ => ?_, fun acc k' ⟨e1, e2⟩ => ?_⟩
  · subst e1
    refine step x (List.mem_of_getElem? hx) (fun y k3 => k3 = k' ∧ acc ++ [y] = _) (fun k2 => k2 = k' ∧ acc = _) (fun hp => ⟨rfl, ?_⟩) fun hp => ⟨rfl, ?_⟩
    · rw [take_snoc hx, List.filter_append, List.map_append, ← e2]
      congr 1
      rw [List.filter_cons, if_pos hp]; rfl
    · rw [take_snoc hx, List.filter_append, List.map_append, ← e2, List.filter_cons, if_neg (by rw [hp]; intro z; cases z)]
      simp
  · subst e1 e2
    rw [List.take_length]
    exact q
theorem lc_map {tg : TDG} {te : TD} {vs : List Nat} {sl : SL} {k : Nat} {Q : D → Nat → Prop} {xs : List D} (f : D → D) (hl : xs.length ≤ 100000)
    (step : ∀ x, x ∈ xs → ∀ (A : D → Nat → Prop), A (f x) k → tg x (wipeS sl vs) fun sl2 => te sl2 k A)
    (q : Q (.lst (xs.map f)) k) :
    dLcIn tg dYes te vs sl Q xs k := by
  refine lc_fm (tt := dYes) (fun _ => true) f hl (fun x hx A B hA _ => step x hx A (hA rfl)) ?_
  rw [List.filter_eq_self.mpr fun _ _ => rfl]
  exact q
end DL

/-! data layer, part w: sorted(set(xs)) of ints, list(range(n)) -/
namespace DL
open PySem PySem.Spec PyProof.Rows L2
/-- an empty set -/
abbrev zeroSet (w : World) : Obj := { cls := .type "set", dict := none, data := .set #[] 0 (.fresh 0 0 (!w.params.followText "set-order")) }
/-- a new object of a built-in type: made, then begun -/
theorem made_begun {P : Program} {w : World} {A : Around} {E : Value → Shared → Prop} {s : Shared} {T newId initId : String} {us : List Value} {Q Q1 : Value → Shared → Prop} (ft : TypeCalled T newId initId) (ok : checkTypeCall T ⟨us, []⟩ = pure ())
    (new : codeAny (model P w) A.in1 (.call (.builtin newId) ⟨.type T :: us, []⟩) (wants Q1 E) s)
    (begun : ∀ v t, Q1 v t → t.TypeIs v T ∧ codeAny (model P w) A.in1 (.call (.builtin initId) ⟨v :: us, []⟩) (wants (fun r t' => r = .none ∧ Q v t') E) t) :
    wpAny (model P w) A (call (.type T) us) Q E s := by
  have ⟨mc, mt, mro⟩ := ft.mro; have md := ft.made; have sb := ft.sub
  refine wpAny_call <| codeAny_of_tree (show wpAny _ _ (callAny (.type T) _) _ _ _ from wpAny_pure ⟨Code.quiet_builtin _ (by decide +kernel), codeAny_builtin F.entry_type_call ?_⟩)
  rw [Around.under_plain (weight_type_call_type T us []) rfl]
  have nt := ft.notType; have cc := ft.canCreate
  repeat (any_goals (first | assumption | wp_step))
  refine codeAny_mono new fun r t hr => ?_
  match r, hr with
  | .error _, hr => exact hr
  | .ok (.ret v), hr =>
    obtain ⟨ty, bg⟩ := begun _ _ hr
    have il := ft.init.lookup; have ib := ft.init.bind v
    repeat (any_goals (first | assumption | wp_step))
    refine codeAny_mono bg fun r2 t2 hr2 => ?_
    match r2, hr2 with
    | .error _, hr2 => exact hr2
    | .ok (.ret u), hr2 =>
      obtain ⟨rfl, q⟩ := hr2
      repeat (any_goals (first | assumption | wp_step))
set_option maxHeartbeats 3200000 in
/-- set(xs) of a list of ints -/
theorem set_of_list {P : Program} {w : World} {A : Around} {E : Value → Shared → Prop} {s : Shared} {l : Addr} {items : Array Value} {ns : List Int} (noH : A.handled = none) (isL : s.heap.IsList l items) (hin : IntsAre items.toList ns) (few : ns.length + 1 < scanBound)
    {Q : Value → Shared → Prop} (fin : ∀ h' tk c, SetR w h' s.heap.objs.size (fun j => decide (j ∈ ns)) c → c ≤ ns.length → (∀ b o, s.heap.get? b = some o → h'.get? b = some o) → Q (.ref s.heap.objs.size) { s with heap := h', toks := tk }) :
    wpAny (model P w) A (call (.type "set") [.ref l]) Q E s := by
  have cnt : items.size = ns.length := by have := IntsAre.length hin; rwa [Array.length_toList] at this
  refine made_begun F.called_set (F.typeCall_set_1 (.ref l)) (code_set_led1 (.ref l) (Q₁ := fun v t => v = .ref s.heap.objs.size ∧ t = { s with heap := s.heap.push (zeroSet w) }) ⟨rfl, rfl⟩) fun v t vt => ?_
  obtain ⟨rfl, rfl⟩ := vt
  have atS : (s.heap.push (zeroSet w)).get? s.heap.objs.size = some (zeroSet w) := Heap.get?_push_size _ rfl
  have isS : Shared.TypeIs { s with heap := s.heap.push (zeroSet w) } (.ref s.heap.objs.size) "set" := ⟨_, atS, rfl⟩
  have isL' := isL.push (zeroSet w)
  refine ⟨isS, codeAny_call_builtin F.called_set.init.plain F.entry_set_init (check_set_init_1 isS ?_)⟩
  obtain ⟨⟨oc, od, ot, os⟩, atL, hc, n, hd⟩ := id isL
  simp only at hc hd
  subst hc hd
  have atL' : (s.heap.push (zeroSet w)).get? l = _ := Heap.get?_push_of_some _ atL
  have ltL : l < s.heap.objs.size := Heap.lt_size atL
  have k1 := F.sub_list_set
  have k2 := F.sub_list_frozenset
  have k3 : (Value.type "list" == Value.type "dict") = false := by decide
  unfold Builtin.«set.__init__» noKeywords Builtin.Frozenset.updateFrom
  generalize hI : pyIter = it
  wp_walk
  subst hI
  refine wpAny_pyIter_list isL' (wpAny_bind (wpAny_runValue ?_))
  have val : ∀ (i : Nat) (v : Value), items[i]? = some v → ∃ k t, ns[i]? = some k ∧ v = .int k t := fun i v hv => by
    have hi : i < ns.length := by rw [← cnt]; exact (Array.getElem?_eq_some_iff.mp hv).1
    obtain ⟨t, e⟩ := IntsAre.int_at hin i v (by rw [Array.getElem?_toList]; exact hv)
    exact ⟨ns[i], t, List.getElem?_eq_getElem hi, by rw [e, List.getD_eq_getElem?_getD, List.getElem?_eq_getElem hi]; rfl⟩
  have sz : (s.heap.push (zeroSet w)).objs.size = s.heap.objs.size + 1 := Heap.size_push ..
  have W := (Walks.list (prog := P) (w := w) (A := A.in1.in1.in1) (by simp [noH]) (s.heap.push (zeroSet w)).objs.size l (by rw [sz]; exact Nat.ne_of_lt (Nat.lt_succ_of_lt ltL)) items).toS
  refine set_update_ints W s.heap.objs.size (by rw [sz]; simp only [List.mem_cons, List.not_mem_nil, or_false, not_or]; exact ⟨Nat.ne_of_lt (Nat.lt_succ_self _), Nat.ne_of_gt ltL⟩) ns cnt few val (items.size - 0) 0 _ (by omega) (Nat.zero_le _)
    ⟨⟨_, Heap.get?_push_size _ rfl, rfl, rfl⟩, isL'.push _⟩ ⟨0, Nat.le_refl 0, setR_new_at (Heap.get?_push_of_some _ atS)⟩ fun s' c mv hc hS => ?_
  obtain ⟨h', g', d', t', o'⟩ := s'
  obtain rfl : g' = s.gens := mv.gens
  obtain rfl : d' = s.drawn := mv.drawn
  obtain rfl : o' = s.os := mv.os
  show wpAny _ _ _ _ _ _
  refine wpAny_pure ?_
  show wpAny _ _ (ret Value.none) _ _ _
  refine wpAny_pure ⟨rfl, fin h' t' c hS (by rw [← cnt]; exact hc) fun b o e => mv.heap b o ?_ (Heap.get?_push_of_some _ (Heap.get?_push_of_some _ e))⟩
  have lb := Heap.lt_size e
  simp only [List.mem_cons, List.not_mem_nil, or_false, not_or]
  exact ⟨Nat.ne_of_lt lb, by rw [sz]; exact Nat.ne_of_lt (Nat.lt_succ_of_lt lb)⟩
theorem nodup_le {α : Type} : ∀ {xs L : List α}, xs.Nodup → (∀ x ∈ xs, x ∈ L) → xs.length ≤ L.length
  | [], _, _, _ => Nat.zero_le _
  | x :: xs, L, hn, h => by
    have hx := h x List.mem_cons_self
    obtain ⟨L1, L2, rfl⟩ := List.append_of_mem hx
    have hc := List.nodup_cons.mp hn
    have i := nodup_le (L := L1 ++ L2) hc.2 fun y hy => by
      have := h y (List.mem_cons_of_mem x hy)
      rw [List.mem_append, List.mem_cons] at this
      rcases this with z | rfl | z
      · exact List.mem_append_left _ z
      · exact absurd hy hc.1
      · exact List.mem_append_right _ z
    rw [List.length_append] at i
    rw [List.length_append, List.length_cons, List.length_cons]
    omega
theorem asc_nodup {xs : List Int} (h : xs.Pairwise (· < ·)) : xs.Nodup := by
  rw [List.nodup_iff_pairwise_ne]
  exact h.imp fun {a b} z e => by omega
theorem setR_le {w : World} {h : Heap} {a : Addr} {S : Int → Bool} {n : Nat} (R : SetR w h a S n) {L : List Int} (hL : ∀ j, S j = true → j ∈ L) : n ≤ L.length := by
  obtain ⟨o, es, ep, t, ho, hex, hdt, g, nd, hm2, hb, hf, hn, hr, hl2⟩ := R
  have := nodup_le nd fun j hj => hL j ((hm2 j).mpr hj)
  rw [List.length_map, Array.length_toList] at this
  omega
/-- set(xs) of ints -/
def rSetI (K : PySem.W.Frag) (w : World) : List V → Hp → VK → Prop := fun xs H Q => ∃ (p : Addr) (ns : List Int), xs = [.ref p] ∧ (SqL K H p (ns.map V.int) ∨ SqT K H p (ns.map V.int)) ∧ ns.length + 1 < scanBound ∧
  ∀ (a : Addr) (c : Nat), H a = none → (∀ L : List Int, (∀ j ∈ ns, j ∈ L) → c ≤ L.length) → Q (.ref a) (upd H a (SetO w a (fun j => decide (j ∈ ns)) c))
section
variable {X : Cx} {fl : Fl} {e a b : Expr} {t ta tb : TD} {p p2 pos pos2 : Pos}
theorem cr_setI (hc : X.calm = true) : CallR X (.type "set") (rSetI X.K X.w) := fun pins s σ H xs us Q I r h => by
  obtain ⟨l, ns, rfl, sq, few, q⟩ := h
  rw [Vals.ref1 r]
  have hd := I.ok.hd hc
  have last : ∀ h' tk c, SetR X.w h' s.heap.objs.size (fun j => decide (j ∈ ns)) c → c ≤ ns.length → (∀ b o, s.heap.get? b = some o → h'.get? b = some o) →
      ∃ x H', L2.Inv X pins σ H' { s with heap := h', toks := tk } ∧ RelV x (Value.ref s.heap.objs.size) ∧ Q x H' := fun h' tk c R1 hcn k =>
    ⟨.ref s.heap.objs.size, upd H s.heap.objs.size (SetO X.w s.heap.objs.size (fun j => decide (j ∈ ns)) c), I.laid (t' := tk) k (Nat.le_refl _) (setO_new R1), rfl, q _ c (I.hok.fresh (Nat.le_refl _)) fun L hL => setR_le R1 fun j hj => hL j (of_decide_eq_true hj)⟩
  rcases sq with sq | sq
  · obtain ⟨its, rv, pt, hz⟩ := I.list sq
    have pl : s.heap.IsList l its.toArray := (let ⟨o, n, ho, hk, _, hd⟩ := pt; ⟨o, ho, hk, n, hd⟩)
    exact set_of_list hd pl (ints_of_vals rv) few fun h' tk c R1 hcn k => last h' tk c R1 hcn k
  · obtain ⟨its, rv, pt, hz⟩ := I.tuple sq
    exact call_set_tupI ns hd (show s.heap.IsTuple l its.toArray from pt) (ints_of_vals rv) few fun h' tk c R1 hcn k => last h' tk c R1 hcn k
/-- sorted(set(xs)) -/
def dSS (t : TD) : TD := fun sl k Q => t sl k fun d k' => ∃ ns : List Int, (d = intsD ns ∨ d = .tup (ns.map D.int)) ∧ ns.length < 4000 ∧ (∃ L : List Int, (∀ j ∈ ns, j ∈ L) ∧ L.length < 64) ∧ ∀ ns' : List Int, ns'.Pairwise (· < ·) → (∀ j, j ∈ ns' ↔ j ∈ ns) → Q (intsD ns') k'
theorem dn_sortedSet (hc : X.calm = true) (hg : Gl X "sorted") (hm : X.mg "sorted" = none) (hg2 : Gl X "set") (hm2 : X.mg "set" = none) (h : DE X fl e t) (he : starEach [e] X.env = (false, eval e X.env) :: starEach [] X.env := by rfl)
    (h2 : starEach [Expr.Call (.Name "set" p2) [e] [] pos2] X.env = (false, eval (Expr.Call (.Name "set" p2) [e] [] pos2) X.env) :: starEach [] X.env := by rfl) :
    DN X .c (.Call (.Name "sorted" p) [.Call (.Name "set" p2) [e] [] pos2] [] pos) (dSS t) := by
  refine ⟨PE.weak (pe_callB (L2.cr_sortedSet hc) hg hm (by decide +kernel) (pa_cons (pe_callTy (cr_setI hc) hg2 hm2 (by decide +kernel) (pa_cons h.pe pa_nil he) (he := he)) pa_nil h2) (he := h2)) fun σ H Q ⟨g, sl, k, E, q⟩ => ?_,
    fun sl k P Q hh q => h.mono _ _ _ _ (fun d k' ⟨ns, hd, hl, hL, z⟩ => ⟨ns, hd, hl, hL, fun ns' h1 h2 => hh _ _ (z ns' h1 h2)⟩) q⟩
  refine ⟨g, sl, k, E, h.mono _ _ _ _ (fun d k' ⟨ns, hd, hl, ⟨L, hL, hL2⟩, z⟩ v H' B r => ?_) q⟩
  have sq : ∃ l, v = .ref l ∧ (SqL X.K H' l (ns.map V.int) ∨ SqT X.K H' l (ns.map V.int)) := by
    rcases hd with rfl | rfl
    · obtain ⟨l, e, s⟩ := unInts r; exact ⟨l, e, .inl s⟩
    · obtain ⟨l, vs, e, tp, rl⟩ := r
      rw [RepL.ints rl] at tp
      exact ⟨l, e, .inr tp.sq⟩
  obtain ⟨l, rfl, sq⟩ := sq
  refine ⟨l, ns, rfl, sq, by unfold scanBound; omega, fun p1 c h1 hcn => ⟨p1, _, c, rfl, upd_same, (by have := hcn L hL; omega), fun ns' p3 srt mem _ h3 => z ns' srt (fun j => by rw [mem j]; exact decide_eq_true_iff) _ _ ((B.new h1).new h3) ?_⟩⟩
  refine NewRep.back (mkInts h3) fun b hb => ?_
  have hH : ∀ b, upd H' p1 (SetO X.w p1 (fun j => decide (j ∈ ns)) c) b = none → H b = none := fun b hb => (LeA.trans B.le (LeA.new h1)).nn hb
  exact hH b hb
/-- list(range(n)) -/
def dLRg (t : TD) : TD := fun sl k Q => t sl k fun d k' => ∃ n : Int, d = .int n ∧ -100000 ≤ n ∧ n ≤ 100000 ∧ Q (intsD ((List.range n.toNat).map fun (j : Nat) => (j : Int))) k'
theorem dn_listRg (hc : X.calm = true) (hg : Gl X "list") (hm : X.mg "list" = none) (hg2 : Gl X "range") (hm2 : X.mg "range" = none) (h : DE X fl a ta) (he : starEach [a] X.env = (false, eval a X.env) :: starEach [] X.env := by rfl)
    (h2 : starEach [Expr.Call (.Name "range" p2) [a] [] pos2] X.env = (false, eval (Expr.Call (.Name "range" p2) [a] [] pos2) X.env) :: starEach [] X.env := by rfl) :
    DN X .c (.Call (.Name "list" p) [.Call (.Name "range" p2) [a] [] pos2] [] pos) (dLRg ta) := by
  refine ⟨PE.weak (pe_listRg hc hg hm (prg_1 hg2 hm2 h.pe he) h2) fun σ H Q ⟨g, sl, k, E, q⟩ => ?_,
    fun sl k P Q hh q => h.mono _ _ _ _ (fun d k' ⟨n, hd, h1, h2, z⟩ => ⟨n, hd, h1, h2, hh _ _ z⟩) q⟩
  refine ⟨g, sl, k, E, h.mono _ _ _ _ (fun d k' ⟨n, hd, h1, h2, z⟩ v H' B r => ?_) q⟩
  subst hd
  refine ⟨n, r, ⟨by omega, by omega, by omega, by omega, by omega⟩, fun p1 hp => ?_⟩
  have er : rgV 0 n = ((List.range n.toNat).map fun (j : Nat) => (j : Int)).map V.int := by
    unfold rgV
    rw [List.map_map, Int.sub_zero]
    exact List.map_congr_left fun j _ => by show V.int (0 + (j : Int)) = _; rw [Int.zero_add]; rfl
  rw [er]
  exact z _ _ (B.new hp) (NewRep.back (mkInts hp) fun b hb => B.le.nn hb)
/-- max(i, j), min(i, j) -/
def rMax2 : RDA := fun ds Q => ∃ i j : Int, ds = [.int i, .int j] ∧ Q (.int (max i j))
def rMin2 : RDA := fun ds Q => ∃ i j : Int, ds = [.int i, .int j] ∧ Q (.int (min i j))
theorem cg_max2 (hc : X.calm = true := by rfl) : CallG X (.builtin "max") rMax2 := by
  refine ⟨⟨_, call_max2 hc, fun S T H ds vs P Q r q k => ?_⟩, fun ds P Q h ⟨i, j, e, q⟩ => ⟨i, j, e, h _ q⟩⟩
  obtain ⟨i, j, rfl, q⟩ := q
  obtain ⟨v, u, rfl, r1, r2⟩ := un2 r
  have e : (if j > i then j else i) = max i j := by split <;> omega
  exact ⟨i, j, by rw [show v = .int i from r1, show u = .int j from r2], k _ _ _ q (fun _ _ h => h) (NewRep.sc (by rw [← e]; rfl))⟩
theorem cg_min2 (hc : X.calm = true := by rfl) : CallG X (.builtin "min") rMin2 := by
  refine ⟨⟨_, call_min2 hc, fun S T H ds vs P Q r q k => ?_⟩, fun ds P Q h ⟨i, j, e, q⟩ => ⟨i, j, e, h _ q⟩⟩
  obtain ⟨i, j, rfl, q⟩ := q
  obtain ⟨v, u, rfl, r1, r2⟩ := un2 r
  have e : (if j < i then j else i) = min i j := by split <;> omega
  exact ⟨i, j, by rw [show v = .int i from r1, show u = .int j from r2], k _ _ _ q (fun _ _ h => h) (NewRep.sc (by rw [← e]; rfl))⟩
end
end DL

/-! data layer, part x: zip, bool(b), == of instances by their own __eq__ -/
namespace DL
open PySem PySem.Spec PyProof.Rows L2 RZ
/-! zip of two tuples or of two lists -/
def zipD (xs ys : List D) : List D := (xs.zip ys).map fun p => .tup [p.1, p.2]
theorem zipD_get {xs ys : List D} {j : Nat} {d : D} (h : (zipD xs ys)[j]? = some d) : ∃ x y, xs[j]? = some x ∧ ys[j]? = some y ∧ d = .tup [x, y] := by
  unfold zipD at h
  rw [List.getElem?_map] at h
  cases e : (xs.zip ys)[j]? with
  | none => rw [e] at h; cases h
  | some p =>
    rw [e] at h
    cases h
    rw [List.getElem?_zip_eq_some] at e
    exact ⟨p.1, p.2, e.1, e.2, rfl⟩
theorem zipD_len (xs ys : List D) : (zipD xs ys).length = min xs.length ys.length := by unfold zipD; rw [List.length_map, List.length_zip]
section
variable {K : PySem.W.Frag} {S : AS} {H : Hp} {xs ys : List D} {vs ws : List V} {a b : Addr}
theorem walks_zipT (h : H a = some (.tup vs)) (h' : H b = some (.tup ws)) (r : RepL K S H xs vs) (r' : RepL K S H ys ws) : Walks K S H (ItzT K a b) (zipD xs ys) := fun S' hS' H1 l => by
  have keep : ∀ c us, H c = some (.tup us) → H1 c = some (.tup us) := fun c us e => (l c _ e).elim id fun z => z.2.1.elim
  have h1 := keep a _ h
  have h2 := keep b _ h'
  have r1 : RepL K S' H1 xs vs := RepL.mv (Mv.le l (fun _ z => z) fun _ z => .inl z) xs (RepL.mv (Mv.anti hS') xs r)
  have r2 : RepL K S' H1 ys ws := RepL.mv (Mv.le l (fun _ z => z) fun _ z => .inl z) ys (RepL.mv (Mv.anti hS') ys r')
  refine ⟨fun i d e => ?_, ⟨vs, ws, .inl (.inl h1), .inl (.inl h2), by rw [← r1.length, ← r2.length, zipD_len]; omega⟩⟩
  obtain ⟨x, y, ex, ey, rfl⟩ := zipD_get e
  obtain ⟨v, hv, rv⟩ := r1.get ex
  obtain ⟨u, hu, ru⟩ := r2.get ey
  refine ⟨⟨vs, ws, v, u, .inl (.inl h1), .inl (.inl h2), hv, hu⟩, fun w H' ⟨T, z1, z2, e1, hT, e2, e3, e4⟩ => ?_⟩
  subst e1 e2
  have g1 := e3 vs (.inl (.inl h1))
  have g2 := e4 ws (.inl (.inl h2))
  rw [hv] at g1
  rw [hu] at g2
  cases g1
  cases g2
  have mT : Mv H1 (upd H1 T (.tup [v, u])) S' S' := Mv.le (P := fun _ => False) (LeA.new hT) (fun _ z => z.elim) fun _ z => .inl z
  refine ⟨fun c o q => by rw [upd_ne (ne_of_none q hT)]; exact q, T, _, rfl, upd_same, _, _, rfl, Rep.mv mT _ mT rv, _, _, rfl, Rep.mv mT _ mT ru, rfl⟩
end
section
variable {X : Cx} {fl fl' : Fl} {e a b tg : Expr} {es : List Expr} {ta tb t : TD} {p pos : Pos} {x : Str}
def dZip (t u : TD) : TDA := fun sl k Q => t sl k fun d k1 => u sl k1 fun d2 k2 => ∃ xs ys, d = .tup xs ∧ d2 = .tup ys ∧ Q (zipD xs ys) k2
theorem di_zip {tp : Pos} {elts : List Expr} {kk : Nat} (hg : Gl X "zip") (hm : X.mg "zip" = none) (h : DE X .c a ta) (h' : DE X .c b tb)
    (hs : starEach [a, b] X.env = (false, eval a X.env) :: starEach [b] X.env := by rfl) (hs2 : starEach [b] X.env = (false, eval b X.env) :: starEach [] X.env := by rfl) (hpl : (backTo pos (starEach [b] X.env)).any (·.1) = false := by rfl) :
    DI X (.Tuple elts kk tp) (.Call (.Name "zip" p) [a, b] [] pos) (dZip ta tb) := by
  refine ⟨PI.weak (pi_zipA hg hm (pa_cons h.pe (pa_cons h'.pe pa_nil hs2) hs) hs hpl) fun σ H R ⟨g, sl, k, E, q⟩ => ?_,
    fun sl k P Q hh q => h.mono _ _ _ _ (fun d k1 => h'.mono _ _ _ _ fun d2 k2 ⟨xs, ys, e, e2, q⟩ => ⟨xs, ys, e, e2, hh _ _ q⟩) q⟩
  refine ⟨g, sl, k, E, h.mono _ _ _ _ (fun d k1 q v H1 B1 r1 => ?_) q⟩
  refine ⟨g, sl, k1, B1.env, h'.mono _ _ _ _ (fun d2 k2 ⟨xs, ys, e, e2, q2⟩ u H2 B2 r2 => ?_) q⟩
  subst e e2
  have r1' := r1.le B2.le
  obtain ⟨c, vs, rfl, l, rl⟩ := r1'
  obtain ⟨c2, ws, rfl, l2, rl2⟩ := r2
  exact ⟨c, c2, vs, ws, rfl, .inr ⟨l.sq, l2.sq, q2 _ H2 (B1.trans B2) (walks_zipT l l2 rl rl2)⟩⟩
/-! bool(b) -/
def rBoolD : RDA := fun ds Q => (∃ i : Int, ds = [.int i] ∧ Q (.bl (i != 0))) ∨ ∃ b : Bool, ds = [.bl b] ∧ Q (.bl b)
theorem cg_bool : CallG X (.type "bool") rBoolD := by
  refine ⟨⟨_, call_bool1, fun S T H ds vs P Q r q k => ?_⟩, fun ds P Q h z => z.imp (fun ⟨i, e, q⟩ => ⟨i, e, h _ q⟩) fun ⟨i, e, q⟩ => ⟨i, e, h _ q⟩⟩
  rcases q with ⟨i, rfl, q⟩ | ⟨c, rfl, q⟩
  · obtain ⟨v, rfl, r1⟩ := un1 r
    exact .inl ⟨i, by rw [show v = .int i from r1], k _ _ _ q (fun _ _ h => h) (NewRep.sc rfl)⟩
  · obtain ⟨v, rfl, r1⟩ := un1 r
    exact .inr ⟨c, by rw [show v = .bl c from r1], k _ _ _ q (fun _ _ h => h) (NewRep.sc rfl)⟩
/-! == of instances -/
structure EqIn (K : PySem.W.Frag) (C : Addr) (f : Addr) : Prop where
  at_ : PySem.W.findIn K (.ref C) "__eq__" = some (some (.ref f))
  fn : PySem.W.isFn K (.ref f) = true
def rOwn (K : PySem.W.Frag) (C : Addr) (sp : Sp) : R2 := fun x y H Q => ∃ a dx fs t, x = .ref a ∧ H a = some (.ins C dx fs) ∧ TyX K H y t ∧ PySem.W.notFirst K C t = true ∧ sp [x, y] H (fun v H' => ∃ r, v = .bl r ∧ Q v H') (fun _ _ _ => False)
theorem op_own {n : Nat} {C f : Addr} {fdt : FuncData} {ps : List Str} {sp : Sp} (F : FnOk X.prog X.w X.K X.mg X.base CX0 n f fdt ps sp) (hq : EqIn X.K C f) (hb : Binds X.K fdt ps []) (hr : Room n X.A) :
    OpR X (compareOp .Eq) (rOwn X.K C sp) := fun pins s σ H x y v u Q I rx ry h => by
  obtain ⟨a, dx, fs, t, rfl, ia, ty, hn, hsp⟩ := h
  cases rx
  obtain ⟨_, J1, _⟩ := ins_get I.hok ia
  obtain ⟨_, L1, _⟩ := J1.look
  obtain ⟨m, fr⟩ := I.fr
  obtain ⟨Pk, kit, hP, _⟩ := kit_of I ry ty
  show wpAny (model X.prog X.w) X.A (richCompare .Eq (Value.ref a) u) (EP X pins σ Q) X.xe s
  refine PySem.W.cmp_K (op := .Eq) (tb := t) hr.units0 fr I.ok.mod.kin L1 (kit.ty _ _ I.kIn hP) hn hq.at_ hq.fn (wpAny_call (codeAny_mono (F.run X.A X.stack s H ⟨[.ref a, u], []⟩ [.ref a, u] [.ref a, y] _ _ hr I.env0 ?_ (.cons rfl (.cons ry .nil)) hsp) fun r s' hz => ?_))
  · have := hb s [.ref a, u] I.kIn (by have := F.len _ _ _ _ hsp; simpa using this)
    simpa using this
  · match r, hz with
    | .error _, hz => exact (pass0 : Passes CX0 X fun _ _ _ => False) pins σ H s _ s' I hz
    | .ok (.ret z), hz =>
      obtain ⟨z', H', I', rz, r, rfl, q⟩ := I.after hz
      cases rz
      exact ⟨.bl r, H', I', rfl, q⟩
def dEqI (K : PySem.W.Frag) (C : Addr) (fd : FD) (ta tb : TD) : TD := fun sl k Q => ta sl k fun x k1 => tb sl k1 fun y k2 => (∃ fs t, x = .ins C fs ∧ TypD K y t ∧ PySem.W.notFirst K C t = true) ∧ fd.r [x, y] fun d => ∃ r, d = .bl r ∧ Q (.bl r) k2
theorem de_eqI {n : Nat} {C f : Addr} {fdt : FuncData} {ps : List Str} {fd : FD} (F : FnOk X.prog X.w X.K X.mg X.base CX0 n f fdt ps (liftSp X.K fd)) (hq : EqIn X.K C f) (hb : Binds X.K fdt ps []) (hr : Room n X.A)
    (ha : DE X .c a ta) (hb2 : DE X .c b tb) (hm : behindInMarks .Eq b = false := by first | rfl | exact nomark _) : DE X .c (.Compare a [.Eq] [b] pos) (dEqI X.K C fd ta tb) := by
  refine ⟨PE.weak (pe_cmpR (op_own F hq hb hr) ha.pe hb2.pe hm) fun σ H Q ⟨g, sl, k, E, q⟩ => ?_,
    fun sl k P Q hh q => ha.mono _ _ _ _ (fun x k1 => hb2.mono _ _ _ _ fun y k2 ⟨e, q⟩ => ⟨e, fd.mono _ _ _ (fun d ⟨r, e, q⟩ => ⟨r, e, hh _ _ q⟩) q⟩) q⟩
  refine ⟨g, sl, k, E, ha.mono _ _ _ _ (fun x k1 q v H1 B1 r1 => ?_) q⟩
  refine ⟨g, sl, k1, B1.env, hb2.mono _ _ _ _ (fun y k2 ⟨⟨fs, t, e1, ty, hn⟩, q⟩ u H2 B2 r2 => ?_) q⟩
  subst e1
  have r1' := r1.le B2.le
  obtain ⟨c1, dx, ws, ev, i1, n1, rf1⟩ := id r1'
  refine ⟨c1, dx, ws, t, ev, i1, typ_ok ty r2, hn, Av g sl σ, [.ins C fs, y], fun b z => B2.env.avdom z, ⟨v, _, rfl, r1', u, _, rfl, r2, rfl⟩, fd.mono _ _ _ (fun d ⟨r, e, q⟩ w H' sm rw_ => ?_) q⟩
  subst e
  have rw_ : w = .bl r := rw_
  subst rw_
  exact ⟨r, rfl, q _ H' ((B1.trans B2).trans ⟨B2.env.grow sm, LeA.same sm⟩) rfl⟩
/-! texts compared; class constants -/
theorem os_eqS {X : Cx} : OpS X (compareOp .Eq) (rEqS false) := by
  refine ⟨⟨_, op_eq, fun S T S' T' H x y v u P Q r1 r2 q k => ?_⟩, fun x y P Q h ⟨i, j, a, b, q⟩ => ⟨i, j, a, b, h _ q⟩⟩
  obtain ⟨a, b, rfl, rfl, q⟩ := q
  rw [show v = .str a from r1, show u = .str b from r2]
  refine ⟨rfl, ?_⟩
  have e : decide (V.str a = V.str b) = decide (a = b) := decide_eq_decide.mpr ⟨fun z => by cases z; rfl, fun z => by rw [z]⟩
  rw [e]
  exact k _ _ q rfl
/-- e.f, f a constant of the class -/
def dCon (K : PySem.W.Frag) (y : Str) (t : TD) : TD := fun sl k Q => t sl k fun d k' => ∃ C fs z v u, d = .ins C fs ∧ Cls K C ∧ Con K C y v u ∧ (fs.all fun p => p.1 != y) = true ∧ scV z = some v ∧ Q z k'
theorem noname {y : Str} : ∀ {us : List (Str × V)}, (us.all fun u => u.1 != y) = true → List.lookup y us = none
  | [], _ => rfl
  | (z, v) :: us, h => by
    rw [List.all_cons, Bool.and_eq_true] at h
    rw [List.lookup_cons]
    have : (y == z) = false := by
      have h1 := h.1
      rw [bne_iff_ne] at h1
      exact beq_false_of_ne fun e => h1 e.symm
    rw [this]
    exact noname h.2
theorem de_con {y : Str} (h : DE X fl e t) (hb : attributeBase e y X.env (eval e X.env) = eval e X.env := by rfl) : DE X .c (.Attribute e y pos) (dCon X.K y t) := by
  refine ⟨PE.weak (pe_con h.pe hb) fun σ H Q ⟨g, sl, k, E, q⟩ => ⟨g, sl, k, E, h.mono _ _ _ _ (fun d k1 ⟨C, fs, z, v, u, e, hC, hK, hn, hz, q⟩ w H1 B1 r1 => ?_) q⟩,
    fun sl k P Q hh q => h.mono _ _ _ _ (fun d k1 ⟨C, fs, z, v, u, e, hC, hK, hn, hz, q⟩ => ⟨C, fs, z, v, u, e, hC, hK, hn, hz, hh _ _ q⟩) q⟩
  subst e
  obtain ⟨a, dx, us, rfl, hi, _, rF⟩ := r1
  exact ⟨a, C, dx, us, v, u, rfl, hi, hC, hK, noname (RepF.names (P := fun z => z != y) rF hn), q v H1 B1 (sc_rep hz)⟩
/-! readings -/
theorem rd_isi {K : PySem.W.Frag} {sl : SL} {k i : Nat} {d : D} {tn : String} {u : Value} {c : Bool} {Q : D → Nat → Prop} (hs : sl[i]? = some (.d d)) (ht : TypD K d u) (hk : PySem.W.kitOne K u (.type tn) = some c) (q : Q (.bl c) k) :
    dCB (rIsiD K) (dCons (dV i) (dCons (dC (.raw (.ty tn))) dNil)) sl k Q := ⟨d, hs, d, _, _, _, c, rfl, .ty _, ht, hk, q⟩
theorem rd_isiC {K : PySem.W.Frag} {sl : SL} {k i : Nat} {d : D} {C : Addr} {u : Value} {c : Bool} {Q : D → Nat → Prop} (hs : sl[i]? = some (.d d)) (ht : TypD K d u) (hk : PySem.W.kitOne K u (.ref C) = some c) (q : Q (.bl c) k) :
    dCB (rIsiD K) (dCons (dV i) (dCons (dC (.raw (.ref C))) dNil)) sl k Q := ⟨d, hs, d, _, _, _, c, rfl, .own _, ht, hk, q⟩
end
end DL

/-! data layer, part y: parts of tuples and lists, joined tuples, pop, {tuple: v}, is True -/
namespace DL
open PySem PySem.Spec PyProof.Rows L2
section
variable {X : Cx} {fl fl' : Fl} {e a b : Expr} {te ta tb : TD} {pos p2 p : Pos} {lo hi : Option Expr}
/-! xs[lo:hi] -/
abbrev TDO := SL → Nat → (Option Int → Nat → Prop) → Prop
def tDO (K : PySem.W.Frag) (t : TDO) : TO := fun σ H Q => ∃ g sl k, EnvOk K g sl k σ H ∧ t sl k fun o k' => ∀ H', Bh K g sl σ H k' H' → Q o H'
structure DO (X : Cx) (e : Option Expr) (t : TDO) : Prop where
  po : PO X e (tDO X.K t)
  mono : ∀ sl k P Q, (∀ o k', P o k' → Q o k') → t sl k P → t sl k Q
theorem PO.weak {X : Cx} {e : Option Expr} {t t' : TO} (p : PO X e t) (h : ∀ σ H Q, t' σ H Q → t σ H Q) : PO X e t' := ⟨fun pins s σ H Q I q => p.run pins s σ H Q I (h σ H Q q)⟩
def dNo : TDO := fun _ k Q => Q none k
def dPart (t : TD) : TDO := fun sl k Q => t sl k fun d k' => ∃ i : Int, d = .int i ∧ Q (some i) k'
theorem do_none : DO X none dNo := ⟨PO.weak po_none fun σ H Q ⟨g, sl, k, E, q⟩ => q H (Bh.refl E), fun _ _ _ _ h q => h _ _ q⟩
theorem do_some (h : DE X fl e te) : DO X (some e) (dPart te) := by
  refine ⟨PO.weak (po_some h.pe) fun σ H Q ⟨g, sl, k, E, q⟩ => ⟨g, sl, k, E, h.mono _ _ _ _ (fun d k' ⟨i, e, q⟩ v H' B r => ?_) q⟩, fun sl k P Q hh q => h.mono _ _ _ _ (fun d k' ⟨i, e, q⟩ => ⟨i, e, hh _ _ q⟩) q⟩
  subst e
  exact ⟨i, r, q H' B⟩
def cutD (xs : List D) (lo hi : Option Int) : List D := (xs.drop (HT.sIx xs.length 0 lo)).take (HT.sIx xs.length xs.length hi - HT.sIx xs.length 0 lo)
theorem RepL.cut {K : PySem.W.Frag} {S : AS} {H : Hp} {xs : List D} {vs : List V} (r : RepL K S H xs vs) (lo hi : Option Int) : RepL K S H (cutD xs lo hi) (cutV vs lo hi) := by
  unfold cutD cutV
  rw [r.length]
  exact RepL.take _ (RepL.drop _ r)
theorem cut_whole {xs : List V} {lo hi : Option Int} (h : HT.sIx xs.length 0 lo = 0 ∧ HT.sIx xs.length xs.length hi = xs.length) : cutV xs lo hi = xs := by
  unfold cutV
  rw [h.1, h.2, List.drop_zero, Nat.sub_zero, List.take_length]
def dSlT (te : TD) (tl th : TDO) : TD := fun sl k Q => te sl k fun d k1 => tl sl k1 fun l k2 => th sl k2 fun u k3 => ∃ xs, d = .tup xs ∧ Q (.tup (cutD xs l u)) k3
theorem de_slT {tl th : TDO} (he : DE X .c e te) (hl : DO X lo tl) (hu : DO X hi th) : DE X .c (.Subscript e (.Slice lo hi none p2) pos) (dSlT te tl th) := by
  refine ⟨PE.weak (pe_slice sl_tupA he.pe hl.po hu.po) fun σ H Q ⟨g, sl, k, E, q⟩ => ⟨g, sl, k, E, he.mono _ _ _ _ (fun d k1 q v H1 B1 r1 => ?_) q⟩,
    fun sl k P Q hh q => he.mono _ _ _ _ (fun d k1 => hl.mono _ _ _ _ fun l k2 => hu.mono _ _ _ _ fun u k3 ⟨xs, e, q⟩ => ⟨xs, e, hh _ _ q⟩) q⟩
  refine ⟨g, sl, k1, B1.env, hl.mono _ _ _ _ (fun l k2 q H2 B2 => ?_) q⟩
  refine ⟨g, sl, k2, B2.env, hu.mono _ _ _ _ (fun u k3 ⟨xs, e1, qq⟩ H3 B3 => ?_) q⟩
  subst e1
  have B := (B1.trans B2).trans B3
  obtain ⟨c, vs, rfl, tp, rr⟩ := ((r1.le B2.le).le B3.le : Is X.K g sl σ H3 .c (.tup xs) v)
  refine ⟨c, vs, rfl, .inl (.inl tp), fun w => ?_, fun _ p hp => ?_⟩
  · refine qq _ H3 B ⟨c, _, rfl, tp, ?_⟩
    have := RepL.cut rr l u
    rw [cut_whole w] at this
    exact this
  · refine qq _ _ (B.new hp) ?_
    refine (NewRep.tup (RepL.cut rr l u) hp).rep fun b z => B3.env.avdom z
def dSlL (te : TD) (tl th : TDO) : TD := fun sl k Q => te sl k fun d k1 => tl sl k1 fun l k2 => th sl k2 fun u k3 => ∃ xs, d = .lst xs ∧ Q (.lst (cutD xs l u)) k3
theorem NewRep.from {K : PySem.W.Frag} {S : AS} {H H' H2 : Hp} {d : D} {v : V} (h : NewRep K S H' H2 d v) (l : LeA (fun _ => True) H H') : NewRep K S H H2 d v := h.back fun b z => l.nn z
theorem dn_slL {tl th : TDO} (he : DE X .c e te) (hl : DO X lo tl) (hu : DO X hi th) : DN X .c (.Subscript e (.Slice lo hi none p2) pos) (dSlL te tl th) := by
  refine ⟨PE.weak (pe_slice sl_list he.pe hl.po hu.po) fun σ H Q ⟨g, sl, k, E, q⟩ => ⟨g, sl, k, E, he.mono _ _ _ _ (fun d k1 q v H1 B1 r1 => ?_) q⟩,
    fun sl k P Q hh q => he.mono _ _ _ _ (fun d k1 => hl.mono _ _ _ _ fun l k2 => hu.mono _ _ _ _ fun u k3 ⟨xs, e, q⟩ => ⟨xs, e, hh _ _ q⟩) q⟩
  refine ⟨g, sl, k1, B1.env, hl.mono _ _ _ _ (fun l k2 q H2 B2 => ?_) q⟩
  refine ⟨g, sl, k2, B2.env, hu.mono _ _ _ _ (fun u k3 ⟨xs, e1, qq⟩ H3 B3 => ?_) q⟩
  subst e1
  have B := (B1.trans B2).trans B3
  obtain ⟨c, vs, rfl, tp, rr⟩ := ((r1.le B2.le).le B3.le : Is X.K g sl σ H3 .c (.lst xs) v)
  refine ⟨c, vs, rfl, tp.sq, fun p hp => ?_⟩
  exact qq _ _ (B.new hp) (NewRep.from (NewRep.lst (RepL.cut rr l u) hp) (B.le.mono fun _ _ => trivial))
/-! xs[::-1] -/
def dRev (t : TD) : TD := fun sl k Q => t sl k fun d k1 => ∃ xs, d = .lst xs ∧ Q (.lst xs.reverse) k1
theorem RepL.rev {K : PySem.W.Frag} {S : AS} {H : Hp} : ∀ {xs : List D} {vs : List V}, RepL K S H xs vs → RepL K S H xs.reverse vs.reverse
  | [], _, r => by rw [show _ = [] from r]; rfl
  | x :: xs, _, ⟨v, ws, e, r, q⟩ => by
    subst e
    rw [List.reverse_cons, List.reverse_cons]
    exact RepL.append (RepL.rev q) (RepL.one r)
theorem dn_rev {kk : Nat} {q1 q2 q3 : Pos} (h : DE X fl e te) : DN X fl (.Subscript e (.Slice none none (some (.UnaryOp .USub (.Constant (.int 1) kk q1) q2)) q3) pos) (dRev te) := by
  refine ⟨PE.weak (pe_revL h.pe) fun σ H Q ⟨g, sl, k, E, q⟩ => ⟨g, sl, k, E, h.mono _ _ _ _ (fun d k1 ⟨xs, e, q⟩ v H1 B r => ?_) q⟩, fun sl k P Q hh q => h.mono _ _ _ _ (fun d k1 ⟨xs, e, q⟩ => ⟨xs, e, hh _ _ q⟩) q⟩
  subst e
  obtain ⟨c, vs, rfl, l, rr⟩ := r
  exact ⟨c, vs, rfl, l.sq, fun p hp => q _ _ (B.new hp) (NewRep.from (NewRep.lst (RepL.rev rr) hp) (B.le.mono fun _ _ => trivial))⟩
/-! two tuples joined, neither empty -/
def rCatTD : RD2 := fun x y Q => ∃ xs ys, x = .tup xs ∧ y = .tup ys ∧ xs ≠ [] ∧ ys ≠ [] ∧ xs.length + ys.length ≤ 100000 ∧ Q (.tup (xs ++ ys))
theorem RepL.ne {K : PySem.W.Frag} {S : AS} {H : Hp} {xs : List D} {vs : List V} (r : RepL K S H xs vs) (h : xs ≠ []) : vs ≠ [] := fun z => by
  subst z
  have := r.length
  cases xs with
  | nil => exact h rfl
  | cons _ _ => cases this
theorem og_catT : OpG X (binaryOp .Add) rCatTD := by
  refine ⟨⟨_, op_catT, fun S T T' H x y v u P Q r1 r2 q k => ?_⟩, fun x y P Q h ⟨xs, ys, a, b, c, d, f, q⟩ => ⟨xs, ys, a, b, c, d, f, h _ q⟩⟩
  obtain ⟨xs, ys, rfl, rfl, nx, ny, hz, q⟩ := q
  obtain ⟨c, vs, rfl, t1, rr1⟩ := r1
  obtain ⟨c2, ws, rfl, t2, rr2⟩ := r2
  refine ⟨c, c2, vs, ws, rfl, rfl, .inl (.inl t1), .inl (.inl t2), RepL.ne rr1 nx, ?_, fun z => absurd z (RepL.ne rr2 ny), fun _ p hp => ?_⟩
  · rw [← rr1.length, ← rr2.length]; exact Nat.le_trans hz (by decide)
  · exact k _ _ _ q (fun b o e => by rw [upd_ne (ne_of_none e hp)]; exact e) (NewRep.tup (RepL.append rr1 rr2) hp)
/-! is True, is False -/
def rIsB (neg : Bool) : RD2 := fun x y Q => ∃ a b, x = .bl a ∧ y = .bl b ∧ Q (.bl (if neg then !decide (a = b) else decide (a = b)))
theorem op_isB : OpR X (compareOp .Is) (fun x y H Q => ∃ a b, x = V.bl a ∧ y = V.bl b ∧ Q (.bl (decide (a = b))) H) := fun pins s σ H x y v u Q I rx ry h => by
  obtain ⟨a, b, rfl, rfl, q⟩ := h
  cases (show v = Value.bool a from rx)
  cases (show u = Value.bool b from ry)
  refine wpAny_is_plain rfl ⟨.bl (decide (a = b)), H, I, ?_, q⟩
  cases a <;> cases b <;> rfl
theorem op_notB : OpR X (compareOp .IsNot) (fun x y H Q => ∃ a b, x = V.bl a ∧ y = V.bl b ∧ Q (.bl (!decide (a = b))) H) := fun pins s σ H x y v u Q I rx ry h => by
  obtain ⟨a, b, rfl, rfl, q⟩ := h
  cases (show v = Value.bool a from rx)
  cases (show u = Value.bool b from ry)
  refine wpAny_isNot_plain rfl ⟨.bl (!decide (a = b)), H, I, ?_, q⟩
  cases a <;> cases b <;> rfl
theorem os_isB : OpS X (compareOp .Is) (rIsB false) := by
  refine ⟨⟨_, op_isB, fun S T S' T' H x y v u P Q r1 r2 q k => ?_⟩, fun x y P Q h ⟨a, b, c, d, q⟩ => ⟨a, b, c, d, h _ q⟩⟩
  obtain ⟨i, j, rfl, rfl, q⟩ := q
  exact ⟨i, j, r1, r2, k _ _ q rfl⟩
theorem os_notB : OpS X (compareOp .IsNot) (rIsB true) := by
  refine ⟨⟨_, op_notB, fun S T S' T' H x y v u P Q r1 r2 q k => ?_⟩, fun x y P Q h ⟨a, b, c, d, q⟩ => ⟨a, b, c, d, h _ q⟩⟩
  obtain ⟨i, j, rfl, rfl, q⟩ := q
  exact ⟨i, j, r1, r2, k _ _ q rfl⟩
end
end DL

/-! data layer, part z: x = xs.pop(), {tuple: v} -/
namespace DL
open PySem PySem.Spec PyProof.Rows L2
section
variable {X : Cx} {fl fl' : Fl} {e a b : Expr} {te ta tb : TD} {pos p2 p py apos cpos : Pos} {x y : Str} {i j : Nat}
/-! y = xs.pop() -/
def dPop (i j : Nat) : TSd := fun E sl k => i ≠ j ∧ ∃ xs d, sl[i]? = some (Slot.own (.lst (xs ++ [d]))) ∧ E.nx ((sl.set i (.own (.lst xs))).set j (.d d)) k
theorem RepL.split {K : PySem.W.Frag} {S : AS} {H : Hp} {d : D} : ∀ {xs : List D} {vs : List V}, RepL K S H (xs ++ [d]) vs → ∃ ws v, vs = ws ++ [v] ∧ RepL K S H xs ws ∧ Rep K S H d S v
  | [], _, ⟨v, ws, e, r, q⟩ => by
    have q : ws = [] := q
    subst q e
    exact ⟨[], v, rfl, rfl, r⟩
  | x :: xs, _, ⟨v, ws, e, r, q⟩ => by
    obtain ⟨us, u, e2, q2, r2⟩ := RepL.split q
    subst e2 e
    exact ⟨v :: us, u, rfl, ⟨v, us, rfl, r, q2⟩, r2⟩
theorem ds_pop (hN : X.N.Nodup) (hj : X.N[j]? = some y) (hy : Loc X.env.scope y) (hv : PE X (.Name x py) (tVar i)) (hs : swapsWith (.Call (.Attribute (.Name x py) "pop" apos) [] [] cpos) (some (.Name y p2)) pos.line X.env = pure false := by rfl) (hf : X.fn y = true ∨ X.env.scope.names.lookup y = some .local := by first | exact .inl rfl | exact .inr rfl | assumption)
    (hbase : attributeBase (.Name x py) "pop" X.env (eval (.Name x py) X.env) = eval (.Name x py) X.env := by rfl) (hline : (apos.endLine == cpos.line) = true := by rfl) :
    DS X (.Assign [.Name y p2] (.Call (.Attribute (.Name x py) "pop" apos) [] [] cpos) pos) (dPop i j) := by
  refine ⟨PS.weak (L2.ps_set hN hj hy (pe_bm0 PySem.F.plainAttrs_list PySem.F.slot_list_pop PySem.F.type_list_pop mt_pop hv hbase hline) hs hf) fun D σ H ⟨g, sl, k, E, en, lk, ne, xs, d, hi, q⟩ => ?_,
    fun E E' sl k l ⟨ne, xs, d, hi, q⟩ => ⟨ne, xs, d, hi, l.nx _ _ q⟩⟩
  obtain ⟨c, ea, o, _⟩ := en.own i _ hi
  obtain ⟨vs, ha, r⟩ := o.lst
  obtain ⟨ws, v, e, r1, r2⟩ := RepL.split r
  subst e
  have oa : OwnB sl σ c := ⟨i, _, hi, trivial, ea⟩
  have m := rep_put (K := X.K) (g := g) (u' := .lst ws) oa ha trivial
  have E1 := en.put (u' := .lst ws) (x' := .lst xs) hi ea ha trivial trivial trivial ⟨_, upd_same, RepL.mv m _ r1⟩
  refine ⟨.ref c, ea, .inl ⟨rfl, _, .inl (.inl ha)⟩, c, ws ++ [v], v, rfl, rfl, ha, ?_, ?_⟩
  · rw [List.length_append, List.length_singleton, Nat.add_sub_cancel]
    simp
  · rw [List.dropLast_concat]
    refine lk.nx _ _ _ _ (E1.setD (i := j) ?_) q
    have : Rep X.K (Av g sl σ) (upd H c (.lst ws)) d (Av g sl σ) v := Rep.mv m d m r2
    have an : ∀ b, Av g (sl.set i (.own (.lst xs))) σ b → Av g sl σ b := fun b z => z.imp id fun ⟨n, s, h1, h2, h3⟩ => by
      by_cases en2 : i = n
      · subst en2
        exact ⟨i, _, hi, trivial, h3⟩
      · rw [List.getElem?_set_ne en2] at h1
        exact ⟨n, s, h1, h2, h3⟩
    have mm : Mv (upd H c (.lst ws)) (upd H c (.lst ws)) (Av g sl σ) (Av g (sl.set i (.own (.lst xs))) σ) := Mv.anti fun b z => .inl (an b z)
    exact Rep.mv mm d mm this
/-! {tuple: v} -/
def tDispT (tk tv : TE) : TE := fun σ H Q => ∀ p, H p = none → tk σ (upd H p (.dT [])) fun x H1 => tv σ H1 fun y H2 => ∃ b ks, x = .ref b ∧ H2 b = some (.tup (ks.map kV)) ∧ H2 p = some (.dT []) ∧ Q (.ref p) (upd H2 p (.dT [(ks, y)]))
theorem pe_dispT {tk tv : TE} (hu : X.A.units < cLine) (hk : PE X a tk) (hv : PE X b tv) : PE X (.Dict [some a] [b] pos) (tDispT tk tv) := by
  refine ⟨fun pins s σ H Q I q => ?_⟩
  have fresh := I.hok.fresh (Nat.le_refl s.heap.objs.size)
  have I1 := I.laid (a := s.heap.objs.size) (o := .dT []) (h' := s.heap.push { cls := .type "dict", data := .dict #[] }) (t' := s.toks) (fun _ _ z => Heap.get?_push_of_some _ z) (Nat.le_refl _) (dt_empty s.heap I.big)
  have sh := zip_pairTrees [some a] [b] X.env pos rfl rfl
  rw [arm_eval_Dict, sh, dictDisplay_pairs (pairTrees [some a] [b] X.env pos) (by intro z; cases z) (by show 1 < 17; decide)]
  refine wpAny_bind (wpAny_standAt (wpAny_bind (wpAny_subDictH (knd := tupleKind (mixKind X.prog X.w)) (Q := fun d s' => wpAny (model X.prog X.w) X.A (pure (Value.ref d)) (EP X pins σ Q) X.xe s') hu (by show 1 ≤ 15; decide) ?_)))
  refine pairTrees_cons_walk (thn (hk.run pins _ σ _ _ I1 (q _ fresh)) fun u s2 ⟨x2, H2, I2, rx, q2⟩ => thn (hv.run pins s2 σ H2 _ I2 q2) fun u3 s3 ⟨y3, H3, I3, ry, c, ks, ex, hc, hp, q3⟩ => pairTrees_nil_walk ?_)
  subst ex
  cases rx
  obtain ⟨z, hd, xs0, rel0, dd⟩ := dt_of I3.hok hp
  cases rel0
  refine ⟨[(ks, c, u3)], ⟨rfl, rfl, key_of I3.hok hc, trivial⟩, dd, fun h' tk' dd' hs => wpAny_pure ⟨.ref s.heap.objs.size, _, ?_, rfl, q3⟩⟩
  obtain ⟨qo, es, ep, hq, h2, h3, h4, _, h5⟩ := dd'
  refine d_write I3 (by rw [hp]; exact True.intro) hs ⟨qo, hq⟩ ⟨by show 1 ≤ sizeLine; decide, hd, [(ks, c, u3)], .cons ⟨rfl, ?_, ry⟩ .nil, qo, es, ep, hq, h2, h3, h4, h5⟩
  show upd H3 s.heap.objs.size (.dT [(ks, y3)]) c = _
  rw [upd_ne (ne_of hc hp (fun z => nomatch z))]
  exact hc
def dDispT (t u : TD) : TD := fun sl k Q => t sl k fun d k1 => u sl k1 fun d2 k2 => ∃ ks : List Key, d = .tup (ks.map keyD) ∧ Q (.dT [(ks, d2)]) k2
theorem dn_dispT (hu : X.A.units < cLine) (hk : DE X .c a ta) (hv : DE X .c b tb) : DN X .c (.Dict [some a] [b] pos) (dDispT ta tb) := by
  refine ⟨PE.weak (pe_dispT hu hk.pe hv.pe) fun σ H Q ⟨g, sl, k, E, q⟩ p hp => ?_, fun sl k P Q hh q => hk.mono _ _ _ _ (fun d k1 => hv.mono _ _ _ _ fun d2 k2 ⟨ks, e, q⟩ => ⟨ks, e, hh _ _ q⟩) q⟩
  have B0 : Bh X.K g sl σ H k (upd H p (.dT [])) := (Bh.refl E).new hp
  have Ep : EnvOk X.K (g.pls p) sl k σ (upd H p (.dT [])) := E.pls B0.env hp B0.le (by rw [upd_same]; exact fun z => nomatch z)
  have np : ¬ OwnB sl σ p := fun z => (E.ownH z).1 hp
  refine ⟨g.pls p, sl, k, Ep, hk.mono _ _ _ _ (fun d k1 q v H1 B1 r1 => ?_) q⟩
  refine ⟨g.pls p, sl, k1, B1.env, hv.mono _ _ _ _ (fun d2 k2 ⟨ks, e1, qq⟩ u H2 B2 r2 => ?_) q⟩
  subst e1
  obtain ⟨c, vs, rfl, tp, rr⟩ := (r1.le B2.le : Is X.K (g.pls p) sl σ H2 .c (.tup (ks.map keyD)) v)
  have hp2 : H2 p = some (.dT []) := by
    rcases (B1.le.trans B2.le) p _ upd_same with z | ⟨z, _⟩
    · exact z
    · exact absurd z.own np
  have l2 : LeA (fun b => b = p) H2 (upd H2 p (.dT [(ks, u)])) := LeA.put hp2 rfl trivial trivial
  have m : Mv H2 (upd H2 p (.dT [(ks, u)])) (Av (g.pls p) sl σ) (Pls (Av g sl σ) p) := Mv.le l2 (fun b z => by subst z; exact .inl (.inr rfl)) fun b z => .inl (Av.plsI z)
  refine ⟨c, ks, rfl, by rw [← keyL_rep rr]; exact tp, hp2, qq _ _ ⟨(B2.env.putA (.inr rfl) np (E.le.nn hp) hp2 trivial).unpls, LeA.put0 hp (B0.le.trans (B1.le.trans B2.le))⟩ ⟨p, _, rfl, hp, upd_same, u, [], rfl, ?_, rfl⟩⟩
  exact Rep.mv m d2 m r2
end
end DL

/-! data layer, part j: != by a class's __eq__ -/
namespace DL
open PySem PySem.Spec PyProof.Rows L2
structure NeIn (K : PySem.W.Frag) (C : Addr) : Prop where
  at_ : PySem.W.findIn K (.ref C) "__ne__" = some (some (.builtin "object.__ne__"))
  ob : PySem.W.mroIn K C (.type "object") = some true
section
variable {prog : Program} {w : World} {A : Around} {E : Value → Shared → Prop} {s : Shared} {K : PySem.W.Frag} {x C f L : Addr} {h₀ : Heap} {m : Str → Option Value} {ox : Obj} {od : Option Obj} {b tb : Value}
theorem ne_check {M : Model} {Q : Unit → Shared → Prop} (Xk : K.In s.heap) (J : W.InstAt s.heap x ox C od) (N : NeIn K C) (q : Q () s) : wpAny M A (checkBuiltinCall "object.__ne__" ⟨[.ref x, b], []⟩) Q E s := by
  have ha := F.cmpArgs_ne (.ref x) b
  have L1 : W.Looks M s.heap (isInstance (.ref x) (.type "object")) true := (J.type (M := M)).andThen (W.looks_mroIn Xk N.ob)
  simp only [checkBuiltinCall, F.cmpKind_ne, F.cmpSplit_ne]
  refine wpAny_bind (L1.here ?_)
  simp only [Bool.not_true, Bool.false_eq_true, if_false]
  cases hs : Manifest.signature? "object.__ne__" with
  | none => exact wpAny_pure q
  | some sig =>
    simp only [argsOk, hs] at ha
    show wpAny M A (Bind.checkArgs "object.__ne__" sig ⟨[.ref x, b], []⟩) Q E s
    rw [show Bind.checkArgs "object.__ne__" sig ⟨[.ref x, b], []⟩ = pure () from ha]
    exact wpAny_pure q
theorem ne_body {Q : Fin → Shared → Prop} (hu : A.units < cLine) (Xk : K.In s.heap) (J : W.InstAt s.heap x ox C od) (hq : EqIn K C f)
    (hc : wpAny (model prog w) A (call (.ref f) [.ref x, b]) (fun v s' => ∃ r, v = .bool r ∧ Q (.done (.ret (.bool (!r)))) s') E s) : wpAny (model prog w) A (Builtin.«object.__ne__» ⟨[.ref x, b], []⟩) Q E s := by
  unfold Builtin.«object.__ne__»
  repeat (first
    | with_reducible refine wpAny_cRoomFor hu ?_
    | (refine wpAny_bind (m := callSpecialIfBound? (.ref x) (Str.ofString "__eq__") [b]) (W.ifBound_K Xk J hq.at_ hq.fn (wpAny_mono hc (fun z s' hz => by
          obtain ⟨r, rfl, qq⟩ := hz
          repeat (first | exact qq | exact wpAny_pure qq | exact wpAny_truthy_bool qq | (refine wpAny_bind (m := truthy (.bool _)) (wpAny_truthy_bool ?_)) | wp_step)) fun _ _ e => e)))
    | wp_step)
theorem ne_try {Q : Option Value → Shared → Prop} (hu : A.units + 1 < cLine) (Xk : K.In s.heap) (J : W.InstAt s.heap x ox C od) (hq : EqIn K C f) (N : NeIn K C)
    (hc : wpAny (model prog w) A.in1 (call (.ref f) [.ref x, b]) (fun v s' => ∃ r, v = .bool r ∧ Q (some (.bool (!r))) s') E s) : wpAny (model prog w) A (tryCompare (.ref x) "__ne__" b) Q E s := by
  have main : wpAny (model prog w) A (call (.builtin "object.__ne__") [.ref x, b]) (fun v s' => ∃ r, v = .bool (!r) ∧ Q (some (.bool (!r))) s') E s := by
    refine wpAny_call (codeAny_call_builtin F.cmp_object.ne.plain F.cmpEntry_ne (ne_check Xk J N (ne_body hu Xk J hq (wpAny_mono hc (fun v s' hv => ?_) fun _ _ e => e))))
    obtain ⟨r, rfl, q⟩ := hv
    exact ⟨r, rfl, r, rfl, q⟩
  have fin : wpAny (model prog w) A (call (.builtin "object.__ne__") ([.ref x] ++ [b]) >>= fun v => pure (some v)) (fun r s' => ∃ c, r = some (.bool c) ∧ Q r s') E s :=
    wpAny_bind (wpAny_mono main (fun v s' hv => by obtain ⟨r, rfl, q⟩ := hv; exact wpAny_pure ⟨_, rfl, q⟩) fun _ _ e => e)
  simp only [tryCompare]
  refine wpAny_bind ?_
  have bd : wpAny (model prog w) A (callSpecialIfBound? (.ref x) "__ne__" [b]) (fun r s' => ∃ c, r = some (.bool c) ∧ Q r s') E s := by
    simp only [callSpecialIfBound?, bindSpecialIfBound?]
    refine wpAny_holding (wpAny_bind (wpAny_bind (wpAny_bind (J.type.here ((W.looks_findIn Xk N.at_).here ?_)))))
    simp only [F.cmp_object.ne.bind]
    refine wpAny_bind (wpAny_askSetting (wpAny_ite ?_))
    split
    · exact wpAny_bind (wpAny_pure (wpAny_pure fin))
    · exact wpAny_tryCatch (wpAny_bind (wpAny_pure (wpAny_pure fin)))
  refine wpAny_mono bd (fun r s' hr => ?_) fun _ _ e => e
  obtain ⟨c, rfl, q⟩ := hr
  exact wpAny_pure q
theorem ne_rich {h0 : Heap} {Q : Value → Shared → Prop} (hu : A.units + 1 < cLine) (F0 : Fr h0 L s.heap m) (X0 : K.In h0) (J : W.InstAt s.heap x ox C od) (hb : W.Looks (model prog w) s.heap (typeOf b) tb) (hn : W.notFirst K C tb = true) (hq : EqIn K C f) (N : NeIn K C)
    (hc : wpAny (model prog w) A.in1 (call (.ref f) [.ref x, b]) (fun v s' => ∃ r, v = .bool r ∧ Q (.bool (!r)) s') E s) : wpAny (model prog w) A (richCompare .NotEq (.ref x) b) Q E s := by
  have Xk := X0.keeps F0.keep
  have one : wpAny (model prog w) A (tryCompare (.ref x) "__ne__" b) (fun r s' => ∃ c, r = some (.bool c) ∧ Q (.bool c) s') E s :=
    ne_try hu Xk J hq N (wpAny_mono hc (fun v s' hv => by obtain ⟨r, rfl, q⟩ := hv; exact ⟨r, rfl, _, rfl, q⟩) fun _ _ e => e)
  unfold richCompare
  simp only [oneThing_ref]
  refine wpAny_holding (wpAny_bind (wpAny_cRoomFor (Nat.lt_of_succ_lt hu) ?_))
  rw [cmpInfo_NotEq]
  dsimp only
  refine wpAny_bind (J.type.here (wpAny_bind (hb.here ?_)))
  split
  · rename_i q
    have e : W.subIn K tb (.ref C) = some false := by
      rcases Bool.or_eq_true_iff.mp hn with e | e
      · rw [beq_iff_eq.mp e] at q; simp at q
      · exact beq_iff_eq.mp e
    refine wpAny_bind ((W.looks_subIn Xk e).here ?_)
    simp only [Bool.false_eq_true, if_false]
    refine wpAny_bind (wpAny_mono one (fun r s' z => ?_) fun _ _ e => e)
    obtain ⟨v, rfl, hq⟩ := z
    exact wpAny_pure hq
  · refine wpAny_bind (wpAny_pure ?_)
    simp only [Bool.false_eq_true, if_false]
    refine wpAny_bind (wpAny_mono one (fun r s' z => ?_) fun _ _ e => e)
    obtain ⟨v, rfl, hq⟩ := z
    exact wpAny_pure hq
end
section
variable {X : Cx} {fl fl' : Fl} {a b : Expr} {ta tb : TD} {pos : Pos}
theorem op_neOwn {n : Nat} {C f : Addr} {fdt : FuncData} {ps : List Str} {sp : Sp} (F : FnOk X.prog X.w X.K X.mg X.base CX0 n f fdt ps sp) (hq : EqIn X.K C f) (hN : NeIn X.K C) (hb : Binds X.K fdt ps []) (hr : Room n X.A.in1) (hu : X.A.units + 1 < cLine) :
    OpR X (compareOp .NotEq) (fun x y H Q => rOwn X.K C sp x y H (fun v H' => ∃ r, v = .bl r ∧ Q (.bl (!r)) H')) := fun pins s σ H x y v u Q I rx ry h => by
  obtain ⟨c, dx, fs, t, rfl, ia, ty, hn, hsp⟩ := h
  cases rx
  obtain ⟨_, J1, _⟩ := ins_get I.hok ia
  obtain ⟨_, L1, _⟩ := J1.look
  obtain ⟨m, fr⟩ := I.fr
  obtain ⟨Pk, kit, hP, _⟩ := kit_of I ry ty
  have e0 : Env0 X.prog X.w X.K X.mg X.base X.A.in1 X.stack s H := by
    have e := I.env0
    exact ⟨e.frames, e.mod, e.bs, e.bsz, e.funs, e.frf, e.hok, e.bare⟩
  show wpAny (model X.prog X.w) X.A (richCompare .NotEq (Value.ref c) u) (EP X pins σ Q) X.xe s
  refine ne_rich (tb := t) hu fr I.ok.mod.kin L1 (kit.ty _ _ I.kIn hP) hn hq hN (wpAny_call (codeAny_mono (F.run X.A.in1 X.stack s H ⟨[.ref c, u], []⟩ [.ref c, u] [.ref c, y] _ _ hr e0 ?_ (.cons rfl (.cons ry .nil)) hsp) fun r s' hz => ?_))
  · have := hb s [.ref c, u] I.kIn (by have := F.len _ _ _ _ hsp; simpa using this)
    simpa using this
  · match r, hz with
    | .error _, hz => exact (pass0 : Passes CX0 X fun _ _ _ => False) pins σ H s _ s' I hz
    | .ok (.ret z), hz =>
      obtain ⟨z', H', I', rz, r, rfl, r2, e2, q⟩ := I.after hz
      cases rz
      cases e2
      exact ⟨r, rfl, .bl (!r), H', I', rfl, q⟩
def dNeI (K : PySem.W.Frag) (C : Addr) (fd : FD) (ta tb : TD) : TD := fun sl k Q => ta sl k fun x k1 => tb sl k1 fun y k2 => (∃ fs t, x = .ins C fs ∧ TypD K y t ∧ PySem.W.notFirst K C t = true) ∧ fd.r [x, y] fun d => ∃ r, d = .bl r ∧ Q (.bl (!r)) k2
theorem de_neI {n : Nat} {C f : Addr} {fdt : FuncData} {ps : List Str} {fd : FD} (F : FnOk X.prog X.w X.K X.mg X.base CX0 n f fdt ps (liftSp X.K fd)) (hq : EqIn X.K C f) (hN : NeIn X.K C) (hb : Binds X.K fdt ps []) (hr : Room (n + 1) X.A)
    (ha : DE X .c a ta) (hb2 : DE X .c b tb) (hm : behindInMarks .NotEq b = false := by first | rfl | exact nomark _) : DE X .c (.Compare a [.NotEq] [b] pos) (dNeI X.K C fd ta tb) := by
  refine ⟨PE.weak (pe_cmpR (op_neOwn F hq hN hb hr.in1 (hu_of hr)) ha.pe hb2.pe hm) fun σ H Q ⟨g, sl, k, E, q⟩ => ?_,
    fun sl k P Q hh q => ha.mono _ _ _ _ (fun x k1 => hb2.mono _ _ _ _ fun y k2 ⟨e, q⟩ => ⟨e, fd.mono _ _ _ (fun d ⟨r, e, q⟩ => ⟨r, e, hh _ _ q⟩) q⟩) q⟩
  refine ⟨g, sl, k, E, ha.mono _ _ _ _ (fun x k1 q v H1 B1 r1 => ?_) q⟩
  refine ⟨g, sl, k1, B1.env, hb2.mono _ _ _ _ (fun y k2 ⟨⟨fs, t, e1, ty, hn⟩, q⟩ u H2 B2 r2 => ?_) q⟩
  subst e1
  have r1' := r1.le B2.le
  obtain ⟨c1, dx, ws, ev, i1, n1, rf1⟩ := id r1'
  refine ⟨c1, dx, ws, t, ev, i1, typ_ok ty r2, hn, Av g sl σ, [.ins C fs, y], fun b z => B2.env.avdom z, ⟨v, _, rfl, r1', u, _, rfl, r2, rfl⟩, fd.mono _ _ _ (fun d ⟨r, e, q⟩ w H' sm rw_ => ?_) q⟩
  subst e
  have rw_ : w = .bl r := rw_
  subst rw_
  exact ⟨r, rfl, r, rfl, q _ H' ((B1.trans B2).trans ⟨B2.env.grow sm, LeA.same sm⟩) rfl⟩
end
/-! bool(..) of an instance -/
section
variable {P : Program} {w : World} {A : Around} {E : Value → Shared → Prop} {s : Shared}
theorem bool_by {v : Value} {Q : Value → Shared → Prop} (h : wpAny (model P w) A.in1.in1 (truthy v) (fun b s' => Q (.bool b) s') E s) : wpAny (model P w) A (call (.type "bool") [v]) Q E s := by
  refine made_begun F.called_bool (F.typeCall_bool_1 v) (Q1 := fun o t => (∃ b, o = .bool b) ∧ Q o t) (codeAny_call_builtin F.called_bool.plain F.entry_bool_new (wpAny_of_eq (F.newCall_bool_1 v) ?_)) fun o t ⟨⟨b, e⟩, q⟩ => ?_
  · have f1 := F.conv_sub_bool
    unfold Builtin.«bool.__new__»
    repeat (first
      | (refine wpAny_bind (m := truthy v) (wpAny_mono h (fun b s' q => by
          repeat (first | exact ⟨⟨b, rfl⟩, q⟩ | exact wpAny_pure ⟨⟨b, rfl⟩, q⟩ | wp_step)) fun _ _ e => e))
      | assumption
      | wp_step)
  · subst e
    have ty : t.TypeIs (.bool b) "bool" := rfl
    exact ⟨ty, codeAny_call_builtin F.called_bool.init.plain F.entry_object_init (F.called_bool.init.check _ _ _ _ _ _ _ _ ty (F.args_object_init_2 (.bool b) v) (object_init_meets F.called_bool.init.lookup F.called_bool.made F.newNe_bool P w A.in1 _ t ⟨ty, rfl, q⟩))⟩
end
section
variable {X : Cx} {fl fl' : Fl} {e o : Expr} {es : List Expr} {t te : TD} {tA : TDA} {pos p apos : Pos} {x m : Str} {f C : Addr} {fdt : FuncData} {ps ks : List Str} {k0 : Nat} {kws : List Keyword} {perm : List Nat} {fd : FD}
theorem bool_call {n : Nat} {B : Addr → Bool → Prop} (O : BoolOk X.K B f) (F : FnOk X.prog X.w X.K X.mg X.base CX0 n f fdt ps (spBool X.K B)) (hr : Room (n + 2) X.A) (hb : Binds X.K fdt ps []) :
    CallR X (.type "bool") (fun vs H Q => ∃ a C dx us b, vs = [V.ref a] ∧ H a = some (.ins C dx us) ∧ B C b ∧ (us.all fun u => u.1 != "IS_TRUE") = true ∧ Q (.bl b) H) := fun pins s σ H vs us Q I r h => by
  obtain ⟨a, C, dx, fs, b, rfl, hi, hB, hn, q⟩ := h
  obtain rfl := Vals.ref1 r
  obtain ⟨o, ho⟩ := inst_at I hi
  obtain ⟨m, hfr⟩ := I.fr
  have e0 : Env0 X.prog X.w X.K X.mg X.base X.A.in1.in1 X.stack s H := by
    have e := I.env0
    exact ⟨e.frames, e.mod, e.bs, e.bsz, e.funs, e.frf, e.hok, e.bare⟩
  have hsp : spBool X.K B [V.ref a] H (fun v H2 => v = V.bl b ∧ Q (.bl b) H2) (fun _ _ _ => False) := ⟨a, C, dx, fs, b, rfl, hi, hB, hn, rfl, q⟩
  refine bool_by (W.truthy_K hfr I.ok.mod.kin ho (O.at_ C b hB) O.fn (wpAny_call (codeAny_mono (F.run X.A.in1.in1 X.stack s H ⟨[.ref a], []⟩ [.ref a] [.ref a] _ _ hr.in1.in1 e0 ?_ (.cons rfl .nil) hsp) fun r s' hz => ?_)))
  · have := hb s [.ref a] I.kIn (by have := F.len _ _ _ _ hsp; simpa using this)
    simpa using this
  · match r, hz with
    | .error _, hz => exact (pass0 : Passes CX0 X fun _ _ _ => False) pins σ H s _ s' I hz
    | .ok (.ret z), hz =>
      obtain ⟨z', H', I', rz, e1, q⟩ := I.after hz
      subst e1
      cases rz
      exact ⟨.bl b, H', I', rfl, q⟩
def rBoolI (B : Addr → Bool → Prop) : RDA := fun ds Q => ∃ C fs b, ds = [.ins C fs] ∧ B C b ∧ (fs.all fun u => u.1 != "IS_TRUE") = true ∧ Q (.bl b)
theorem cg_boolI {n : Nat} {B : Addr → Bool → Prop} (O : BoolOk X.K B f) (F : FnOk X.prog X.w X.K X.mg X.base CX0 n f fdt ps (spBool X.K B)) (hr : Room (n + 2) X.A) (hb : Binds X.K fdt ps []) : CallG X (.type "bool") (rBoolI B) := by
  refine ⟨⟨_, bool_call O F hr hb, fun S T H ds vs P Q r q k => ?_⟩, fun ds P Q h ⟨C, fs, b, e, b1, n1, q⟩ => ⟨C, fs, b, e, b1, n1, h _ q⟩⟩
  obtain ⟨C, fs, b, rfl, hB, hn, q⟩ := q
  obtain ⟨v, rfl, r1⟩ := un1 r
  obtain ⟨a, dx, us, rfl, hi, _, rF⟩ := r1
  exact ⟨a, C, dx, us, b, rfl, hi, hB, rF.names (P := fun u => u != "IS_TRUE") hn, k _ _ _ q (fun _ _ h => h) (NewRep.sc rfl)⟩
/-! o.m(..) -/
def dMeth (C : Addr) (m : Str) (fd : FD) (t : TD) (tA : TDA) : TD := fun sl k Q => t sl k fun d k1 => ∃ fs, d = .ins C fs ∧ (fs.all fun u => u.1 != m) = true ∧ tA sl k1 fun ds k2 => fd.r (d :: ds) fun r => Q r k2
theorem dmeth_mono (he : DE X .c o t) (hm : ∀ sl k P Q, (∀ d k', P d k' → Q d k') → tA sl k P → tA sl k Q) : ∀ sl k P Q, (∀ d k', P d k' → Q d k') → (dMeth C m fd t tA) sl k P → (dMeth C m fd t tA) sl k Q :=
  fun sl k P Q hh q => he.mono _ _ _ _ (fun d k1 ⟨fs, e, n, q⟩ => ⟨fs, e, n, hm _ _ _ _ (fun ds k2 => fd.mono _ _ _ fun r => hh _ _) q⟩) q
theorem de_meth {pl : Sem Bool} (he : DE X .c o t) (c : Cls X.K C) (hm : Meth X.K C m f) (F : FnOk X.prog X.w X.K X.mg X.base CX0 k0 f fdt ps (liftSp X.K fd)) (hr : Room k0 X.A) (hb : Binds X.K fdt ps []) (ha : DA X .c (e :: es) tA)
    (hst : starEach (e :: es) X.env = (false, eval e X.env) :: starEach es X.env := by rfl) (hpl : (backTo pos (starEach es X.env)).any (·.1) = false := by rfl)
    (ht : eval (.Call (.Attribute o m apos) (e :: es) [] pos) X.env = (do
      let ov ← eval o X.env
      standAt apos.atName
      let (f, first) ← holding [ov] (getMethod ov m pl)
      callWith pos f first (backTo pos (starEach (e :: es) X.env)) (backToKw pos (keywordEach [] X.env))) := by rfl) :
    DE X .c (.Call (.Attribute o m apos) (e :: es) [] pos) (dMeth C m fd t tA) := by
  refine ⟨PE.weak (pe_meth he.pe c hm F hr hb .nil pass0 ha.pa hst hpl ht) fun σ H Q ⟨g, sl, k, E, q⟩ => ⟨g, sl, k, E, he.mono _ _ _ _ (fun d k1 ⟨fs, e1, n1, q⟩ v H1 B1 r1 => ?_) q⟩, dmeth_mono he ha.mono⟩
  subst e1
  obtain ⟨c1, dx, us, ev, i1, n2, rF⟩ := id r1
  refine ⟨c1, dx, us, ev, i1, noname (rF.names (P := fun u => u != m) n1), g, sl, k1, B1.env, ha.mono _ _ _ _ (fun ds k2 q vs H2 B2 r2 => ?_) q⟩
  have B := B1.trans B2
  refine ⟨Av g sl σ, _ :: ds, fun b z => B2.env.avdom z, ⟨v, _, rfl, r1.le B2.le, RepL.app_nil (isL_rep (fl := .c) trivial r2)⟩, fd.mono _ _ _ (fun r q w H' sm rw_ => ?_) q⟩
  exact q w H' (B.trans ⟨B2.env.grow sm, LeA.same sm⟩) rw_
end
end DL

/-! data layer, part k: calls by names of methods and classes; defs that hand back a new object -/
namespace DL
open PySem PySem.Spec PyProof.Rows L2
section
variable {X : Cx} {fl fl' : Fl} {e o : Expr} {es : List Expr} {t te : TD} {tA : TDA} {pos p apos : Pos} {x m : Str} {f C : Addr} {fdt : FuncData} {ps ks : List Str} {k0 : Nat} {kws : List Keyword} {perm : List Nat} {fd : FD}
abbrev KB1 (K : PySem.W.Frag) (fdt : FuncData) (ps ks : List Str) (perm : List Nat) : Prop := KBn K fdt ps 1 ks (fun us ws => us ++ permL perm ws) (fun vs zs => vs ++ permL perm zs)
/-! o.m(a=..) -/
theorem pe_methK {pl : Sem Bool} {sp : Sp} {k : Nat} {ta : TE} {tk : TA} (he : PE X o ta) (c : Cls X.K C) (hm : Meth X.K C m f) (F : FnOk X.prog X.w X.K X.mg X.base CX0 k f fdt ps sp) (hr : Room k X.A) (hb : KB1 X.K fdt ps ks perm) (hkw : PK X kws tk)
    (h1 : ((backToKw pos (keywordEach kws X.env)).all fun x => x.fst.isSome) = true := by rfl) (h2 : List.filterMap (fun x => x.fst) (backToKw pos (keywordEach kws X.env)) = ks := by rfl)
    (h3 : ((((backTo pos (starEach [] X.env)).any fun x => x.fst) || (backToKw pos (keywordEach kws X.env)).any fun x => x.fst.isNone) = false) := by rfl)
    (ht : eval (.Call (.Attribute o m apos) [] kws pos) X.env = (do
      let ov ← eval o X.env
      standAt apos.atName
      let (f, first) ← holding [ov] (getMethod ov m pl)
      callWith pos f first (backTo pos (starEach [] X.env)) (backToKw pos (keywordEach kws X.env))) := by rfl) :
    PE X (.Call (.Attribute o m apos) [] kws pos) (fun σ H Q => ta σ H fun x H1 => ∃ a dx fs, x = .ref a ∧ H1 a = some (.ins C dx fs) ∧ fs.lookup m = none ∧ tk σ H1 fun vs H2 => vs.length = ks.length ∧ sp (x :: permL perm vs) H2 Q (fun _ _ _ => False)) := by
  refine ⟨fun pins s σ H Q I h => W.methodCall_KW (pl := pl) (thn (he.run pins s σ H _ I h) fun u s1 ⟨x, H1, I1, rx, a, dx, fs, ex, ea, l, q⟩ => ?_) ht⟩
  subst ex
  cases rx
  refine getmeth_ok I1 ea c hm l (W.callWith_KW0 (first := [.ref a]) I1.ok.mod.kin hm.kp h1 (thn (hkw.run pos pins s1 σ H1 _ I1 q) fun us s2 z => ?_) h3)
  obtain ⟨vs, H2, I2, r, hl, q2⟩ := z
  refine ⟨I2.kIn, ?_⟩
  rw [h2]
  have r2 : Vals (V.ref a :: permL perm vs) (Value.ref a :: permL perm us) := .cons rfl (vals_perm r perm)
  refine wpAny_call (codeAny_mono (F.run X.A X.stack s2 H2 _ (.ref a :: permL perm us) (.ref a :: permL perm vs) Q (fun _ _ _ => False) hr I2.env0 (hb.to s2 [.ref a] us I2.kIn rfl (by rw [← Vals.length r]; exact hl)) r2 q2) fun r s' hq => ?_)
  cases r with
  | error e => exact hq.elim
  | ok fl =>
    cases fl with
    | ret u => exact Inv.after I2 hq
    | _ => exact hq.elim
def dMethK (C : Addr) (m : Str) (n : Nat) (perm : List Nat) (fd : FD) (t : TD) (tA : TDA) : TD := fun sl k Q => t sl k fun d k1 => ∃ fs, d = .ins C fs ∧ (fs.all fun u => u.1 != m) = true ∧ tA sl k1 fun ds k2 => ds.length = n ∧ fd.r (d :: permL perm ds) fun r => Q r k2
theorem de_methK {pl : Sem Bool} (he : DE X .c o t) (c : Cls X.K C) (hm : Meth X.K C m f) (F : FnOk X.prog X.w X.K X.mg X.base CX0 k0 f fdt ps (liftSp X.K fd)) (hr : Room k0 X.A) (hb : KB1 X.K fdt ps ks perm) (hkw : DK X .c kws tA)
    (h1 : ((backToKw pos (keywordEach kws X.env)).all fun x => x.fst.isSome) = true := by rfl) (h2 : List.filterMap (fun x => x.fst) (backToKw pos (keywordEach kws X.env)) = ks := by rfl)
    (h3 : ((((backTo pos (starEach [] X.env)).any fun x => x.fst) || (backToKw pos (keywordEach kws X.env)).any fun x => x.fst.isNone) = false) := by rfl)
    (ht : eval (.Call (.Attribute o m apos) [] kws pos) X.env = (do
      let ov ← eval o X.env
      standAt apos.atName
      let (f, first) ← holding [ov] (getMethod ov m pl)
      callWith pos f first (backTo pos (starEach [] X.env)) (backToKw pos (keywordEach kws X.env))) := by rfl) :
    DE X .c (.Call (.Attribute o m apos) [] kws pos) (dMethK C m ks.length perm fd t tA) := by
  refine ⟨PE.weak (pe_methK he.pe c hm F hr hb hkw.pk h1 h2 h3 ht) fun σ H Q ⟨g, sl, k, E, q⟩ => ⟨g, sl, k, E, he.mono _ _ _ _ (fun d k1 ⟨fs, e1, n1, q⟩ v H1 B1 r1 => ?_) q⟩,
    fun sl k P Q hh q => he.mono _ _ _ _ (fun d k1 ⟨fs, e, n, q⟩ => ⟨fs, e, n, hkw.mono _ _ _ _ (fun ds k2 ⟨hl, q⟩ => ⟨hl, fd.mono _ _ _ (fun r => hh _ _) q⟩) q⟩) q⟩
  subst e1
  obtain ⟨c1, dx, us, ev, i1, n2, rF⟩ := id r1
  refine ⟨c1, dx, us, ev, i1, noname (rF.names (P := fun u => u != m) n1), g, sl, k1, B1.env, hkw.mono _ _ _ _ (fun ds k2 ⟨hl, q⟩ vs H2 B2 r2 => ?_) q⟩
  have B := B1.trans B2
  have rr := isL_rep (fl := .c) trivial r2
  refine ⟨by rw [← rr.length]; exact hl, Av g sl σ, _ :: permL perm ds, fun b z => B2.env.avdom z, ⟨v, _, rfl, r1.le B2.le, repL_perm rr perm⟩, fd.mono _ _ _ (fun r q w H' sm rw_ => ?_) q⟩
  exact q w H' (B.trans ⟨B2.env.grow sm, LeA.same sm⟩) rw_
/-! C(a=..) -/
def dMakeK (C : Addr) (n : Nat) (perm : List Nat) (R : List D → List (Str × D) → Prop) (t : TDA) : TD := fun sl k Q => t sl k fun ds k1 => ds.length = n ∧ ∃ fs, R (permL perm ds) fs ∧ Q (.ins C fs) k1
theorem de_makeK {R : List D → List (Str × D) → Prop} (M : Mk X.K C f) (F : FnOk X.prog X.w X.K X.mg X.base CX0 k0 f fdt ps (spIns X.K C R)) (hr : Room (k0 + 1) X.A) (hg : Gl X x) (hm : X.mg x = some (.ref C)) (hb : KB1 X.K fdt ps ks perm) (hkw : DK X .c kws tA)
    (h1 : (backToKw pos (keywordEach kws X.env)).all (·.1.isSome) = true := by rfl) (h2 : (backToKw pos (keywordEach kws X.env)).filterMap (·.1) = ks := by rfl) (hdb : (x == ("__debug__" : Str)) = false := by decide)
    (h3 : ((backTo pos (starEach [] X.env)).any (·.1) || (backToKw pos (keywordEach kws X.env)).any (·.1.isNone)) = false := by rfl) :
    DE X .c (.Call (.Name x p) [] kws pos) (dMakeK C ks.length perm R tA) := by
  refine ⟨PE.weak (pe_makeK0 (E := fun _ _ _ => False) M F hr hg hm hb (fun _ _ _ _ _ _ _ z => z.elim) hkw.pk h1 h2 hdb h3) fun σ H Q h => ?_, fun sl k P Q h q => hkw.mono _ _ _ _ (fun ds k1 ⟨hl, fs, r, q⟩ => ⟨hl, fs, r, h _ _ q⟩) q⟩
  obtain ⟨g, sl, k, E, q⟩ := h
  refine ⟨g, sl, k, E, hkw.mono _ _ _ _ (fun ds k1 ⟨hl, fs, hR, q⟩ vs H1 B1 r1 => ?_) q⟩
  have rr := isL_rep (fl := .c) trivial r1
  refine ⟨rfl, by rw [← rr.length]; exact hl, fun y dx hy hdx hne => ?_⟩
  have dom : ∀ b, Av g sl σ b → H1 b ≠ none := fun b z => B1.env.avdom z
  have g1 : ∀ b w, H1 b = some w → upd (upd H1 dx (HO.own y)) y (.ins C dx []) b = some w := fun b w z => by
    rw [upd_ne (ne_of_none z hy), upd_ne (ne_of_none z hdx)]; exact z
  refine ⟨y, dx, permL perm vs, Pls (Av g sl σ) y, permL perm ds, fs, rfl, upd_same, fun b z => ?_, .inr rfl, repL_perm ?_ perm, hR, fun H' us hk hi rF => ⟨rfl, ?_⟩⟩
  · rcases z with z | z
    · exact (LeA.same (A := fun _ => False) g1).ne (dom b z)
    · rw [z, upd_same]; intro y; cases y
  · exact RepL.mv (Mv.le (P := fun _ => False) (LeA.same g1) (fun _ z => z.elim) fun _ z => z.imp id fun e => by rw [e]; exact hy) ds rr
  · have g2 : ∀ b w, H1 b = some w → H' b = some w := fun b w z => hk b w (ne_of_none z hy) (g1 b w z)
    refine q (.ref y) H' (B1.trans ⟨B1.env.grow g2, LeA.same g2⟩) ?_
    exact ⟨y, dx, us, rfl, hi, fun z => B1.env.avdom z hy, RepF.mv (Mv.anti fun _ z => .inl (.inl z)) _ rF⟩
end
/-! defs that hand back a new object -/
def liftSpPN (K : PySem.W.Frag) (fp : FP) : Sp := fun vs H Q _ => ∃ (A : AS) (ds : List D) (a : Addr) (ws : List V) (k : Nat) (pb : Addr) (pn : List Int), vs = .ref a :: ws ∧ A a ∧ (∀ b, A b → H b ≠ none) ∧ PenAt K A H k pb pn a ∧ RepL K A H ds ws ∧
  fp.r k ds fun d k' => ∀ v H', LeA (fun b => b = a) H H' → PenAt K A H' k' pb pn a → NewRep K A H H' d v → Q v H'
section
variable {P : Program} {w : World} {K : PySem.W.Frag} {mg : Str → Option Value} {base : Heap}
theorem own_new {S S' : AS} {H H' : Hp} {d : D} {a : Addr} (hc : isCont d = true) (o : OwnAt K S H' d a) (h0 : H a = none) (hS : ∀ b, Pls S' a b → S b) : NewRep K S' H H' d (.ref a) := by
  have m : Mv H' H' S (Pls S' a) := Mv.anti fun b z => .inl (hS b z)
  cases d <;> first | cases hc | skip
  · obtain ⟨vs, e, r⟩ := o; exact ⟨a, vs, rfl, h0, e, RepL.mv m _ r⟩
  · obtain ⟨vs, e, r⟩ := o; exact ⟨a, vs, rfl, h0, e, RepK.mv m _ r⟩
  · obtain ⟨vs, e, r⟩ := o; exact ⟨a, vs, rfl, h0, e, RepT.mv m _ r⟩
/-- a def of three statements, the pen first, the last one hands back what it made itself -/
theorem def_okPN {x qual y : Str} {st s1 s2 : Stmt} {f : Addr} {fdt : FuncData} {N ps : List Str} {k i : Nat} {fp : FP} {py rp : Pos} (F : Fun K x qual st f fdt) (S : FnScope N ps (defScope st)) (len : ∀ k ds Q, fp.r k ds Q → ds.length + 1 = ps.length) (hbd : defBody st = [s1, s2, .Return (some (.Name y py)) rp])
    (hbody : ∀ (cdv : Value) (A : Around) (outer : List Env) (s : Shared) (H : Hp) (E : XK), Room k (A.deeper (envOfC qual (defScope st) s.heap.objs.size f cdv)) → ∃ t1 t2, DS (cxOf CX0 P w K mg base N qual (defScope st) f cdv A outer s H E).nox s1 t1 ∧ DS (cxOf CX0 P w K mg base N qual (defScope st) f cdv A outer s H E).nox s2 t2 ∧
      PE (cxOf CX0 P w K mg base N qual (defScope st) f cdv A outer s H E).nox (.Name y py) (tVar i) ∧ ∀ k ds (Q : D → Nat → Prop), fp.r k ds Q → dSeq t1 t2 { nx := fun sl k' => sl[0]? = some .pen ∧ ∃ d, sl[i]? = some (.own d) ∧ isCont d = true ∧ Q d k', rt := fun _ _ _ => False } (startSP N ds) k) : FnOk P w K mg base CX0 (k + 1) f fdt ps (liftSpPN K fp) := by
  refine F.ok S (fun vs H Q E h => ?_) fun cdv A outer s H vs Q E hr h => ?_
  · obtain ⟨A, ds, a, ws, k, pb, pn, e, ha, hA, hp, r, q⟩ := h
    subst e
    rw [List.length_cons, ← r.length]
    exact len k ds _ q
  · obtain ⟨A', ds, a, ws, k1, pb, pn, e, ha, hA, hp, r, q⟩ := h
    subst e
    obtain ⟨t1, t2, h1, h2, hv, hq⟩ := hbody cdv A outer s H E hr
    have pen : ∀ {sl k σ H'}, EnvOk K ⟨A', fun b => b = a, H, pb, pn, a⟩ sl k σ H' → sl[0]? = some Slot.pen → PenAt K A' H' k pb pn a := fun {sl k σ H'} e h => by
      obtain ⟨a', q1, q2, _⟩ := e.pen 0 h
      have : a = a' := e.pa 0 a' h q1
      subst this
      exact q2.mv (Mv.anti fun b z => .inl (.inl z)) fun _ h => h
    refine ⟨tSeq (tS K t1) (tSeq (tS K t2) (tRet (tVar i))), by rw [hbd]; exact pss_cons h1.ps (pss_cons h2.ps (pss_one (ps_ret hv))), ?_⟩
    show tS K t1 _ _ _
    refine ⟨⟨A', fun b => b = a, H, pb, pn, a⟩, _, k1, _, start_envP hA ha hp r, ?_, hq k1 ds _ q⟩
    refine ⟨fun sl k σ H' en z => ?_, fun _ _ _ _ _ _ _ _ q => False.elim q, fun _ _ _ _ _ q => q.elim, fun _ _ _ _ _ q => q.elim⟩
    refine ⟨_, sl, k, _, en, ?_, z⟩
    refine ⟨fun sl k σ H' en z => ?_, fun _ _ _ _ _ _ _ _ q => False.elim q, fun _ _ _ _ _ q => q.elim, fun _ _ _ _ _ q => q.elim⟩
    obtain ⟨z0, d, hi, hc, q⟩ := z
    obtain ⟨b, eb, o, nA, hm⟩ := en.own i d hi
    have hb : H b = none := hm.elim id fun (z : b = a) => absurd (show A' b from z ▸ ha) nA
    have oa : OwnB sl σ b := ⟨i, _, hi, trivial, eb⟩
    exact ⟨.ref b, eb, q (.ref b) H' en.le (pen en z0) (own_new hc o hb fun c z => z.elim .inl fun z => .inr (z ▸ oa))⟩
variable {X : Cx} {k0 : Nat} {f : Addr} {fdt : FuncData} {ps : List Str} {fp : FP} {x y : Str} {p py pos : Pos} {e : Expr} {es : List Expr} {tA : TDA}
theorem callPN_core {σ : L2.St} {H : Hp} {Q : VK} {E : XK} {i : Nat} (ha : DA X .c es tA) (h : tDN X.K .c (dCallP i fp tA) σ H Q) : tCons (tVar i) (tDA X.K .c tA) σ H fun vs H1 => liftSpPN X.K fp (vs ++ []) H1 Q E := by
  obtain ⟨g, sl, k, E, hi, ho, q⟩ := h
  obtain ⟨a, ea, pa, _⟩ := E.pen i hi
  refine ⟨.ref a, ea, g, sl, k, E, ha.mono _ _ _ _ (fun ds k1 q vs H1 B1 r1 => ?_) q⟩
  have rr := isL_rep (fl := .c) trivial r1
  obtain ⟨a', ea', pa', _⟩ := B1.env.pen i hi
  rw [ea] at ea'; cases ea'
  refine ⟨Av g sl σ, ds, a, vs, k1, g.pb, g.pn, by rw [List.append_nil], .inr ⟨i, _, hi, trivial, ea⟩, fun b z => B1.env.avdom z, pa', rr, fp.mono _ _ _ _ (fun d k2 q v H' l pn r => ?_) q⟩
  have lp : LeA (PenB sl σ) H1 H' := l.mono fun b z => ⟨i, hi, by rw [z]; exact ea⟩
  refine q v H' (B1.trans ⟨B1.env.behind lp fun j b e1 e2 => ?_, lp⟩) (NewRep.from r (B1.le.mono fun _ _ => trivial))
  have := onePen_ok ho e1
  subst this
  rw [ea] at e2; cases e2
  exact pn
theorem dn_callPN {i : Nat} (F : FnOk X.prog X.w X.K X.mg X.base CX0 k0 f fdt ps (liftSpPN X.K fp)) (hr : Room k0 X.A) (hg : Gl X x) (hm : X.mg x = some (.ref f)) (hk : PySem.W.keepIn X.K (.ref f) = true) (hb : Binds X.K fdt ps [])
    (hv : PE X (.Name y py) (tVar i)) (ha : DA X .c es tA) (hdb : (x == ("__debug__" : Str)) = false := by decide) (he : starEach (.Name y py :: es) X.env = (false, eval (.Name y py) X.env) :: starEach es X.env := by rfl) (hpl : (backTo pos (starEach es X.env)).any (·.1) = false := by rfl) :
    DN X .c (.Call (.Name x p) (.Name y py :: es) [] pos) (dCallP i fp tA) :=
  ⟨PE.weak (pe_call F hr hg hm hk hb .nil pass0 (pa_cons hv ha.pa he) hdb he hpl) fun σ H Q h => callPN_core ha h, fun sl k P Q h ⟨a, b, q⟩ => ⟨a, b, ha.mono _ _ _ _ (fun ds k1 => fp.mono _ _ _ _ fun z k2 => h z k2) q⟩⟩
end
/-! compared by an own __eq__, in tests -/
section
variable {X : Cx} {a b : Expr} {ta tb : TD} {pos : Pos} {n : Nat} {C f : Addr} {fdt : FuncData} {ps : List Str} {fd : FD}
theorem dt_eqI (F : FnOk X.prog X.w X.K X.mg X.base CX0 n f fdt ps (liftSp X.K fd)) (hq : EqIn X.K C f) (hb : Binds X.K fdt ps []) (hr : Room n X.A)
    (ha : DE X .c a ta) (hb2 : DE X .c b tb) (hm : behindInMarks .Eq b = false := by first | rfl | exact nomark _) : DT X (.Compare a [.Eq] [b] pos) (dTest (dEqI X.K C fd ta tb)) := by
  refine ⟨PT.weak (pt_cmpR (op_own F hq hb hr) ha.pe hb2.pe hm) fun σ H Q ⟨g, sl, k, E, q⟩ => ?_,
    fun sl k P Q hh q => ha.mono _ _ _ _ (fun x k1 => hb2.mono _ _ _ _ fun y k2 ⟨e, q⟩ => ⟨e, fd.mono _ _ _ (fun d ⟨r, e, b, e2, q⟩ => ⟨r, e, b, e2, hh _ _ q⟩) q⟩) q⟩
  refine ⟨g, sl, k, E, ha.mono _ _ _ _ (fun x k1 q v H1 B1 r1 => ?_) q⟩
  refine ⟨g, sl, k1, B1.env, hb2.mono _ _ _ _ (fun y k2 ⟨⟨fs, t, e1, ty, hn⟩, q⟩ u H2 B2 r2 => ?_) q⟩
  subst e1
  obtain ⟨c1, dx, ws, ev, i1, n1, rf1⟩ := id (r1.le B2.le)
  refine ⟨c1, dx, ws, t, ev, i1, typ_ok ty r2, hn, Av g sl σ, [.ins C fs, y], fun b z => B2.env.avdom z, ⟨v, _, rfl, r1.le B2.le, u, _, rfl, r2, rfl⟩, fd.mono _ _ _ (fun d ⟨r, e, b, e2, q⟩ w H' sm rw_ => ?_) q⟩
  subst e
  cases e2
  have rw_ : w = .bl r := rw_
  subst rw_
  exact ⟨r, rfl, r, rfl, q H' ((B1.trans B2).trans ⟨B2.env.grow sm, LeA.same sm⟩)⟩
theorem dt_neI (F : FnOk X.prog X.w X.K X.mg X.base CX0 n f fdt ps (liftSp X.K fd)) (hq : EqIn X.K C f) (hN : NeIn X.K C) (hb : Binds X.K fdt ps []) (hr : Room (n + 1) X.A)
    (ha : DE X .c a ta) (hb2 : DE X .c b tb) (hm : behindInMarks .NotEq b = false := by first | rfl | exact nomark _) : DT X (.Compare a [.NotEq] [b] pos) (dTest (dNeI X.K C fd ta tb)) := by
  refine ⟨PT.weak (pt_cmpR (op_neOwn F hq hN hb hr.in1 (hu_of hr)) ha.pe hb2.pe hm) fun σ H Q ⟨g, sl, k, E, q⟩ => ?_,
    fun sl k P Q hh q => ha.mono _ _ _ _ (fun x k1 => hb2.mono _ _ _ _ fun y k2 ⟨e, q⟩ => ⟨e, fd.mono _ _ _ (fun d ⟨r, e, b, e2, q⟩ => ⟨r, e, b, e2, hh _ _ q⟩) q⟩) q⟩
  refine ⟨g, sl, k, E, ha.mono _ _ _ _ (fun x k1 q v H1 B1 r1 => ?_) q⟩
  refine ⟨g, sl, k1, B1.env, hb2.mono _ _ _ _ (fun y k2 ⟨⟨fs, t, e1, ty, hn⟩, q⟩ u H2 B2 r2 => ?_) q⟩
  subst e1
  obtain ⟨c1, dx, ws, ev, i1, n1, rf1⟩ := id (r1.le B2.le)
  refine ⟨c1, dx, ws, t, ev, i1, typ_ok ty r2, hn, Av g sl σ, [.ins C fs, y], fun b z => B2.env.avdom z, ⟨v, _, rfl, r1.le B2.le, u, _, rfl, r2, rfl⟩, fd.mono _ _ _ (fun d ⟨r, e, b, e2, q⟩ w H' sm rw_ => ?_) q⟩
  subst e
  cases e2
  have rw_ : w = .bl r := rw_
  subst rw_
  exact ⟨r, rfl, r, rfl, !r, rfl, q H' ((B1.trans B2).trans ⟨B2.env.grow sm, LeA.same sm⟩)⟩
end
end DL

/-! data layer, part l: in: of texts, of tuples of ints, of range(n) -/
namespace DL
open PySem PySem.Spec PyProof.Rows L2
theorem inV_strs (x : Str) : ∀ ss : List Str, inV (.str x) (ss.map V.str) = decide (x ∈ ss)
  | [] => by simp [inV]
  | s :: ss => by
    have h := inV_strs x ss
    unfold inV at h ⊢
    rw [List.map_cons, List.any_cons, h]
    have e : eqV (V.str s) (V.str x) = decide (s = x) := by
      show (s == x) = _
      by_cases q : s = x
      · subst q; simp
      · rw [decide_eq_false q]; exact beq_eq_false_iff_ne.mpr q
    rw [e]
    by_cases q : s = x
    · simp [q]
    · have q' : ¬ x = s := fun z => q z.symm
      simp [q, q']
theorem flat_strs : ∀ ss : List Str, (ss.map V.str).all flatV = true
  | [] => rfl
  | s :: ss => by rw [List.map_cons, List.all_cons, flat_strs ss]; rfl
theorem RepL.strs {K : PySem.W.Frag} {S : AS} {H : Hp} : ∀ {ss : List Str} {vs : List V}, RepL K S H (ss.map D.str) vs → vs = ss.map V.str
  | [], _, r => r
  | s :: ss, _, ⟨v, ws, e, r, q⟩ => by
    subst e
    rw [RepL.strs q, show v = .str s from r]
    rfl
/-- a text in a list or tuple of texts -/
def rInS (neg : Bool) : RD2 := fun x y Q => ∃ (i : Str) (ss : List Str), x = .str i ∧ (y = .lst (ss.map D.str) ∨ y = .tup (ss.map D.str)) ∧ Q (.bl (if neg then !decide (i ∈ ss) else decide (i ∈ ss)))
theorem os_inS {X : Cx} : OpS X (compareOp .In) (rInS false) := by
  refine ⟨⟨_, op_in_seq, fun S T S' T' H x y v u P Q r1 r2 q k => ?_⟩, fun x y P Q h ⟨i, j, a, b, q⟩ => ⟨i, j, a, b, h _ q⟩⟩
  obtain ⟨i, ss, rfl, hy, q⟩ := q
  obtain ⟨c, vs, rfl, sq, rr⟩ := unS hy r2
  rw [show v = .str i from r1]
  rw [RepL.strs rr] at sq
  exact ⟨c, _, rfl, sq, rfl, flat_strs ss, by rw [inV_strs]; exact k _ _ q rfl⟩
theorem os_notInS {X : Cx} : OpS X (compareOp .NotIn) (rInS true) := by
  refine ⟨⟨_, op_notIn_seq, fun S T S' T' H x y v u P Q r1 r2 q k => ?_⟩, fun x y P Q h ⟨i, j, a, b, q⟩ => ⟨i, j, a, b, h _ q⟩⟩
  obtain ⟨i, ss, rfl, hy, q⟩ := q
  obtain ⟨c, vs, rfl, sq, rr⟩ := unS hy r2
  rw [show v = .str i from r1]
  rw [RepL.strs rr] at sq
  exact ⟨c, _, rfl, sq, rfl, flat_strs ss, by rw [inV_strs]; exact k _ _ q rfl⟩
/-- an int in a list or tuple of ints -/
def rInT (neg : Bool) : RD2 := fun x y Q => ∃ (i : Int) (ns : List Int), x = .int i ∧ (y = .lst (ns.map D.int) ∨ y = .tup (ns.map D.int)) ∧ Q (.bl (if neg then !decide (i ∈ ns) else decide (i ∈ ns)))
theorem os_inT {X : Cx} : OpS X (compareOp .In) (rInT false) := by
  refine ⟨⟨_, op_in_seq, fun S T S' T' H x y v u P Q r1 r2 q k => ?_⟩, fun x y P Q h ⟨i, j, a, b, q⟩ => ⟨i, j, a, b, h _ q⟩⟩
  obtain ⟨i, ss, rfl, hy, q⟩ := q
  obtain ⟨c, vs, rfl, sq, rr⟩ := unS hy r2
  rw [show v = .int i from r1]
  rw [RepL.ints rr] at sq
  exact ⟨c, _, rfl, sq, rfl, flat_ints ss, by rw [inV_ints]; exact k _ _ q rfl⟩
theorem os_notInT {X : Cx} : OpS X (compareOp .NotIn) (rInT true) := by
  refine ⟨⟨_, op_notIn_seq, fun S T S' T' H x y v u P Q r1 r2 q k => ?_⟩, fun x y P Q h ⟨i, j, a, b, q⟩ => ⟨i, j, a, b, h _ q⟩⟩
  obtain ⟨i, ss, rfl, hy, q⟩ := q
  obtain ⟨c, vs, rfl, sq, rr⟩ := unS hy r2
  rw [show v = .int i from r1]
  rw [RepL.ints rr] at sq
  exact ⟨c, _, rfl, sq, rfl, flat_ints ss, by rw [inV_ints]; exact k _ _ q rfl⟩
/-! in range(n) -/
section
variable {X : Cx} {fl fl' : Fl} {a b : Expr} {ta tb : TD} {pos p p2 : Pos}
theorem cr_rng1 : CallR X (.type "range") (fun vs H Q => ∃ n, vs = [V.int n] ∧ ∀ p, H p = none → Q (.ref p) (upd H p (.rng 0 n))) := fun pins s σ H vs us Q I r h => by
  obtain ⟨n, rfl, q⟩ := h
  obtain ⟨u, rfl, t, rfl⟩ := vals1 r
  refine call_range_1 ⟨.ref s.heap.objs.size, upd H s.heap.objs.size (.rng 0 n), I.laid (t' := s.toks + 1 + 1) (fun c o e => Heap.get?_push_of_some _ e) (Nat.le_refl _) ⟨s.toks, t, s.toks + 1, Heap.get?_push_size _ rfl⟩, rfl, q _ (I.hok.fresh (Nat.le_refl _))⟩
theorem op_ninRg : OpR X (compareOp .NotIn) (fun x y H Q => ∃ i a lo hi, x = V.int i ∧ y = V.ref a ∧ H a = some (.rng lo hi) ∧ Q (.bl (!decide (lo ≤ i ∧ i < hi))) H) := fun pins s σ H x y v u Q I rx ry h => by
  obtain ⟨i, c, lo, hi, rfl, rfl, ha, q⟩ := h
  obtain ⟨k, rfl⟩ := rx
  cases ry
  obtain ⟨t1, t2, t3, ho⟩ := I.hok c _ ha
  show wpAny _ _ (do return Value.bool (!(← contains (Value.ref c) (Value.int i k)))) _ _ s
  refine wpAny_bind (wpAny_contains_slot (T := "range") ⟨_, ho, rfl⟩ F.slot_range_contains (call_meets F.slot_range_contains ⟨_, ho, rfl⟩ F.entry_range_contains (F.args_range_contains_2 _ _) (q_contains c lo hi i t1 t2 t3 k) ⟨ho, wpAny_truthy_bool (wpAny_pure ⟨.bl (!decide (lo ≤ i ∧ i < hi)), H, I, ?_, q⟩)⟩))
  rw [place1]
  rfl
def dInRg (neg : Bool) (ta tb : TD) : TD := fun sl k Q => ta sl k fun x k1 => tb sl k1 fun y k2 => ∃ i n : Int, x = .int i ∧ y = .int n ∧ Q (.bl (if neg then !decide (0 ≤ i ∧ i < n) else decide (0 ≤ i ∧ i < n))) k2
theorem inRg_read {neg : Bool} (ha : DE X fl a ta) (hb : DE X fl' b tb) {σ : L2.St} {H : Hp} {Q : VK} (h : tD X.K .c (dInRg neg ta tb) σ H Q) :
    tOp (fun x y H Q => ∃ i a lo hi, x = V.int i ∧ y = V.ref a ∧ H a = some (.rng lo hi) ∧ Q (.bl (if neg then !decide (lo ≤ i ∧ i < hi) else decide (lo ≤ i ∧ i < hi))) H) (tD X.K fl ta) (tCB (fun vs H Q => ∃ n, vs = [V.int n] ∧ ∀ p, H p = none → Q (.ref p) (upd H p (.rng 0 n))) (tCons (tD X.K fl' tb) tNil)) σ H Q := by
  obtain ⟨g, sl, k, E, q⟩ := h
  refine ⟨g, sl, k, E, ha.mono _ _ _ _ (fun x k1 q v H1 B1 r1 => ?_) q⟩
  refine ⟨g, sl, k1, B1.env, hb.mono _ _ _ _ (fun y k2 ⟨i, n, e1, e2, qq⟩ u H2 B2 r2 => ?_) q⟩
  subst e1 e2
  have r1 : v = .int i := r1
  have r2 : u = .int n := r2
  subst r1 r2
  exact ⟨n, rfl, fun c hc => ⟨i, c, 0, n, rfl, rfl, upd_same, qq _ _ ((B1.trans B2).new hc) rfl⟩⟩
theorem inRg_mono {neg : Bool} (ha : DE X fl a ta) (hb : DE X fl' b tb) : ∀ sl k P Q, (∀ d k', P d k' → Q d k') → (dInRg neg ta tb) sl k P → (dInRg neg ta tb) sl k Q :=
  fun sl k P Q hh q => ha.mono _ _ _ _ (fun x k1 => hb.mono _ _ _ _ fun y k2 ⟨i, n, e1, e2, q⟩ => ⟨i, n, e1, e2, hh _ _ q⟩) q
theorem pe_rng1 (hg : Gl X "range") (hm : X.mg "range" = none) (hb : DE X fl' b tb) (he : starEach [b] X.env = (false, eval b X.env) :: starEach [] X.env := by rfl) :
    PE X (.Call (.Name "range" p) [b] [] p2) (tCB (fun vs H Q => ∃ n, vs = [V.int n] ∧ ∀ p, H p = none → Q (.ref p) (upd H p (.rng 0 n))) (tCons (tD X.K fl' tb) tNil)) :=
  pe_callTy cr_rng1 hg hm (by decide +kernel) (pa_cons hb.pe pa_nil he) (he := he)
theorem de_inRg (hg : Gl X "range") (hm : X.mg "range" = none) (ha : DE X fl a ta) (hb : DE X fl' b tb) (he : starEach [b] X.env = (false, eval b X.env) :: starEach [] X.env := by rfl)
    (hmk : behindInMarks .In (.Call (.Name "range" p) [b] [] p2) = false := by first | rfl | exact nomark _) : DE X .c (.Compare a [.In] [.Call (.Name "range" p) [b] [] p2] pos) (dInRg false ta tb) :=
  ⟨PE.weak (pe_cmpR op_in_rng ha.pe (pe_rng1 hg hm hb he) hmk) fun σ H Q h => inRg_read ha hb h, inRg_mono ha hb⟩
theorem de_ninRg (hg : Gl X "range") (hm : X.mg "range" = none) (ha : DE X fl a ta) (hb : DE X fl' b tb) (he : starEach [b] X.env = (false, eval b X.env) :: starEach [] X.env := by rfl)
    (hmk : behindInMarks .NotIn (.Call (.Name "range" p) [b] [] p2) = false := by first | rfl | exact nomark _) : DE X .c (.Compare a [.NotIn] [.Call (.Name "range" p) [b] [] p2] pos) (dInRg true ta tb) :=
  ⟨PE.weak (pe_cmpR op_ninRg ha.pe (pe_rng1 hg hm hb he) hmk) fun σ H Q h => inRg_read ha hb h, inRg_mono ha hb⟩
theorem dtRg_read {neg : Bool} {r : R2} {tb' : TE} (ha : DE X fl a ta) (hb : DE X fl' b tb) (h0 : ∀ {σ : L2.St} {H : Hp} {Q : VK}, tD X.K .c (dInRg neg ta tb) σ H Q → tOp r (tD X.K fl ta) tb' σ H Q) {σ : L2.St} {H : Hp} {Q : Bool → Hp → Prop} (h : tDT X.K (dTest (dInRg neg ta tb)) σ H Q) :
    tTest (tOp r (tD X.K fl ta) tb') σ H Q := by
  obtain ⟨g, sl, k, E, q⟩ := h
  refine h0 ⟨g, sl, k, E, inRg_mono ha hb _ _ _ _ (fun d k' ⟨b, e, q⟩ v H' B r => ?_) q⟩
  subst e
  exact ⟨b, r, q H' B⟩
theorem dt_inRg (hg : Gl X "range") (hm : X.mg "range" = none) (ha : DE X fl a ta) (hb : DE X fl' b tb) (he : starEach [b] X.env = (false, eval b X.env) :: starEach [] X.env := by rfl)
    (hmk : behindInMarks .In (.Call (.Name "range" p) [b] [] p2) = false := by first | rfl | exact nomark _) : DT X (.Compare a [.In] [.Call (.Name "range" p) [b] [] p2] pos) (dTest (dInRg false ta tb)) :=
  ⟨PT.weak (pt_cmpR op_in_rng ha.pe (pe_rng1 hg hm hb he) hmk) fun σ H Q h => dtRg_read ha hb (fun h => inRg_read ha hb h) h, fun sl k P Q hh q => inRg_mono ha hb _ _ _ _ (fun d k' ⟨b, e, q⟩ => ⟨b, e, hh _ _ q⟩) q⟩
theorem dt_ninRg (hg : Gl X "range") (hm : X.mg "range" = none) (ha : DE X fl a ta) (hb : DE X fl' b tb) (he : starEach [b] X.env = (false, eval b X.env) :: starEach [] X.env := by rfl)
    (hmk : behindInMarks .NotIn (.Call (.Name "range" p) [b] [] p2) = false := by first | rfl | exact nomark _) : DT X (.Compare a [.NotIn] [.Call (.Name "range" p) [b] [] p2] pos) (dTest (dInRg true ta tb)) :=
  ⟨PT.weak (pt_cmpR op_ninRg ha.pe (pe_rng1 hg hm hb he) hmk) fun σ H Q h => dtRg_read ha hb (fun h => inRg_read ha hb h) h, fun sl k P Q hh q => inRg_mono ha hb _ _ _ _ (fun d k' ⟨b, e, q⟩ => ⟨b, e, hh _ _ q⟩) q⟩
end
end DL

/-! data layer, part m: dict comprehensions whose keys are tuples -/
namespace DL
open PySem PySem.Spec PyProof.Rows L2
section
variable {X : Cx}
/-- a key and its value are put into the dict at d -/
theorem dt_put {pins : List (Addr × Obj)} {σ : L2.St} {H : Hp} {s : Shared} {E : Value → Shared → Prop} {d c : Addr} {kvs : List (List Key × V)} {ks : List Key} {v : V} {r : Value} {Q : Unit → Shared → Prop} (hu : X.A.units < cLine) (I : L2.Inv X pins σ H s) (hd : H d = some (.dT kvs)) (hc : H c = some (.tup (ks.map kV)))
    (hz : kvs.length < sizeLine) (rv : RelV v r) (h : ∀ s', L2.Inv X pins σ (upd H d (.dT (putK kvs ks v))) s' → Q () s') : wpAny (model X.prog X.w) X.A (dictSet d (.ref c) r) Q E s := by
  obtain ⟨z, hy, xs, rel, dd⟩ := dt_of I.hok hd
  have len : xs.length ≤ sizeLine := by rw [← Paired.length rel]; exact z
  refine wpAny_dictSet_heap (hsz := len) hu (key_of I.hok hc) dd fun h' dd' hs => h _ ?_
  obtain ⟨o, es, ep, ho, h2, h3, h4, _, h5⟩ := dd'
  have more := length_putK kvs ks v
  refine d_write I (by rw [hd]; exact True.intro) hs ⟨o, ho⟩ ⟨by omega, hy, _, (rel.put ks hc rv).keeps fun b ys eb => ?_, o, es, ep, ho, h2, h3, h4, h5⟩
  rw [upd_ne (ne_of eb hd (fun z => nomatch z))]
  exact eb
/-- {k: v for target in iter}, k a tuple: D the new dict -/
def tDcT (wi : TI) (g : TG) (tk tv : TE) (vs : List Nat) : TE := fun σ H Q => wi σ H fun J H1 => ∀ d, H1 d = none → ∃ W : Nat → Nat → Hp → Prop, (∃ m, W 0 m (upd H1 d (.dT []))) ∧ ∀ i m H, W i m H →
  (J.stop i H ∧ Q (.ref d) H) ∨ (J.go i H ∧ ∃ Nx : Hp → Prop, (∀ H', Nx H' → ∃ m', m' < m ∧ W (i + 1) m' H') ∧ ∀ x H', J.yld i H x H' → g x (wipe σ vs) H' fun σ2 H2 => wipe σ2 vs = wipe σ vs ∧
    tk σ2 H2 fun y H3 => tv σ2 H3 fun z H4 => ∃ kvs ks c, y = .ref c ∧ H4 c = some (.tup (ks.map kV)) ∧ H4 d = some (.dT kvs) ∧ kvs.length < sizeLine ∧ Nx (upd H4 d (.dT (putK kvs ks z))))
theorem dcT_run {pins : List (Addr × Obj)} {σ : L2.St} {H : Hp} {s : Shared} {Q : VK} {kx vx tg it : Expr} {sc : Scope} {own : List (Str × Nat)} {pos pos' : Pos} {wi : TI} {g : TG} {tk tv : TE} {use : Option (Value → Sem Unit)} {Qf : Value → Shared → Prop} (hu : X.A.units < cLine)
    (calm : X.calm = true) (nd : X.N.Nodup) (I : L2.Inv X pins σ H s) (hi : PI X tg it wi) (bk : BlkOk X.N X.env.scope sc own)
    (hg : ∀ (s : Shared) (H : Hp) (C : Addr) (cl : List (Str × Addr)) (fp : List Addr), PG (X.blk s H sc (compEnvC sc cl C X.env) fp) tg g)
    (hk : ∀ (s : Shared) (H : Hp) (C : Addr) (cl : List (Str × Addr)) (fp : List Addr), PE (X.blk s H sc (compEnvC sc cl C X.env) fp) kx tk)
    (hv : ∀ (s : Shared) (H : Hp) (C : Addr) (cl : List (Str × Addr)) (fp : List Addr), PE (X.blk s H sc (compEnvC sc cl C X.env) fp) vx tv) (plain : ∀ x, foldedSetIterable it X.env x = pure x)
    (h : tDcT wi g tk tv (own.map (·.2)) σ H Q)
    (fin : ∀ d C s' m H', L2.Inv X pins σ H' s' → Q (.ref d) H' → s'.heap.Ns C m → FpOk X pins H' C → compPost (model X.prog X.w) X.A X.xe use Qf (.ref d) C (.ok .next) s') :
    wpAny (model X.prog X.w) X.A (comprehension (.DictComp kx vx [⟨tg, it, [], 0⟩] sc pos) sc X.env pos' newDict false (eval it X.env) use) Qf X.xe s := by
  have cells : ∀ y ∈ sc.names, y.2 = .free → ∃ c, X.env.cells.lookup y.1 = some c := fun y hy e => (bk.free y hy e).elim (fun q => I.ok.has _ (.inl q)) fun q => I.ok.has _ (.inr q)
  refine wpAny_comprehension_free (use := use) rfl plain (closure_ok cells) bk.kind (fun y hy e => by rw [bk.uniq y hy, e]) (thn (hi.run pins s σ H _ I h) fun xv s1 hx => thn hx fun itv s2 ⟨b, fp, tn, J, H2, e, I2, T, st2, f2, q⟩ => ?_)
  subst e
  refine wpAny_newObj_type (newEnv_comp ?_)
  generalize ed : s2.heap.objs.size = d
  have free : H2 d = none := I2.hok.fresh (Nat.le_of_eq ed)
  obtain ⟨W, ⟨m0, w0⟩, turn⟩ := q d free
  generalize e3 : ({ s2 with heap := s2.heap.push { cls := .type "dict", data := .dict #[] } } : Shared) = s3
  have I3 : L2.Inv X pins σ (upd H2 d (.dT [])) s3 := by
    subst e3 ed
    exact I2.laid (t' := s2.toks) (fun b o e => Heap.get?_push_of_some _ e) (Nat.le_refl _) (dt_empty s2.heap I2.big)
  have p3 : s3.heap = s2.heap.push { cls := .type "dict", data := .dict #[] } := by rw [← e3]
  have f3 : ∀ b ∈ fp, FpOk X pins (upd H2 d (.dT [])) b ∧ b < s3.heap.objs.size := fun b hb => by
    obtain ⟨o, eo, _⟩ := T.obj _ _ st2 b hb
    have lt := Heap.lt_size eo
    exact ⟨⟨by rw [upd_ne (by rw [← ed]; exact Nat.ne_of_lt lt)]; exact (f2 b hb).1, (f2 b hb).2⟩, by rw [p3, Heap.size_push]; exact Nat.lt_succ_of_lt lt⟩
  have st3 : tn 0 s3.heap := T.keep _ _ _ st2 fun b _ o e => by rw [p3]; exact Heap.get?_push_of_some _ e
  have I4 := block_start I3 bk nd f3
  have pg := hg s3 (upd H2 d (.dT [])) s3.heap.objs.size (cellsFrom (s3.heap.objs.size + 1) sc.names (cloFrom X.env.cells sc.names [])) fp
  have pk := hk s3 (upd H2 d (.dT [])) s3.heap.objs.size (cellsFrom (s3.heap.objs.size + 1) sc.names (cloFrom X.env.cells sc.names [])) fp
  have pv := hv s3 (upd H2 d (.dT [])) s3.heap.objs.size (cellsFrom (s3.heap.objs.size + 1) sc.names (cloFrom X.env.cells sc.names [])) fp
  show codeAny _ _ (.compStart (.DictComp kx vx [⟨tg, it, [], 0⟩] sc pos) 0 (.ref b) (.ref d) (compEnvC sc (cellsFrom (s3.heap.objs.size + 1) sc.names (cloFrom X.env.cells sc.names [])) s3.heap.objs.size X.env)) (compPost (model X.prog X.w) X.A X.xe use Qf (.ref d) s3.heap.objs.size) { s3 with heap := pushCells (s3.heap.push { cls := .type "dict", data := .dict #[] }) sc.names }
  have nfp : ∀ b ∈ fp, (upd H2 d (.dT [])) b = none := fun b hb => (f3 b hb).1.1
  generalize hce : compEnvC sc (cellsFrom (s3.heap.objs.size + 1) sc.names (cloFrom X.env.cells sc.names [])) s3.heap.objs.size X.env = ce at I4 pg pk pv ⊢
  have cL : ce.locals = s3.heap.objs.size := by subst hce; rfl
  generalize hH3 : upd H2 d (.dT []) = H3 at I3 I4 pg pk pv w0 nfp f3
  generalize hs4 : ({ s3 with heap := pushCells (s3.heap.push { cls := .type "dict", data := .dict #[] }) sc.names } : Shared) = s4 at I4 ⊢
  have st4 : tn 0 s4.heap := T.keep _ _ _ st3 fun b _ o e => by subst hs4; exact pushCells_keeps _ _ _ _ (Heap.get?_push_of_some _ e)
  have stat : ∀ {σ' : L2.St} {H' : Hp} {s' : Shared}, L2.Inv (X.blk s3 H3 sc ce fp) [] σ' H' s' → (∀ b ∈ fp, H' b = none) → ∀ b ∈ fp, FpOk (X.blk s3 H3 sc ce fp) [] H' b := fun {σ' H' s'} I' hn b hb =>
    ⟨hn b hb, (I'.ok.exf b hb).1, I'.ok.exfs b hb, .inl hb, fun x c e => (I'.ok.exf b hb).2 x c e, fun p hp => by cases (show p ∈ ([] : List (Addr × Obj)) from hp)⟩
  have loop : codeAny (model X.prog X.w) X.A (.compLoop (.DictComp kx vx [⟨tg, it, [], 0⟩] sc pos) 0 (.ref b) (.ref d) ce) (compPost (model X.prog X.w) X.A X.xe use Qf (.ref d) s3.heap.objs.size) s4 := by
    refine compLoop_anyD (fun n s' => ∃ i H', L2.Inv (X.blk s3 H3 sc ce fp) [] (wipe σ (own.map (·.2))) H' s' ∧ tn i s'.heap ∧ (∀ b ∈ fp, H' b = none) ∧ W i n H') ?_ m0 ⟨0, H3, I4, st4, nfp, w0⟩
    rintro n s5 ⟨i, H5, I5, st5, n5, w5⟩
    rcases turn i n H5 w5 with ⟨stop, qq⟩ | ⟨go, Nx, hNx, step⟩
    · refine thnF (T.done (X.blk s3 H3 sc ce fp) rfl rfl rfl calm i [] s5 _ H5 (fun _ _ => False) I5 (stat I5 n5) st5 stop) fun r s6 ⟨hr, I6⟩ => ?_
      subst hr
      have I7 : L2.Inv X pins σ H5 s6 := I3.call' (ch := fp) I6.os I6.base I6.hok I6.bare fun b hb => ⟨(f3 b hb).1.2.2.2.1, (f3 b hb).1.2.1, (f3 b hb).1.2.2.2.2.1, (f3 b hb).1.2.2.2.2.2⟩
      have nC : H5 s3.heap.objs.size = none := by rw [← cL]; exact I6.free
      obtain ⟨m, hn, _⟩ := I6.loc
      have hn : s6.heap.Ns ce.locals m := hn
      rw [cL] at hn
      exact fin d s3.heap.objs.size s6 m H5 I7 qq hn (I3.fpOk (Nat.le_refl _) nC)
    · refine thnF (T.item (X.blk s3 H3 sc ce fp) rfl rfl rfl calm i [] s5 _ H5 (fun _ _ => False) I5 (stat I5 n5) st5 go) fun r s6 ⟨u, hr, h6⟩ => ?_
      subst hr
      refine thnF h6 fun _ s7 ⟨x, H7, I7, r7, y7, st7, n7⟩ => ?_
      refine thnF (pg.run _ s7 _ H7 x u _ (I7.pinned (stat I7 n7) (T.obj _ _ st7)) r7 (step x H7 y7)) fun _ s8 ⟨σ8, H8, I8, hw8, q8⟩ => ?_
      have over : ∀ {s' : Shared} {H' : Hp}, L2.Inv (X.blk s3 H3 sc ce fp) ([] ++ pinsAt fp s7.heap) σ8 H' s' → Nx H' → ∃ m, m < n ∧ ∃ i H', L2.Inv (X.blk s3 H3 sc ce fp) [] (wipe σ (own.map (·.2))) H' s' ∧ tn i s'.heap ∧ (∀ b ∈ fp, H' b = none) ∧ W i m H' := fun {s' H'} I' nx => by
        obtain ⟨m', hm, w'⟩ := hNx H' nx
        have stay : ∀ b ∈ fp, ∀ o, s7.heap.get? b = some o → s'.heap.get? b = some o ∧ H' b = none := fun b hb o e =>
          let z := I'.pin (b, o) (List.mem_append_right _ (List.mem_append_right _ (mem_pinsAt hb e)))
          ⟨z.1, z.2.1⟩
        refine ⟨m', hm, i + 1, H', (I'.unpinned (pins := [])).weak (by rw [← hw8, wipe_length]) (fun j v e => ?_), T.keep _ _ _ st7 fun b hb o e => (stay b hb o e).1, fun b hb => ?_, w'⟩
        · rw [← hw8] at e
          exact (wipe_some e).1
        · obtain ⟨o, e, _⟩ := T.obj _ _ st7 b hb
          exact (stay b hb o e).2
      refine thnF ((pts_nil (X := X.blk s3 H3 sc ce fp)).run _ s8 σ8 H8 (fun c H' => c = true ∧ H' = H8) I8 ⟨rfl, rfl⟩) fun c s9 ⟨H9, I9, ec, e9⟩ => ?_
      subst ec e9
      simp only [if_true]
      refine thnF (pk.run _ s9 σ8 H9 _ I9 q8) fun z s10 ⟨yk, H10, I10, r10, q10⟩ => ?_
      refine thnF (pv.run _ s10 σ8 H10 _ I10 q10) fun z2 s11 ⟨yv, H11, I11, r11, kvs, ks, c, ek, hc, hd11, hz11, nx⟩ => ?_
      subst ek
      cases r10
      exact dt_put (X := X.blk s3 H3 sc ce fp) hu I11 hd11 hc hz11 r11 fun s12 I12 => over I12 nx
  exact codeAny_compStart_dict loop (T.self X.A 0 _ _ _ st4 loop)
theorem pe_dcT {kx vx tg it : Expr} {sc : Scope} {own : List (Str × Nat)} {pos : Pos} {wi : TI} {g : TG} {tk tv : TE} (hu : X.A.units < cLine) (calm : X.calm = true) (nd : X.N.Nodup) (hi : PI X tg it wi) (bk : BlkOk X.N X.env.scope sc own)
    (hg : ∀ (s : Shared) (H : Hp) (C : Addr) (cl : List (Str × Addr)) (fp : List Addr), PG (X.blk s H sc (compEnvC sc cl C X.env) fp) tg g)
    (hk : ∀ (s : Shared) (H : Hp) (C : Addr) (cl : List (Str × Addr)) (fp : List Addr), PE (X.blk s H sc (compEnvC sc cl C X.env) fp) kx tk)
    (hv : ∀ (s : Shared) (H : Hp) (C : Addr) (cl : List (Str × Addr)) (fp : List Addr), PE (X.blk s H sc (compEnvC sc cl C X.env) fp) vx tv) (plain : ∀ x, foldedSetIterable it X.env x = pure x := by intro _; rfl) :
    PE X (.DictComp kx vx [⟨tg, it, [], 0⟩] sc pos) (tDcT wi g tk tv (own.map (·.2))) := by
  refine ⟨fun pins s σ H Q I h => ?_⟩
  rw [arm_eval_DictComp]
  refine dcT_run hu calm nd I hi bk hg hk hv plain h fun d C s' m H' I' q hn ⟨f0, f1, f2, f3, f4, f5⟩ => ⟨m, hn, fun h'' sb => ?_⟩
  exact ⟨.ref d, H', I'.turned (t' := s'.toks) (fun b o hb e => (sb.2 b hb).trans e) f0 f1 f3 f4 f5, rfl, q⟩
end
/-! as data -/
def dDcIn (tg : TDG) (tk tv : TD) (vs : List Nat) (sl : SL) (Q : D → Nat → Prop) (xs : List D) (k1 : Nat) : Prop := xs.length ≤ 100000 ∧ ∃ I : Nat → List (List Key × D) → Nat → Prop, I 0 [] k1 ∧
  (∀ j x acc k', xs[j]? = some x → I j acc k' → tg x (wipeS sl vs) fun sl2 => tk sl2 k' fun y k2 => tv sl2 k2 fun z k3 => ∃ ks : List Key, y = .tup (ks.map keyD) ∧ I (j + 1) (putD acc ks z) k3) ∧ ∀ acc k', I xs.length acc k' → Q (.dT acc) k'
def dDc (ti : TDA) (tg : TDG) (tk tv : TD) (vs : List Nat) : TD := fun sl k Q => vs.all (plainS sl) = true ∧ ti sl k (dDcIn tg tk tv vs sl Q)
theorem putD_len {κ : Type} [DecidableEq κ] (kvs : List (κ × D)) (k : κ) (v : D) : (putD kvs k v).length ≤ kvs.length + 1 := by
  unfold putD
  split
  · rw [List.length_map]; omega
  · rw [List.length_append, List.length_singleton]; omega
section
variable {K : PySem.W.Frag} {ti : TDA} {tg : TDG} {tk tv : TD} {vs is : List Nat}
theorem dc_read (mi : ∀ sl k P Q, (∀ d k', P d k' → Q d k') → ti sl k P → ti sl k Q) (mg : ∀ d sl P Q, (∀ sl', P sl' → Q sl') → tg d sl P → tg d sl Q) (mk : ∀ sl k P Q, (∀ d k', P d k' → Q d k') → tk sl k P → tk sl k Q)
    (mv : ∀ sl k P Q, (∀ d k', P d k' → Q d k') → tv sl k P → tv sl k Q) (hs : ∀ i ∈ is, i ∈ vs) {σ : L2.St} {H : Hp} {Q : VK} (h : tDN K .c (dDc ti tg tk tv vs) σ H Q) : tDcT (tDI K ti) (tG K is tg) (tD K .c tk) (tD K .c tv) vs σ H Q := by
  obtain ⟨g, sl, k, E, hpl, h⟩ := h
  refine ⟨g, sl, k, E, mi _ _ _ _ (fun xs k1 ⟨hz, I, i0, turn, fin⟩ J H1 B1 wk D hD => ?_) h⟩
  have E1 := B1.env
  have noPen : ∀ i, i ∈ vs → sl[i]? ≠ some Slot.pen := fun i hi e => by
    have := List.all_eq_true.mp hpl i hi
    unfold plainS at this
    rw [e] at this
    cases this
  have hD0 : g.H0 D = none := E1.le.nn hD
  have nAD : ¬ Av g sl σ D := fun z => E1.avdom z hD
  have eD : EnvOk K (g.pls D) sl k1 σ (upd H1 D (.dT [])) := E1.pls (E1.new hD) hD (LeA.new hD) (by rw [upd_same]; intro z; cases z)
  refine ⟨fun i m H' => ∃ acc k' ws, m = xs.length - i ∧ i ≤ xs.length ∧ I i acc k' ∧ acc.length ≤ i ∧ EnvOk K (g.pls D) (wipeS sl vs) k' (wipe σ vs) H' ∧ H' D = some (.dT ws) ∧ RepT K (Pls (Av g sl σ) D) H' acc ws ∧ LeA (PenB sl σ) H1 H',
    ⟨xs.length, [], k1, [], rfl, Nat.zero_le _, i0, Nat.zero_le _, eD.wipe, upd_same, rfl, LeA.new hD⟩, ?_⟩
  rintro i m H' ⟨acc, k', ws, rfl, hi, hI, hac, Ew, hw, hr, l⟩
  have lS : LeA (Pls (Av g sl σ) D) H1 H' := l.mono fun b z => .inl (.inr z.own)
  obtain ⟨wk1, wk2⟩ := wk (Pls (Av g sl σ) D) (fun b z => z.imp id fun e => by rw [e]; exact hD) H' lS
  by_cases hlt : i < xs.length
  · obtain ⟨go, wy⟩ := wk1 i xs[i] (by simp [hlt])
    refine .inr ⟨go, _, fun H' h => h, fun v H2 y => ?_⟩
    obtain ⟨sm, rv⟩ := wy v H2 y
    have E2 := Ew.grow sm
    have avw : ∀ b, Av (g.pls D) (wipeS sl vs) (wipe σ vs) b → Pls (Av g sl σ) D b := fun b z => z.pls.imp (fun z => z.imp id ownB_wipe) id
    have mx : Mv H2 H2 (Pls (Av g sl σ) D) (Av (g.pls D) (wipeS sl vs) (wipe σ vs)) := Mv.anti fun b z => .inl (avw b z)
    refine ⟨g.pls D, wipeS sl vs, k', xs[i], E2, Rep.mv mx _ mx rv, mg _ _ _ _ (fun sl2 q2 σ2 G2 => ?_) (turn i xs[i] acc k' (by simp [hlt]) hI)⟩
    have ew : wipe σ2 vs = wipe σ vs := wipe_eq (by rw [G2.len, wipe_length]) (fun j hj => (G2.out j hj).2) hs
    have penW : ∀ b, PenB sl2 σ2 b → PenB sl σ b := fun b z => penB_wipe (G2.pen b z)
    have nPD : ¬ PenB sl2 σ2 D := fun z => nAD (.inr (penW D z).own)
    have fin2 : ∀ {k4 H4}, Bh K (g.pls D) sl2 σ2 H2 k4 H4 → EnvOk K (g.pls D) (wipeS sl vs) k4 (wipe σ vs) H4 ∧ H4 D = some (.dT ws) ∧ RepT K (Pls (Av g sl σ) D) H4 acc ws ∧ LeA (PenB sl σ) H1 H4 := fun {k4 H4} B => by
      have lp : LeA (PenB sl σ) H2 H4 := B.le.mono penW
      have toP : ∀ b, PenB sl2 σ2 b → PenB (wipeS sl vs) (wipe σ vs) b := G2.pen
      refine ⟨E2.behind (B.le.mono toP) fun j a e1 e2 => ?_, ?_, ?_, (l.trans (LeA.same sm)).trans lp⟩
      · have nj : j ∉ is := fun z => by
          rcases wipeS_some e1 with y | ⟨_, n⟩
          · cases y
          · exact n (hs j z)
        obtain ⟨o1, o2⟩ := G2.out j nj
        obtain ⟨a', q, r, _⟩ := B.env.pen j (by rw [o1]; exact e1)
        rw [o2, e2] at q; cases q
        obtain ⟨x1, x2, x3, x4, x5, x6, x7, x8⟩ := r
        obtain ⟨_, _, ⟨_, _, _, _, _, _, y7, _⟩, _⟩ := E2.pen j e1
        have m4 : Mv H2 H4 (Av (g.pls D) (wipeS sl vs) (wipe σ vs)) (Av (g.pls D) (wipeS sl vs) (wipe σ vs)) := Mv.le (B.le.mono toP) (fun _ z => .inr z.own) fun _ z => .inl z
        exact ⟨x1, x2, x3, x4, x5, x6, m4.lsA y7, x8⟩
      · exact (B.le D _ (sm _ _ hw)).elim id fun z => absurd z.1 nPD
      · exact RepT.mv (Mv.le lp (fun b z => .inl (.inr z.own)) fun _ z => .inl z) _ (RepT.mv (Mv.le (P := fun _ => False) (LeA.same sm) (fun _ z => z.elim) fun _ z => .inl z) _ hr)
    refine ⟨ew, g.pls D, sl2, k', G2.env, mk _ _ _ _ (fun y k2 q3 vy H3 B3 ry => ?_) q2⟩
    refine ⟨g.pls D, sl2, k2, B3.env, mv _ _ _ _ (fun z k3 ⟨ks, ey, q4⟩ vz H4 B4 rz => ?_) q3⟩
    subst ey
    obtain ⟨c, us, rfl, tp, rr⟩ := (ry.le B4.le : Is K (g.pls D) sl2 σ2 H4 .c (.tup (ks.map keyD)) vy)
    obtain ⟨x1, x2, x3, x4⟩ := fin2 (B3.trans B4)
    have hlen : ws.length = acc.length := (RepT.length x3).symm
    refine ⟨ws, ks, c, rfl, by rw [← keyL_rep rr]; exact tp, x2, by rw [hlen]; exact Nat.lt_of_le_of_lt hac (Nat.lt_of_lt_of_le hlt (Nat.le_trans hz (by decide))), xs.length - (i + 1), by omega, putD acc ks z, k3, putK ws ks vz, rfl, by omega, q4, Nat.le_trans (putD_len _ _ _) (Nat.succ_le_succ hac), ?_, upd_same, ?_, LeA.put0 hD x4⟩
    · exact x1.putA (.inr rfl) (fun z => nAD (.inr (ownB_wipe z))) hD0 x2 trivial
    · have hz2 : Rep K (Pls (Av g sl σ) D) H4 z (Pls (Av g sl σ) D) vz := by
        refine Rep.mv (Mv.anti fun b z => .inl ?_) z (Mv.anti fun b z => .inl ?_) rz
        all_goals
          rcases z with (z | z) | z
          · exact .inl (.inl z)
          · refine .inr ?_
            obtain ⟨j, s, e1, e2, e3⟩ := z
            have nj : j ∉ vs := fun hj => by
              have := List.all_eq_true.mp hpl j hj
              unfold plainS at this
              rw [e1] at this
              cases s <;> first | exact e2 | cases this
            have nj' : j ∉ is := fun hj => nj (hs j hj)
            obtain ⟨o1, o2⟩ := G2.out j nj'
            exact ⟨j, s, by rw [o1, wipeS_out nj]; exact e1, e2, by rw [o2, wipe_out nj]; exact e3⟩
          · exact .inl (.inr z)
      have m5 : Mv H4 (upd H4 D (.dT (putK ws ks vz))) (Pls (Av g sl σ) D) (Pls (Av g sl σ) D) := fun b z e n => by
        have ne : b ≠ D := fun q => by
          subst q
          rw [x2] at e; cases e
          exact n trivial (.inr rfl)
        exact ⟨⟨z, by rw [upd_ne ne]; exact e, rfl⟩, n⟩
      exact RepT.put (Rep.mv m5 _ m5 hz2) (RepT.mv m5 _ x3)
  · have e : i = xs.length := by omega
    subst e
    refine .inl ⟨wk2, fin acc k' hI _ _ (B1.trans ⟨E1.behind l fun j a e1 e2 => ?_, l⟩) ⟨D, ws, rfl, B1.le.nn hD, hw, hr⟩⟩
    have nj : j ∉ vs := fun z => noPen j z e1
    obtain ⟨a', q, ⟨x1, x2, x3, x4, x5, x6, x7, x8⟩, _⟩ := Ew.pen j (by rw [wipeS_out nj]; exact e1)
    rw [wipe_out nj, e2] at q; cases q
    obtain ⟨_, _, ⟨_, _, _, _, _, _, y7, _⟩, _⟩ := E1.pen j e1
    have m4 : Mv H1 H' (Av g sl σ) (Av g sl σ) := Mv.le l (fun _ z => .inr z.own) fun _ z => .inl z
    exact ⟨x1, x2, x3, x4, x5, x6, m4.lsA y7, x8⟩
end
structure DcOk (X : Cx) (kx vx tg iter : Expr) (scope : Scope) (own : List (Str × Nat)) (is : List Nat) (ti : TDA) (tgd : TDG) (tk tv : TD) : Prop where
  ok : BlkOk X.N X.env.scope scope own
  hi : DI X tg iter ti
  hg : ∀ (s : Shared) (H : Hp) (C : Addr) (cl : List (Str × Addr)) (fp : List Addr), DG (X.blk s H scope (compEnvC scope cl C X.env) fp) tg is tgd
  hk : ∀ (s : Shared) (H : Hp) (C : Addr) (cl : List (Str × Addr)) (fp : List Addr), DE (X.blk s H scope (compEnvC scope cl C X.env) fp) .c kx tk
  hv : ∀ (s : Shared) (H : Hp) (C : Addr) (cl : List (Str × Addr)) (fp : List Addr), DE (X.blk s H scope (compEnvC scope cl C X.env) fp) .c vx tv
  sub : ∀ i ∈ is, i ∈ own.map (·.2)
theorem dn_dcT {X : Cx} {kx vx tg iter : Expr} {scope : Scope} {own : List (Str × Nat)} {pos : Pos} {is : List Nat} {ti : TDA} {tgd : TDG} {tk tv : TD} (hu : X.A.units < cLine) (hc : X.calm = true) (hN : X.N.Nodup) (L : DcOk X kx vx tg iter scope own is ti tgd tk tv) (ne : Shared) (hs : ∀ x, foldedSetIterable iter X.env x = pure x := by intro _; rfl) :
    DN X .c (.DictComp kx vx [⟨tg, iter, [], 0⟩] scope pos) (dDc ti tgd tk tv (own.map (·.2))) := by
  have mg := (L.hg ne (fun _ => none) 0 [] []).mono
  have mk := (L.hk ne (fun _ => none) 0 [] []).mono
  have mv := (L.hv ne (fun _ => none) 0 [] []).mono
  exact ⟨PE.weak (pe_dcT hu hc hN L.hi.pi L.ok (fun s H C cl fp => (L.hg s H C cl fp).pg) (fun s H C cl fp => (L.hk s H C cl fp).pe) (fun s H C cl fp => (L.hv s H C cl fp).pe) hs) fun σ H Q h => dc_read L.hi.mono mg mk mv L.sub h,
    fun sl k P Q h ⟨hp, q⟩ => ⟨hp, L.hi.mono _ _ _ _ (fun xs k1 ⟨hz, I, a, b, c⟩ => ⟨hz, I, a, b, fun acc k' z => h _ _ (c acc k' z)⟩) q⟩⟩
end DL

/-! data layer, part n: fields and isinstance within comprehensions (the fragment named) -/
namespace DL
open PySem PySem.Spec PyProof.Rows L2
section
variable {X : Cx} {fl : Fl} {e : Expr} {t : TD} {y : Str} {pos : Pos} {K : PySem.W.Frag}
theorem de_fldK (hK : X.K = K) (h : DE X fl e t) (hb : attributeBase e y X.env (eval e X.env) = eval e X.env := by rfl) : DE X fl.dn (.Attribute e y pos) (dFld K y t) := by
  subst hK; exact de_fld h hb
theorem cg_isiK (hK : X.K = K) : CallG X (.builtin "isinstance") (rIsiD K) := by
  subst hK; exact cg_isi
end
end DL

namespace DL
open PySem PySem.Spec PyProof.Rows L2
/-! ### sum and min of a tuple of ints -/
section
variable {prog : Program} {w : World} {A : Around} {E : Value → Shared → Prop} {s : Shared} {l : Addr} {its : List Value} {ns : List Int} {Q : Value → Shared → Prop}
theorem sum_rawT (hh : A.handled = none) (hl : s.heap.IsTuple l its.toArray) (hi : IntsAre its ns)
    (h : ∀ h' tk t', (∀ b o, s.heap.get? b = some o → h'.get? b = some o) → Q (.int ns.sum t') { s with heap := h', toks := tk }) : wpAny (model prog w) A (call (.builtin "sum") [.ref l]) Q E s := by
  obtain ⟨xs, e⟩ := hi.allInts.items
  have hn : numsOf (intItems xs).toList = ns := by rw [← e]; exact hi.numsOf
  rw [nums_intItems] at hn
  rw [e] at hl
  refine PySem.W.ktm_sumG hh hl fun h' tk t' hk => ?_
  have := h h' tk t' hk
  rw [preSum_eq, List.take_of_length_le (by simp), hn]; exact this
theorem min_rawT (hh : A.handled = none) (hl : s.heap.IsTuple l its.toArray) (hi : IntsAre its ns) (hne : 0 < ns.length)
    (h : ∀ h' tk M t', (∀ b o, s.heap.get? b = some o → h'.get? b = some o) → M ∈ ns → (∀ a, a ∈ ns → M ≤ a) → Q (.int M t') { s with heap := h', toks := tk }) : wpAny (model prog w) A (call (.builtin "min") [.ref l]) Q E s := by
  obtain ⟨xs, e⟩ := hi.allInts.items
  have hn : numsOf (intItems xs).toList = ns := by rw [← e]; exact hi.numsOf
  rw [nums_intItems] at hn
  subst hn
  rw [e] at hl
  have hsz : 0 < xs.size := by simpa using hne
  obtain ⟨o, ho, _⟩ := id hl
  have hne' : l ≠ s.heap.objs.size := Nat.ne_of_lt (Heap.lt_size ho)
  refine call_min_walk (wpAny_pyIter_tuple hl ?_)
  refine ⟨_, [_, l], [_], _, _, _, _, rfl, Walks.tuple (A := A.in1) hh _ l hne' (intItems xs), ⟨⟨_, Heap.get?_push_size _ rfl, rfl, rfl⟩, hl.push _⟩, fun c hc => ?_, by simpa [intItems] using hsz, CmpOf.ints_lt (numAt xs) (fun _ _ => intItems_at), fun v h' tk hP hk => ?_⟩
  · show c < (s.heap.push _).objs.size
    rw [Heap.size_push]
    rcases List.mem_cons.mp hc with rfl | hc
    · exact Nat.lt_succ_self _
    · obtain rfl := List.mem_singleton.mp hc
      exact Nat.lt_succ_of_lt (Heap.lt_size ho)
  · have hold : ∀ c o, s.heap.get? c = some o → h'.get? c = some o := fun c o e => by
      refine hk c o (fun hm => ?_) (Heap.get?_push_of_some _ e)
      obtain rfl := List.mem_singleton.mp hm
      exact Nat.lt_irrefl _ (Heap.lt_size e)
    have hv : (intItems xs)[argBest (fun i j => decide (numAt xs i < numAt xs j)) (xs.size - 1)]? = some v := by simpa [intItems] using hP
    obtain ⟨t, rfl⟩ := intItems_at hv
    obtain ⟨h1, h2⟩ := argBest_lt (numAt xs) (xs.size - 1)
    refine h h' tk _ t hold ?_ fun a ha => ?_
    · rw [numAt_eq]; exact PySem.getD_mem (by rw [List.length_map, Array.length_toList]; omega)
    · obtain ⟨j, hj, rfl⟩ := mem_getD ha
      rw [List.length_map, Array.length_toList] at hj
      rw [← numAt_eq]; exact h2 j (by omega)
end
section
variable {X : Cx}
theorem cr_sumT (hc : X.calm = true) : CallR X (.builtin "sum") (fun vs H Q => ∃ (a : Addr) (ns : List Int), vs = [V.ref a] ∧ SqT X.K H a (ns.map V.int) ∧ Q (.int ns.sum) H) := by
  intro pins s σ H vs us Q I r h
  obtain ⟨a, ns, rfl, hs, q⟩ := h
  obtain ⟨its, rv, hl, _⟩ := I.tuple hs
  rw [Vals.ref1 r]
  exact sum_rawT (I.ok.hd hc) hl rv.ints fun h' tk t' hk => ⟨.int _, H, I.kept hk, ⟨_, rfl⟩, q⟩
theorem cr_minT (hc : X.calm = true) : CallR X (.builtin "min") (fun vs H Q => ∃ (a : Addr) (ns : List Int), vs = [V.ref a] ∧ SqT X.K H a (ns.map V.int) ∧ 0 < ns.length ∧ ∀ m, m ∈ ns → (∀ y, y ∈ ns → m ≤ y) → Q (.int m) H) := by
  intro pins s σ H vs us Q I r h
  obtain ⟨a, ns, rfl, hs, hne, q⟩ := h
  obtain ⟨its, rv, hl, _⟩ := I.tuple hs
  rw [Vals.ref1 r]
  exact min_rawT (I.ok.hd hc) hl rv.ints hne fun h' tk m t' hk h1 h2 => ⟨.int _, H, I.kept hk, ⟨_, rfl⟩, q m h1 h2⟩
def rSumT : RDA := fun ds Q => ∃ ns : List Int, ds = [.tup (ns.map D.int)] ∧ Q (.int ns.sum)
def rMinT : RDA := fun ds Q => ∃ ns : List Int, ds = [.tup (ns.map D.int)] ∧ 0 < ns.length ∧ ∀ m, m ∈ ns → (∀ y, y ∈ ns → m ≤ y) → Q (.int m)
theorem cg_sumT (hc : X.calm = true := by rfl) : CallG X (.builtin "sum") rSumT := by
  refine ⟨⟨_, cr_sumT hc, fun S T H ds vs P Q r q k => ?_⟩, fun ds P Q h ⟨i, e, q⟩ => ⟨i, e, h _ q⟩⟩
  obtain ⟨ns, rfl, q⟩ := q
  obtain ⟨v, rfl, r1⟩ := un1 r
  obtain ⟨a, vs, rfl, s, rl⟩ := r1
  rw [RepL.ints rl] at s
  exact ⟨a, ns, rfl, s.sq, k _ _ _ q (fun _ _ h => h) (NewRep.sc rfl)⟩
theorem cg_minT (hc : X.calm = true := by rfl) : CallG X (.builtin "min") rMinT := by
  refine ⟨⟨_, cr_minT hc, fun S T H ds vs P Q r q k => ?_⟩, fun ds P Q h ⟨i, e, z, q⟩ => ⟨i, e, z, fun m h1 h2 => h _ (q m h1 h2)⟩⟩
  obtain ⟨ns, rfl, z, q⟩ := q
  obtain ⟨v, rfl, r1⟩ := un1 r
  obtain ⟨a, vs, rfl, s, rl⟩ := r1
  rw [RepL.ints rl] at s
  exact ⟨a, ns, rfl, s.sq, z, fun m h1 h2 => k _ _ _ (q m h1 h2) (fun _ _ h => h) (NewRep.sc rfl)⟩
end
end DL

/-! data layer, part A: statements beside a region of the heap that is changed, xs.pop() -/
namespace DL
open PySem PySem.Spec PyProof.Rows L2
structure EndsR (ρ : Type) where
  nx : SL → Nat → ρ → Prop
  rt : D → SL → Nat → ρ → Prop
  bk : SL → Nat → ρ → Prop := fun _ _ _ => False
  ct : SL → Nat → ρ → Prop := fun _ _ _ => False
abbrev TSR (ρ : Type) := EndsR ρ → SL → Nat → ρ → Prop
/-- R r hangs on places of g.A alone; no pen -/
structure RegOk {ρ : Type} (g : G) (R : ρ → Hp → Prop) : Prop where
  st : ∀ r H H' (P : AS), LeA P H H' → (∀ b, P b → ¬ g.A b) → R r H → R r H'
  np : ∀ r H, R r H → ∃ C dx fs, H g.pa = some (.ins C dx fs)
structure LkR {ρ : Type} (K : PySem.W.Frag) (g : G) (R : ρ → Hp → Prop) (En : Ends) (E : EndsR ρ) : Prop where
  nx : ∀ sl k r σ H, EnvOk K g sl k σ H → R r H → E.nx sl k r → En.nx σ H
  rt : ∀ d v sl k r σ H, EnvOk K g sl k σ H → R r H → Rep K g.A H d g.A v → E.rt d sl k r → En.rt v H
  bk : ∀ sl k r σ H, EnvOk K g sl k σ H → R r H → E.bk sl k r → En.bk σ H
  ct : ∀ sl k r σ H, EnvOk K g sl k σ H → R r H → E.ct sl k r → En.ct σ H
def tSR {ρ : Type} (K : PySem.W.Frag) (g : G) (R : ρ → Hp → Prop) (t : TSR ρ) : TS := fun En σ H => ∃ sl k r E, EnvOk K g sl k σ H ∧ R r H ∧ LkR K g R En E ∧ t E sl k r
section
variable {ρ : Type} {K : PySem.W.Frag} {g : G} {sl sl' : SL} {k k' : Nat} {σ σ' : L2.St} {H H' : Hp} {R : ρ → Hp → Prop} {r : ρ}
theorem no_pen (ok : RegOk g R) (E : EnvOk K g sl k σ H) (hr : R r H) {i : Nat} : sl[i]? ≠ some Slot.pen := fun e => by
  obtain ⟨a, ea, ⟨_, _, q, _⟩, _⟩ := E.pen i e
  have := E.pa i a e ea
  subst this
  obtain ⟨C, dx, fs, z⟩ := ok.np r H hr
  rw [z] at q; cases q
theorem own_off (ok : RegOk g R) (E : EnvOk K g sl k σ H) (hr : R r H) {b : Addr} (z : OwnB sl σ b) : ¬ g.A b := by
  obtain ⟨i, s, h1, h2, h3⟩ := z
  cases s with
  | own x =>
    obtain ⟨a, ea, _, n, _⟩ := E.own i x h1
    rw [h3] at ea; cases ea
    exact n
  | pen => exact absurd h1 (no_pen ok E hr)
  | un => exact h2.elim
  | d x => exact h2.elim
theorem reg_stmt (ok : RegOk g R) (E : EnvOk K g sl k σ H) (hr : R r H) (E' : EnvOk K (g.at sl σ H) sl' k' σ' H') : R r H' := ok.st r H H' (OwnB sl σ) E'.le (fun b z => own_off ok E hr z) hr
theorem reg_bh (ok : RegOk g R) (E : EnvOk K g sl k σ H) (hr : R r H) (B : Bh K g sl σ H k' H') : R r H' := ok.st r H H' (PenB sl σ) B.le (fun b ⟨i, z, _⟩ => absurd z (no_pen ok E hr)) hr
end
section
variable {ρ : Type} {X : Cx} {g : G} {R : ρ → Hp → Prop} {st : Stmt} {rest body orelse : List Stmt} {c e : Expr} {t : TSd} {tr ur : TSR ρ} {tc : TDT} {te : TD} {pos p py apos cpos : Pos} {x y : Str} {i j : Nat}
def rLift (t : TSd) : TSR ρ := fun E sl k r => t { nx := fun sl k => E.nx sl k r, rt := fun d sl k => E.rt d sl k r, bk := fun sl k => E.bk sl k r, ct := fun sl k => E.ct sl k r } sl k
theorem dsr (ok : RegOk g R) (h : DS X st t) : PS X st (tSR X.K g R (rLift t)) :=
  PS.weak h.ps fun En σ H ⟨sl, k, r, E, en, hr, lk, q⟩ => ⟨g.at sl σ H, sl, k, _, en.rebase, ⟨fun sl' k' σ' H' e q => lk.nx _ _ r _ _ (en.unbase e) (reg_stmt ok en hr e) q, fun d v sl' k' σ' H' e rp q => lk.rt d v _ _ r _ _ (en.unbase e) (reg_stmt ok en hr e) rp q,
    fun sl' k' σ' H' e q => lk.bk _ _ r _ _ (en.unbase e) (reg_stmt ok en hr e) q, fun sl' k' σ' H' e q => lk.ct _ _ r _ _ (en.unbase e) (reg_stmt ok en hr e) q⟩, q⟩
def rSeq (t u : TSR ρ) : TSR ρ := fun E sl k r => t { E with nx := u E } sl k r
def rNil : TSR ρ := fun E sl k r => E.nx sl k r
theorem dssr_nil : PSs X [] (tSR X.K g R rNil) := PSs.weak pss_nil fun En σ H ⟨sl, k, r, E, en, hr, lk, q⟩ => lk.nx _ _ _ _ _ en hr q
theorem dssr_cons (h1 : PS X st (tSR X.K g R tr)) (h2 : PSs X rest (tSR X.K g R ur)) : PSs X (st :: rest) (tSR X.K g R (rSeq tr ur)) :=
  PSs.weak (pss_cons h1 h2) fun En σ H ⟨sl, k, r, E, en, hr, lk, q⟩ => ⟨sl, k, r, { E with nx := ur E }, en, hr, ⟨fun sl' k' r' σ' H' e hr' q => ⟨sl', k', r', E, e, hr', lk, q⟩, lk.rt, lk.bk, lk.ct⟩, q⟩
theorem dssr_one (h1 : PS X st (tSR X.K g R tr)) : PSs X [st] (tSR X.K g R tr) := pss_one h1
def rFrz (i : Nat) (t : TSR ρ) : TSR ρ := fun E sl k r => ∃ x, sl[i]? = some (Slot.own x) ∧ t E (sl.set i (.d x)) k r
theorem dssr_frz (i : Nat) (h : PSs X rest (tSR X.K g R tr)) : PSs X rest (tSR X.K g R (rFrz i tr)) := PSs.weak h fun En σ H ⟨sl, k, r, E, en, hr, lk, x, hx, q⟩ => ⟨_, k, r, E, en.freeze hx, hr, lk, q⟩
def rIf (c : TDT) (t u : TSR ρ) : TSR ρ := fun E sl k r => c sl k fun b k' => if b = true then t E sl k' r else u E sl k' r
theorem dsr_if (ok : RegOk g R) (hc : DT X c tc) (h1 : PSs X body (tSR X.K g R tr)) (h2 : PSs X orelse (tSR X.K g R ur)) : PS X (.If c body orelse pos) (tSR X.K g R (rIf tc tr ur)) := by
  refine PS.weak (ps_if hc.pt h1 h2) fun En σ H ⟨sl, k, r, E, en, hr, lk, q⟩ => ⟨g, sl, k, en, hc.mono _ _ _ _ (fun b k' q H' B => ?_) q⟩
  have hr' := reg_bh ok en hr B
  cases b with
  | true => exact ⟨sl, k', r, E, B.env, hr', lk, q⟩
  | false => exact ⟨sl, k', r, E, B.env, hr', lk, q⟩
def rWhile (c : TDT) (tb : TSR ρ) : TSR ρ := fun E sl k r => ∃ W : Nat → SL → Nat → ρ → Prop, (∃ m, W m sl k r) ∧ ∀ m sl' k' r', W m sl' k' r' → c sl' k' fun b k2 => if b = true then tb { E with nx := fun s q z => ∃ m', m' < m ∧ W m' s q z, ct := fun s q z => ∃ m', m' < m ∧ W m' s q z, bk := E.nx } sl' k2 r' else E.nx sl' k2 r'
theorem dsr_while (ok : RegOk g R) (hp : PassesOwn (model X.prog X.w) X.A X.env X.xe) (hc : DT X c tc) (hb : PSs X body (tSR X.K g R tr)) : PS X (.While c body [] pos) (tSR X.K g R (rWhile tc tr)) := by
  refine PS.weak (ps_while hp hc.pt hb) fun En σ H ⟨sl, k, r, E, en, hr, lk, W, ⟨m0, w0⟩, turn⟩ => ?_
  refine ⟨fun m σ' H' => ∃ sl' k' r', EnvOk X.K g sl' k' σ' H' ∧ R r' H' ∧ W m sl' k' r', ⟨m0, sl, k, r, en, hr, w0⟩, ?_⟩
  rintro m σ' H' ⟨sl', k', r', en', hr', w⟩
  refine ⟨g, sl', k', en', hc.mono _ _ _ _ (fun b k2 q H1 B => ?_) (turn m sl' k' r' w)⟩
  have hr1 := reg_bh ok en' hr' B
  cases b with
  | true =>
    refine ⟨fun σ2 H2 => ∃ m', m' < m ∧ ∃ sl2 k2 r2, EnvOk X.K g sl2 k2 σ2 H2 ∧ R r2 H2 ∧ W m' sl2 k2 r2, fun _ _ z => z, ?_⟩
    exact ⟨sl', k2, r', { E with nx := fun s q z => ∃ m', m' < m ∧ W m' s q z, ct := fun s q z => ∃ m', m' < m ∧ W m' s q z, bk := E.nx }, B.env, hr1, ⟨fun s q z σ2 H2 en2 hr2 ⟨m', l, w'⟩ => ⟨m', l, s, q, z, en2, hr2, w'⟩, lk.rt, lk.nx, fun s q z σ2 H2 en2 hr2 ⟨m', l, w'⟩ => ⟨m', l, s, q, z, en2, hr2, w'⟩⟩, q⟩
  | false => exact lk.nx _ _ _ _ _ B.env hr1 q
/-! xs.pop(), what comes back not kept -/
def dPopE (i : Nat) : TSd := fun E sl k => ∃ xs d, sl[i]? = some (Slot.own (.lst (xs ++ [d]))) ∧ E.nx (sl.set i (.own (.lst xs))) k
theorem ds_popE (hv : PE X (.Name x py) (tVar i)) (hs : swapsWith (.Call (.Attribute (.Name x py) "pop" apos) [] [] cpos) none pos.line X.env = pure false := by rfl)
    (hbase : attributeBase (.Name x py) "pop" X.env (eval (.Name x py) X.env) = eval (.Name x py) X.env := by rfl) (hline : (apos.endLine == cpos.line) = true := by rfl) :
    DS X (.Expr (.Call (.Attribute (.Name x py) "pop" apos) [] [] cpos) pos) (dPopE i) := by
  refine ⟨PS.weak (L2.ps_expr (pe_bm0 PySem.F.plainAttrs_list PySem.F.slot_list_pop PySem.F.type_list_pop mt_pop hv hbase hline) hs) fun En σ H ⟨g, sl, k, E, en, lk, xs, d, hi, q⟩ => ?_,
    fun E E' sl k l ⟨xs, d, hi, q⟩ => ⟨xs, d, hi, l.nx _ _ q⟩⟩
  obtain ⟨c, ea, o, _⟩ := en.own i _ hi
  obtain ⟨vs, ha, r⟩ := o.lst
  obtain ⟨ws, v, e, r1, r2⟩ := RepL.split r
  subst e
  have oa : OwnB sl σ c := ⟨i, _, hi, trivial, ea⟩
  have m := rep_put (K := X.K) (g := g) (u' := .lst ws) oa ha trivial
  have E1 := en.put (u' := .lst ws) (x' := .lst xs) hi ea ha trivial trivial trivial ⟨_, upd_same, RepL.mv m _ r1⟩
  refine ⟨.ref c, ea, .inl ⟨rfl, _, .inl (.inl ha)⟩, c, ws ++ [v], v, rfl, rfl, ha, ?_, ?_⟩
  · rw [List.length_append, List.length_singleton, Nat.add_sub_cancel]
    simp
  · rw [List.dropLast_concat]
    exact lk.nx _ _ _ _ E1 q
/-- a def's start, beside a region B -/
theorem start_envR {K : PySem.W.Frag} {A B : AS} {H : Hp} {N : List Str} {ds : List D} {vs : List V} {pa : Addr} (hA : ∀ b, A b → H b ≠ none) (hB : ∀ b, B b → H b ≠ none) (r : RepL K A H ds vs) : EnvOk K ⟨A, B, H, 0, [], pa⟩ (startS N ds) 0 (start N vs) H := by
  have no : ∀ b, OwnB (startS N ds) (start N vs) b → False := fun b ⟨i, s, h1, h2, _⟩ => by
    rcases startS_d h1 with e | ⟨x, _, e⟩ <;> (subst e; exact h2)
  have m : Mv H H A (Av ⟨A, B, H, 0, [], pa⟩ (startS N ds) (start N vs)) := Mv.anti fun b z => .inl (z.elim id fun z => (no b z).elim)
  refine ⟨by rw [start_len]; unfold startS; rw [List.length_append, List.length_map, List.length_replicate, r.length], fun i x e => ?_, fun i x e => ?_, fun i e => ?_, fun i j s t a e1 _ o1 => ?_, LeA.refl H, hA, hB, fun i a e q => ?_⟩
  · rcases startS_d e with e | ⟨y, e1, e2⟩
    · cases e
    · cases e2
      obtain ⟨v, hv, rv⟩ := r.get e1
      exact ⟨v, start_get hv, Rep.mv m x m rv⟩
  · rcases startS_d e with e | ⟨y, e1, e2⟩ <;> cases ‹_›
  · rcases startS_d e with e | ⟨y, e1, e2⟩ <;> cases ‹_›
  · rcases startS_d e1 with e | ⟨y, _, e⟩ <;> (subst e; exact o1.elim)
  · rcases startS_d ‹_› with e | ⟨y, _, e⟩ <;> cases e
/-- the region is changed -/
theorem EnvOk.reg {K : PySem.W.Frag} {g : G} {sl : SL} {k : Nat} {σ : L2.St} {H H' : Hp} (E : EnvOk K g sl k σ H) (hMA : ∀ b, g.M b → g.A b) (hno : ∀ b, OwnB sl σ b → ¬ g.A b) (l : LeA g.M H H') : EnvOk K g sl k σ H' := by
  have m : Mv H H' (Av g sl σ) (Av g sl σ) := Mv.le l (fun b z => .inl (hMA b z)) fun b z => .inl z
  have keep : ∀ a, OwnB sl σ a → ∀ o, H a = some o → H' a = some o := fun a oa o h => (l a o h).elim id fun z => absurd (hMA a z.1) (hno a oa)
  refine E.move m (fun i x a e q => keep a ⟨i, _, e, trivial, q⟩) (fun i a e q r => r.mv m (keep a ⟨i, _, e, trivial, q⟩)) (fun _ _ z => z) (fun _ _ z => z) (fun _ _ z => z) (E.le.trans l) (fun b z => l.ne (E.dom b z)) E.md
end
end DL

/-! data layer, part B: x, ys[ix] = e1, e2; what any data are; promises made weaker -/
namespace DL
open PySem PySem.Spec PyProof.Rows L2
section
variable {X : Cx} {fl : Fl} {a b ix : Expr} {ta tb tk : TD} {pos p py pt spos : Pos} {x y : Str} {i j : Nat}
def dNS (i j : Nat) (tix ta tb : TD) : TSd := fun E sl k => ta sl k fun d1 k1 => tb sl k1 fun d2 k2 => ∃ xs, (sl.set i (.d d1))[j]? = some (Slot.own (.lst xs)) ∧ tix (sl.set i (.d d1)) k2 fun n k3 => ∃ m jj, n = .int m ∧ ixN xs.length m = some jj ∧ E.nx ((sl.set i (.d d1)).set j (.own (.lst (xs.set jj d2)))) k3
theorem gsub_core {g : G} {sl : SL} {k : Nat} {σ : L2.St} {H : Hp} {d : D} {v : V} {D' : Ends} {E : EndsD} (h2 : DE X fl ix tk) (en : EnvOk X.K g sl k σ H) (lk : Lk X.K g D' E) (r : Is X.K g sl σ H .c d v)
    (q : ∃ xs, sl[j]? = some (Slot.own (.lst xs)) ∧ tk sl k fun n k2 => ∃ m jj, n = .int m ∧ ixN xs.length m = some jj ∧ E.nx (sl.set j (.own (.lst (xs.set jj d)))) k2) : gSub (tVar j) (tD X.K fl tk) rSetL v σ H D'.nx := by
  obtain ⟨xs, hi, q⟩ := q
  obtain ⟨a, ea, o, _⟩ := en.own j _ hi
  refine ⟨.ref a, ea, g, sl, k, en, h2.mono _ _ _ _ (fun n k2 ⟨m, jj, e, hj, q⟩ w H2 B2 r2 => ?_) q⟩
  subst e
  have e2 : w = .int m := r2
  subst e2
  obtain ⟨a', ea', o', _⟩ := B2.env.own j _ hi
  rw [ea] at ea'; cases ea'
  obtain ⟨vs', ha', r'⟩ := o'.lst
  have oa : OwnB sl σ a := ⟨j, _, hi, trivial, ea⟩
  have mm := rep_put (K := X.K) (g := g) (u' := .lst (vs'.set jj v)) oa ha' trivial
  exact ⟨a, vs', m, jj, rfl, rfl, ha', by rw [← r'.length]; exact hj, lk.nx _ _ _ _ (B2.env.put (x' := .lst (xs.set jj d)) hi ea ha' trivial trivial trivial ⟨_, upd_same, RepL.set (Rep.mv mm d mm (r.le B2.le)) jj (RepL.mv mm _ r')⟩) q⟩
theorem ds_parNS {kt k2 pt2} (hc : X.calm = true) (hN : X.N.Nodup) (hi : X.N[i]? = some x) (hx : Loc X.env.scope x) (ha : DE X .c a ta) (hb : DE X .c b tb) (hv : PE X (.Name y py) (tVar j)) (h2 : DE X fl ix tk)
    (hf : X.fn x = true ∨ X.env.scope.names.lookup x = some .local := by first | exact .inl rfl | exact .inr rfl | assumption)
    (has : ∀ v, assign (.Subscript (.Name y py) ix spos) X.env v = (do
      let ov ← holding [v] (eval (.Name y py) X.env)
      let iv ← holding [v, ov] (eval ix X.env)
      standAt spos
      holding [v, ov, iv] (setItem ov iv v)
      release [v, ov, iv] []) := by intro _; rfl)
    (hn : (assignEach [.Name x p, .Subscript (.Name y py) ix spos] X.env).length = 2 := by rfl) (hst : (assignEach [.Name x p, .Subscript (.Name y py) ix spos] X.env).findIdx? (·.1) = none := by rfl)
    (he1 : (assignEach [.Name x p, .Subscript (.Name y py) ix spos] X.env).map (·.2) = assign (.Name x p) X.env :: (assignEach [.Subscript (.Name y py) ix spos] X.env).map (·.2) := by rfl)
    (he2 : (assignEach [.Subscript (.Name y py) ix spos] X.env).map (·.2) = assign (.Subscript (.Name y py) ix spos) X.env :: (assignEach [] X.env).map (·.2) := by rfl)
    (hs : swapsWithSole [.Tuple [.Name x p, .Subscript (.Name y py) ix spos] kt pt] (.Tuple [a, b] k2 pt2) pos.line X.env = pure false := by rfl) (hw : swappedStores [.Tuple [.Name x p, .Subscript (.Name y py) ix spos] kt pt] (.Tuple [a, b] k2 pt2) X.env = pure none := by rfl)
    (h1 : (assignEach [.Tuple [.Name x p, .Subscript (.Name y py) ix spos] kt pt] X.env).map (·.2) = [assign (.Tuple [.Name x p, .Subscript (.Name y py) ix spos] kt pt) X.env] := by rfl)
    (hsa : starEach [a, b] X.env = (false, eval a X.env) :: starEach [b] X.env := by rfl) (hsb : starEach [b] X.env = (false, eval b X.env) :: starEach [] X.env := by rfl) :
    DS X (.Assign [.Tuple [.Name x p, .Subscript (.Name y py) ix spos] kt pt] (.Tuple [a, b] k2 pt2) pos) (dNS i j tk ta tb) := by
  refine ⟨PS.weak (ps_asg (pe_tup (pa_cons ha.pe (pa_cons hb.pe pa_nil hsb) hsa)) (pg_tup hc (pgs_cons (pg_name hN hi hx hf) (pgs_cons (pg_sub hv h2.pe set_list has) pgs_nil he2) he1) hn hst) hs hw h1) fun D' σ H ⟨g, sl, k, E, en, lk, q⟩ => ?_,
    fun E E' sl k l q => ha.mono _ _ _ _ (fun d1 k1 => hb.mono _ _ _ _ fun d2 k2 ⟨xs, hi, q⟩ => ⟨xs, hi, h2.mono _ _ _ _ (fun n k3 ⟨m, jj, a, b, q⟩ => ⟨m, jj, a, b, l.nx _ _ q⟩) q⟩) q⟩
  refine ⟨g, sl, k, en, ha.mono _ _ _ _ (fun d1 k1 q v1 H1 B1 r1 => ⟨g, sl, k1, B1.env, hb.mono _ _ _ _ (fun d2 k2 q v2 H2 B2 r2 => ?_) q⟩) q⟩
  refine ⟨by show 2 ≤ sizeLine; decide, fun p1 hp1 => ?_⟩
  have l3 : LeA (PenB sl σ) H2 (upd H2 p1 (.tup [v1, v2])) := LeA.new hp1
  have en3 := B2.env.new (o := .tup [v1, v2]) hp1
  have r1' : Is X.K g sl σ (upd H2 p1 (.tup [v1, v2])) .c d1 v1 := (r1.le B2.le).le l3
  have r2' : Is X.K g sl σ (upd H2 p1 (.tup [v1, v2])) .c d2 v2 := r2.le l3
  refine ⟨p1, [v1, v2], rfl, .inl (.inl upd_same), rfl, v1, [v2], rfl, v2, [], rfl, ?_⟩
  have en4 := en3.setD (i := i) r1'
  have m4 : Mv (upd H2 p1 (.tup [v1, v2])) (upd H2 p1 (.tup [v1, v2])) (Av g sl σ) (Av g (sl.set i (.d d1)) (σ.set i (some v1))) := Mv.anti fun b z => .inl (z.imp id OwnB.setD)
  have r4 : Is X.K g (sl.set i (.d d1)) (σ.set i (some v1)) (upd H2 p1 (.tup [v1, v2])) .c d2 v2 := Rep.mv m4 d2 m4 r2'
  have := gsub_core (D' := ⟨fun σ H => D'.nx σ H, D'.rt, D'.bk, D'.ct⟩) h2 en4 lk r4 q
  obtain ⟨o, ho, g', sl', k', en', q'⟩ := this
  exact ⟨o, ho, g', sl', k', en', h2.mono _ _ _ _ (fun n k3 z w H5 B5 r5 => let ⟨pp, xs, kk, jj, e1, e2, e3, e4, e5⟩ := z w H5 B5 r5; ⟨pp, xs, kk, jj, e1, e2, e3, e4, rfl, e5⟩) q'⟩
end
/-! promises made weaker -/
theorem fn_weak {P : Program} {w : World} {K : PySem.W.Frag} {mg : Str → Option Value} {base : Heap} {k : Nat} {f : Addr} {fdt : FuncData} {ps : List Str} {fd fd' : FD} (F : FnOk P w K mg base CX0 k f fdt ps (liftSp K fd)) (h : ∀ ds Q, fd'.r ds Q → fd.r ds Q) : FnOk P w K mg base CX0 k f fdt ps (liftSp K fd') := by
  have wk : ∀ vs H Q E, liftSp K fd' vs H Q E → liftSp K fd vs H Q E := fun vs H Q E ⟨A, ds, hA, r, q⟩ => ⟨A, ds, hA, r, h _ _ q⟩
  exact ⟨fun vs H Q E z => F.len vs H Q E (wk _ _ _ _ z), fun A outer s H args us vs Q E hr e0 hb r z => F.run A outer s H args us vs Q E hr e0 hb r (wk _ _ _ _ z)⟩
/-! what any data are -/
def PlD : D → Bool
  | .dT _ => false
  | .ins _ _ => false
  | .raw _ => false
  | _ => true
def isIb : D → Bool
  | .int _ => true
  | .bl _ => true
  | _ => false
def isI : D → Bool
  | .int _ => true
  | _ => false
def isB : D → Bool
  | .bl _ => true
  | _ => false
def isT : D → Bool
  | .tup _ => true
  | _ => false
def isS : D → Bool
  | .str _ => true
  | _ => false
def isLT : D → Bool
  | .tup _ => true
  | .lst _ => true
  | _ => false
def btwD (x : D) (a b : Int) : Bool := match x with
  | .int v => decide (a ≤ v ∧ v ≤ b)
  | _ => false
theorem typ_pl {K : PySem.W.Frag} {x : D} (h : PlD x = true) : ∃ t, TypD K x t ∧ PySem.W.kitOne K t (.type "int") = some (isIb x) ∧ PySem.W.kitOne K t (.type "bool") = some (isB x) ∧ PySem.W.kitOne K t (.type "tuple") = some (isT x) ∧ PySem.W.kitOne K t (.type "str") = some (isS x) ∧ PySem.W.kitAny K t [.type "list", .type "tuple"] = some (isLT x) := by
  have any : ∀ {T : String} {a b : Bool}, PySem.W.kitOne K (.type T) (.type "list") = some a → PySem.W.kitOne K (.type T) (.type "tuple") = some b → PySem.W.kitAny K (.type T) [.type "list", .type "tuple"] = some (a || b) := fun {T a b} h1 h2 => by
    unfold PySem.W.kitAny
    rw [h1]
    cases a with
    | true => rfl
    | false =>
      dsimp only
      unfold PySem.W.kitAny
      rw [h2]
      cases b <;> rfl
  cases x with
  | non => exact ⟨_, .non, kit_ty (r := false) (by decide +kernel), kit_ty (r := false) (by decide +kernel), kit_ty (r := false) (by decide +kernel), kit_ty (r := false) (by decide +kernel), any (kit_ty (r := false) (by decide +kernel)) (kit_ty (r := false) (by decide +kernel))⟩
  | bl b => exact ⟨_, .bl b, kit_ty (r := true) (by decide +kernel), kit_ty (r := true) (by decide +kernel), kit_ty (r := false) (by decide +kernel), kit_ty (r := false) (by decide +kernel), any (kit_ty (r := false) (by decide +kernel)) (kit_ty (r := false) (by decide +kernel))⟩
  | int i => exact ⟨_, .int i, kit_ty (r := true) (by decide +kernel), kit_ty (r := false) (by decide +kernel), kit_ty (r := false) (by decide +kernel), kit_ty (r := false) (by decide +kernel), any (kit_ty (r := false) (by decide +kernel)) (kit_ty (r := false) (by decide +kernel))⟩
  | str s => exact ⟨_, .str s, kit_ty (r := false) (by decide +kernel), kit_ty (r := false) (by decide +kernel), kit_ty (r := false) (by decide +kernel), kit_ty (r := true) (by decide +kernel), any (kit_ty (r := false) (by decide +kernel)) (kit_ty (r := false) (by decide +kernel))⟩
  | lst xs => exact ⟨_, .lst xs, kit_ty (r := false) (by decide +kernel), kit_ty (r := false) (by decide +kernel), kit_ty (r := false) (by decide +kernel), kit_ty (r := false) (by decide +kernel), any (kit_ty (r := true) (by decide +kernel)) (kit_ty (r := false) (by decide +kernel))⟩
  | tup xs => exact ⟨_, .tup xs, kit_ty (r := false) (by decide +kernel), kit_ty (r := false) (by decide +kernel), kit_ty (r := true) (by decide +kernel), kit_ty (r := false) (by decide +kernel), any (kit_ty (r := false) (by decide +kernel)) (kit_ty (r := true) (by decide +kernel))⟩
  | dK xs => exact ⟨_, .dK xs, kit_ty (r := false) (by decide +kernel), kit_ty (r := false) (by decide +kernel), kit_ty (r := false) (by decide +kernel), kit_ty (r := false) (by decide +kernel), any (kit_ty (r := false) (by decide +kernel)) (kit_ty (r := false) (by decide +kernel))⟩
  | dT xs => cases h
  | ins C fs => cases h
  | raw v => cases h
end DL

/-! data layer, part C: tuple(range(n)) -/
namespace DL
open PySem PySem.Spec PyProof.Rows L2
section
variable {X : Cx} {fl : Fl} {a : Expr} {ta : TD} {p p2 pos pos2 : Pos}
def dTRg (t : TD) : TD := fun sl k Q => t sl k fun d k' => ∃ n : Int, d = .int n ∧ -100000 ≤ n ∧ n ≤ 100000 ∧ Q (.tup (((List.range n.toNat).map fun (j : Nat) => (j : Int)).map D.int)) k'
theorem dn_tupRg (hc : X.calm = true) (hg : Gl X "tuple") (hm : X.mg "tuple" = none) (hg2 : Gl X "range") (hm2 : X.mg "range" = none) (h : DE X fl a ta) (he : starEach [a] X.env = (false, eval a X.env) :: starEach [] X.env := by rfl)
    (h2 : starEach [Expr.Call (.Name "range" p2) [a] [] pos2] X.env = (false, eval (Expr.Call (.Name "range" p2) [a] [] pos2) X.env) :: starEach [] X.env := by rfl) :
    DN X .c (.Call (.Name "tuple" p) [.Call (.Name "range" p2) [a] [] pos2] [] pos) (dTRg ta) := by
  refine ⟨PE.weak (pe_tupRg hc hg hm (prg_1 hg2 hm2 h.pe he) h2) fun σ H Q ⟨g, sl, k, E, q⟩ => ?_,
    fun sl k P Q hh q => h.mono _ _ _ _ (fun d k' ⟨n, hd, h1, h2, z⟩ => ⟨n, hd, h1, h2, hh _ _ z⟩) q⟩
  refine ⟨g, sl, k, E, h.mono _ _ _ _ (fun d k' ⟨n, hd, h1, h2, z⟩ v H' B r => ?_) q⟩
  subst hd
  refine ⟨n, r, ⟨by omega, by omega, by omega, by omega, by omega⟩, fun p1 hp => ?_⟩
  have er : rgV 0 n = ((List.range n.toNat).map fun (j : Nat) => (j : Int)).map V.int := by
    unfold rgV
    rw [List.map_map, Int.sub_zero]
    exact List.map_congr_left fun j _ => by show V.int (0 + (j : Int)) = _; rw [Int.zero_add]; rfl
  rw [er]
  exact z _ _ (B.new hp) ⟨p1, _, rfl, upd_same, RepL.mkInts⟩
end
end DL

namespace K90
open PySem PySem.Spec PyProof.Rows L2 DL
def topS (i : Nat) : Stmt := PySem.Challenge.pw_everyseam_k90_whole_known_lanes.main.body.getD i (.Pass ⟨0, 0, 0, 0⟩)
abbrev st_is_integer : Stmt := topS 1
theorem sc_is_integer : FnScope ["value"] ["value"] (defScope st_is_integer) := ⟨rfl, rfl, rfl, by decide +kernel, rfl, by decide +kernel, by decide +kernel⟩
abbrev st_is_list : Stmt := topS 2
theorem sc_is_list : FnScope ["value"] ["value"] (defScope st_is_list) := ⟨rfl, rfl, rfl, by decide +kernel, rfl, by decide +kernel, by decide +kernel⟩
abbrev st_is_between : Stmt := topS 3
theorem sc_is_between : FnScope ["value", "least", "most"] ["value", "least", "most"] (defScope st_is_between) := ⟨rfl, rfl, rfl, by decide +kernel, rfl, by decide +kernel, by decide +kernel⟩
abbrev st_copied : Stmt := topS 11
theorem sc_copied : FnScope ["value", "key", "one"] ["value"] (defScope st_copied) := ⟨rfl, rfl, rfl, by decide +kernel, rfl, by decide +kernel, by decide +kernel⟩
abbrev st_need_number : Stmt := topS 25
theorem sc_need_number : FnScope ["part", "value", "least", "most"] ["part", "value", "least", "most"] (defScope st_need_number) := ⟨rfl, rfl, rfl, by decide +kernel, rfl, by decide +kernel, by decide +kernel⟩
abbrev st_is_cut : Stmt := topS 26
theorem sc_is_cut : FnScope ["value", "period", "long", "phase", "times"] ["value", "period"] (defScope st_is_cut) := ⟨rfl, rfl, rfl, by decide +kernel, rfl, by decide +kernel, by decide +kernel⟩
abbrev st_need_cuts : Stmt := topS 27
theorem sc_need_cuts : FnScope ["period", "cuts", "cut"] ["period", "cuts"] (defScope st_need_cuts) := ⟨rfl, rfl, rfl, by decide +kernel, rfl, by decide +kernel, by decide +kernel⟩
abbrev st_taken_by : Stmt := topS 28
theorem sc_taken_by : FnScope ["period", "cuts", "found", "long", "phase", "times", "whole", "rest", "step", "at"] ["period", "cuts"] (defScope st_taken_by) := ⟨rfl, rfl, rfl, by decide +kernel, rfl, by decide +kernel, by decide +kernel⟩
abbrev st_free_by : Stmt := topS 29
theorem sc_free_by : FnScope ["period", "cover", "end", "whole", "rest", "phase"] ["period", "cover", "end"] (defScope st_free_by) := ⟨rfl, rfl, rfl, by decide +kernel, rfl, by decide +kernel, by decide +kernel⟩
abbrev st_links_by : Stmt := topS 30
theorem sc_links_by : FnScope ["period", "cuts", "free", "found", "at", "cut", "phase"] ["period", "cuts", "free"] (defScope st_links_by) := ⟨rfl, rfl, rfl, by decide +kernel, rfl, by decide +kernel, by decide +kernel⟩
abbrev st_grown_from : Stmt := topS 31
theorem sc_grown_from : FnScope ["links", "found", "rows", "fresh", "one", "other", "word", "number", "phase", "link"] ["links"] (defScope st_grown_from) := ⟨rfl, rfl, rfl, by decide +kernel, rfl, by decide +kernel, by decide +kernel⟩
abbrev st_hang_together : Stmt := topS 32
theorem sc_hang_together : FnScope ["links", "found", "link"] ["links"] (defScope st_hang_together) := ⟨rfl, rfl, rfl, by decide +kernel, rfl, by decide +kernel, by decide +kernel⟩
abbrev st_lane_by : Stmt := topS 33
theorem sc_lane_by : FnScope ["period", "cuts", "cover", "end", "free", "short", "links", "found", "rows", "phase", "link"] ["period", "cuts", "cover", "end"] (defScope st_lane_by) := ⟨rfl, rfl, rfl, by decide +kernel, rfl, by decide +kernel, by decide +kernel⟩
abbrev st_covered_end : Stmt := topS 34
theorem sc_covered_end : FnScope ["period", "cover", "most", "last", "phase"] ["period", "cover"] (defScope st_covered_end) := ⟨rfl, rfl, rfl, by decide +kernel, rfl, by decide +kernel, by decide +kernel⟩
abbrev st_least_by : Stmt := topS 35
theorem sc_least_by : FnScope ["period", "cuts", "cover", "end"] ["period", "cuts"] (defScope st_least_by) := ⟨rfl, rfl, rfl, by decide +kernel, rfl, by decide +kernel, by decide +kernel⟩
abbrev st_more_by : Stmt := topS 36
theorem sc_more_by : FnScope ["period", "cuts", "cover", "most", "free", "last", "more", "phase"] ["period", "cuts", "cover"] (defScope st_more_by) := ⟨rfl, rfl, rfl, by decide +kernel, rfl, by decide +kernel, by decide +kernel⟩
abbrev st_form_by : Stmt := topS 37
theorem sc_form_by : FnScope ["period", "cuts", "cover"] ["period", "cuts"] (defScope st_form_by) := ⟨rfl, rfl, rfl, by decide +kernel, rfl, by decide +kernel, by decide +kernel⟩
abbrev st_order_by : Stmt := topS 39
theorem sc_order_by : FnScope ["period", "cuts", "cover", "end", "free", "links", "times", "place", "found", "at", "cut"] ["period", "cuts"] (defScope st_order_by) := ⟨rfl, rfl, rfl, by decide +kernel, rfl, by decide +kernel, by decide +kernel⟩
abbrev st_turned_by : Stmt := topS 40
theorem sc_turned_by : FnScope ["period", "cuts", "begin", "long", "phase", "times"] ["period", "cuts", "begin"] (defScope st_turned_by) := ⟨rfl, rfl, rfl, by decide +kernel, rfl, by decide +kernel, by decide +kernel⟩
abbrev st_cover_of : Stmt := topS 41
theorem sc_cover_of : FnScope ["period", "cuts"] ["period", "cuts"] (defScope st_cover_of) := ⟨rfl, rfl, rfl, by decide +kernel, rfl, by decide +kernel, by decide +kernel⟩
abbrev st_lane : Stmt := topS 42
theorem sc_lane : FnScope ["period", "cuts", "end", "told"] ["period", "cuts", "end"] (defScope st_lane) := ⟨rfl, rfl, rfl, by decide +kernel, rfl, by decide +kernel, by decide +kernel⟩
abbrev st_least_end : Stmt := topS 43
theorem sc_least_end : FnScope ["period", "cuts"] ["period", "cuts"] (defScope st_least_end) := ⟨rfl, rfl, rfl, by decide +kernel, rfl, by decide +kernel, by decide +kernel⟩
abbrev st_form : Stmt := topS 44
theorem sc_form : FnScope ["period", "cuts"] ["period", "cuts"] (defScope st_form) := ⟨rfl, rfl, rfl, by decide +kernel, rfl, by decide +kernel, by decide +kernel⟩
abbrev st_copies_within : Stmt := topS 45
theorem sc_copies_within : FnScope ["period", "cuts", "end", "told", "found"] ["period", "cuts", "end"] (defScope st_copies_within) := ⟨rfl, rfl, rfl, by decide +kernel, rfl, by decide +kernel, by decide +kernel⟩
abbrev st_order : Stmt := topS 46
theorem sc_order : FnScope ["period", "cuts", "told", "cut"] ["period", "cuts"] (defScope st_order) := ⟨rfl, rfl, rfl, by decide +kernel, rfl, by decide +kernel, by decide +kernel⟩
abbrev st_best_begin : Stmt := topS 47
theorem sc_best_begin : FnScope ["period", "cuts", "told", "ends", "begin"] ["period", "cuts"] (defScope st_best_begin) := ⟨rfl, rfl, rfl, by decide +kernel, rfl, by decide +kernel, by decide +kernel⟩
abbrev st__law_pen : Stmt := topS 49
theorem sc__law_pen : FnScope ["script"] ["script"] (defScope st__law_pen) := ⟨rfl, rfl, rfl, by decide +kernel, rfl, by decide +kernel, by decide +kernel⟩
abbrev st__law_draw : Stmt := topS 50
theorem sc__law_draw : FnScope ["pen", "many", "digit", "at", "cell", "great", "mixed"] ["pen", "many"] (defScope st__law_draw) := ⟨rfl, rfl, rfl, by decide +kernel, rfl, by decide +kernel, by decide +kernel⟩
abbrev st__law_pick : Stmt := topS 51
theorem sc__law_pick : FnScope ["pen", "some"] ["pen", "some"] (defScope st__law_pick) := ⟨rfl, rfl, rfl, by decide +kernel, rfl, by decide +kernel, by decide +kernel⟩
abbrev st__law_lone_right : Stmt := topS 52
theorem sc__law_lone_right : FnScope ["pen", "period", "long", "phase", "many", "gap", "due", "told", "end"] ["pen"] (defScope st__law_lone_right) := ⟨rfl, rfl, rfl, by decide +kernel, rfl, by decide +kernel, by decide +kernel⟩
abbrev st__law_round_right : Stmt := topS 53
theorem sc__law_round_right : FnScope ["pen", "period", "place", "cuts", "turn", "long", "rest", "whole", "many", "told", "cut"] ["pen"] (defScope st__law_round_right) := ⟨rfl, rfl, rfl, by decide +kernel, rfl, by decide +kernel, by decide +kernel⟩
abbrev st__law_apart_right : Stmt := topS 54
theorem sc__law_apart_right : FnScope ["pen", "period", "one", "other", "low", "high", "rounds", "many", "more", "cuts", "due", "told", "row"] ["pen"] (defScope st__law_apart_right) := ⟨rfl, rfl, rfl, by decide +kernel, rfl, by decide +kernel, by decide +kernel⟩
abbrev st_law : Stmt := topS 55
theorem sc_law : FnScope ["script", "pen", "turn", "some", "whole", "told", "cut"] ["script"] (defScope st_law) := ⟨rfl, rfl, rfl, by decide +kernel, rfl, by decide +kernel, by decide +kernel⟩
abbrev st_Paperinit : Stmt := inClass (topS 14) 2
theorem sc_Paperinit : FnScope ["self", "parts"] ["self", "parts"] (defScope st_Paperinit) := ⟨rfl, rfl, rfl, by decide +kernel, rfl, by decide +kernel, by decide +kernel⟩
abbrev st_Paperbool : Stmt := inClass (topS 14) 4
theorem sc_Paperbool : FnScope ["self"] ["self"] (defScope st_Paperbool) := ⟨rfl, rfl, rfl, by decide +kernel, rfl, by decide +kernel, by decide +kernel⟩
abbrev st_Laidinit : Stmt := inClass (topS 21) 1
theorem sc_Laidinit : SupScope ["self", "waits", "tree"] ["self", "waits", "tree"] (defScope st_Laidinit) := ⟨rfl, rfl, rfl, by decide +kernel, rfl, by decide +kernel, by decide +kernel, by decide +kernel⟩
abbrev st_Shortinit : Stmt := inClass (topS 22) 2
theorem sc_Shortinit : SupScope ["self", "phase"] ["self", "phase"] (defScope st_Shortinit) := ⟨rfl, rfl, rfl, by decide +kernel, rfl, by decide +kernel, by decide +kernel, by decide +kernel⟩
abbrev st_Splitinit : Stmt := inClass (topS 23) 2
theorem sc_Splitinit : SupScope ["self", "phases"] ["self", "phases"] (defScope st_Splitinit) := ⟨rfl, rfl, rfl, by decide +kernel, rfl, by decide +kernel, by decide +kernel, by decide +kernel⟩
abbrev st_Forminit : Stmt := inClass (topS 24) 1
theorem sc_Forminit : SupScope ["self", "first", "each", "more"] ["self", "first", "each", "more"] (defScope st_Forminit) := ⟨rfl, rfl, rfl, by decide +kernel, rfl, by decide +kernel, by decide +kernel, by decide +kernel⟩
abbrev st_Formleast : Stmt := inClass (topS 24) 2
theorem sc_Formleast : FnScope ["self", "copies"] ["self", "copies"] (defScope st_Formleast) := ⟨rfl, rfl, rfl, by decide +kernel, rfl, by decide +kernel, by decide +kernel⟩
abbrev st_Trailinit : Stmt := inClass (topS 38) 0
theorem sc_Trailinit : FnScope ["self", "period", "links", "times", "phase", "at"] ["self", "period", "links", "times"] (defScope st_Trailinit) := ⟨rfl, rfl, rfl, by decide +kernel, rfl, by decide +kernel, by decide +kernel⟩
abbrev st_Trailnext_link : Stmt := inClass (topS 38) 1
theorem sc_Trailnext_link : FnScope ["self", "phase", "at"] ["self", "phase"] (defScope st_Trailnext_link) := ⟨rfl, rfl, rfl, by decide +kernel, rfl, by decide +kernel, by decide +kernel⟩
abbrev st_Trailwalked : Stmt := inClass (topS 38) 2
theorem sc_Trailwalked : FnScope ["self", "line", "found", "phase", "came", "at"] ["self"] (defScope st_Trailwalked) := ⟨rfl, rfl, rfl, by decide +kernel, rfl, by decide +kernel, by decide +kernel⟩
structure Ad where
  f_is_integer : Addr
  d_is_integer : FuncData
  f_is_list : Addr
  d_is_list : FuncData
  f_is_between : Addr
  d_is_between : FuncData
  f_copied : Addr
  d_copied : FuncData
  f_need_number : Addr
  d_need_number : FuncData
  f_is_cut : Addr
  d_is_cut : FuncData
  f_need_cuts : Addr
  d_need_cuts : FuncData
  f_taken_by : Addr
  d_taken_by : FuncData
  f_free_by : Addr
  d_free_by : FuncData
  f_links_by : Addr
  d_links_by : FuncData
  f_grown_from : Addr
  d_grown_from : FuncData
  f_hang_together : Addr
  d_hang_together : FuncData
  f_lane_by : Addr
  d_lane_by : FuncData
  f_covered_end : Addr
  d_covered_end : FuncData
  f_least_by : Addr
  d_least_by : FuncData
  f_more_by : Addr
  d_more_by : FuncData
  f_form_by : Addr
  d_form_by : FuncData
  f_order_by : Addr
  d_order_by : FuncData
  f_turned_by : Addr
  d_turned_by : FuncData
  f_cover_of : Addr
  d_cover_of : FuncData
  f_lane : Addr
  d_lane : FuncData
  f_least_end : Addr
  d_least_end : FuncData
  f_form : Addr
  d_form : FuncData
  f_copies_within : Addr
  d_copies_within : FuncData
  f_order : Addr
  d_order : FuncData
  f_best_begin : Addr
  d_best_begin : FuncData
  f__law_pen : Addr
  d__law_pen : FuncData
  f__law_draw : Addr
  d__law_draw : FuncData
  f__law_pick : Addr
  d__law_pick : FuncData
  f__law_lone_right : Addr
  d__law_lone_right : FuncData
  f__law_round_right : Addr
  d__law_round_right : FuncData
  f__law_apart_right : Addr
  d__law_apart_right : FuncData
  f_law : Addr
  d_law : FuncData
  f_Paperinit : Addr
  d_Paperinit : FuncData
  f_Paperbool : Addr
  d_Paperbool : FuncData
  f_Laidinit : Addr
  d_Laidinit : FuncData
  f_Shortinit : Addr
  d_Shortinit : FuncData
  f_Splitinit : Addr
  d_Splitinit : FuncData
  f_Forminit : Addr
  d_Forminit : FuncData
  f_Formleast : Addr
  d_Formleast : FuncData
  C_Paper : Addr
  C_Laid : Addr
  C_Short : Addr
  C_Split : Addr
  C_Form : Addr
  f_Trailinit : Addr
  d_Trailinit : FuncData
  f_Trailnext_link : Addr
  d_Trailnext_link : FuncData
  f_Trailwalked : Addr
  d_Trailwalked : FuncData
  C_Trail : Addr
structure Tx (P : Program) (K : PySem.W.Frag) (mg : Str → Option Value) (a : Ad) : Prop where
  F_is_integer : Fun K "is_integer" "is_integer" st_is_integer a.f_is_integer a.d_is_integer
  b_is_integer : Binds K a.d_is_integer ["value"] []
  m_is_integer : mg "is_integer" = some (.ref a.f_is_integer)
  F_is_list : Fun K "is_list" "is_list" st_is_list a.f_is_list a.d_is_list
  b_is_list : Binds K a.d_is_list ["value"] []
  m_is_list : mg "is_list" = some (.ref a.f_is_list)
  F_is_between : Fun K "is_between" "is_between" st_is_between a.f_is_between a.d_is_between
  b_is_between : Binds K a.d_is_between ["value", "least", "most"] []
  m_is_between : mg "is_between" = some (.ref a.f_is_between)
  F_copied : Fun K "copied" "copied" st_copied a.f_copied a.d_copied
  b_copied : Binds K a.d_copied ["value"] []
  m_copied : mg "copied" = some (.ref a.f_copied)
  F_need_number : Fun K "need_number" "need_number" st_need_number a.f_need_number a.d_need_number
  b_need_number : Binds K a.d_need_number ["part", "value", "least", "most"] []
  m_need_number : mg "need_number" = some (.ref a.f_need_number)
  F_is_cut : Fun K "is_cut" "is_cut" st_is_cut a.f_is_cut a.d_is_cut
  b_is_cut : Binds K a.d_is_cut ["value", "period"] []
  m_is_cut : mg "is_cut" = some (.ref a.f_is_cut)
  F_need_cuts : Fun K "need_cuts" "need_cuts" st_need_cuts a.f_need_cuts a.d_need_cuts
  b_need_cuts : Binds K a.d_need_cuts ["period", "cuts"] []
  m_need_cuts : mg "need_cuts" = some (.ref a.f_need_cuts)
  F_taken_by : Fun K "taken_by" "taken_by" st_taken_by a.f_taken_by a.d_taken_by
  b_taken_by : Binds K a.d_taken_by ["period", "cuts"] []
  m_taken_by : mg "taken_by" = some (.ref a.f_taken_by)
  F_free_by : Fun K "free_by" "free_by" st_free_by a.f_free_by a.d_free_by
  b_free_by : Binds K a.d_free_by ["period", "cover", "end"] []
  m_free_by : mg "free_by" = some (.ref a.f_free_by)
  F_links_by : Fun K "links_by" "links_by" st_links_by a.f_links_by a.d_links_by
  b_links_by : Binds K a.d_links_by ["period", "cuts", "free"] []
  m_links_by : mg "links_by" = some (.ref a.f_links_by)
  F_grown_from : Fun K "grown_from" "grown_from" st_grown_from a.f_grown_from a.d_grown_from
  b_grown_from : Binds K a.d_grown_from ["links"] []
  m_grown_from : mg "grown_from" = some (.ref a.f_grown_from)
  F_hang_together : Fun K "hang_together" "hang_together" st_hang_together a.f_hang_together a.d_hang_together
  b_hang_together : Binds K a.d_hang_together ["links"] []
  m_hang_together : mg "hang_together" = some (.ref a.f_hang_together)
  F_lane_by : Fun K "lane_by" "lane_by" st_lane_by a.f_lane_by a.d_lane_by
  b_lane_by : Binds K a.d_lane_by ["period", "cuts", "cover", "end"] []
  m_lane_by : mg "lane_by" = some (.ref a.f_lane_by)
  F_covered_end : Fun K "covered_end" "covered_end" st_covered_end a.f_covered_end a.d_covered_end
  b_covered_end : Binds K a.d_covered_end ["period", "cover"] []
  m_covered_end : mg "covered_end" = some (.ref a.f_covered_end)
  F_least_by : Fun K "least_by" "least_by" st_least_by a.f_least_by a.d_least_by
  b_least_by : Binds K a.d_least_by ["period", "cuts"] []
  m_least_by : mg "least_by" = some (.ref a.f_least_by)
  F_more_by : Fun K "more_by" "more_by" st_more_by a.f_more_by a.d_more_by
  b_more_by : Binds K a.d_more_by ["period", "cuts", "cover"] []
  m_more_by : mg "more_by" = some (.ref a.f_more_by)
  F_form_by : Fun K "form_by" "form_by" st_form_by a.f_form_by a.d_form_by
  b_form_by : Binds K a.d_form_by ["period", "cuts"] []
  m_form_by : mg "form_by" = some (.ref a.f_form_by)
  F_order_by : Fun K "order_by" "order_by" st_order_by a.f_order_by a.d_order_by
  b_order_by : Binds K a.d_order_by ["period", "cuts"] []
  m_order_by : mg "order_by" = some (.ref a.f_order_by)
  F_turned_by : Fun K "turned_by" "turned_by" st_turned_by a.f_turned_by a.d_turned_by
  b_turned_by : Binds K a.d_turned_by ["period", "cuts", "begin"] []
  m_turned_by : mg "turned_by" = some (.ref a.f_turned_by)
  F_cover_of : Fun K "cover_of" "cover_of" st_cover_of a.f_cover_of a.d_cover_of
  b_cover_of : Binds K a.d_cover_of ["period", "cuts"] []
  m_cover_of : mg "cover_of" = some (.ref a.f_cover_of)
  F_lane : Fun K "lane" "lane" st_lane a.f_lane a.d_lane
  b_lane : Binds K a.d_lane ["period", "cuts", "end"] []
  m_lane : mg "lane" = some (.ref a.f_lane)
  F_least_end : Fun K "least_end" "least_end" st_least_end a.f_least_end a.d_least_end
  b_least_end : Binds K a.d_least_end ["period", "cuts"] []
  m_least_end : mg "least_end" = some (.ref a.f_least_end)
  F_form : Fun K "form" "form" st_form a.f_form a.d_form
  b_form : Binds K a.d_form ["period", "cuts"] []
  m_form : mg "form" = some (.ref a.f_form)
  F_copies_within : Fun K "copies_within" "copies_within" st_copies_within a.f_copies_within a.d_copies_within
  b_copies_within : Binds K a.d_copies_within ["period", "cuts", "end"] []
  m_copies_within : mg "copies_within" = some (.ref a.f_copies_within)
  F_order : Fun K "order" "order" st_order a.f_order a.d_order
  b_order : Binds K a.d_order ["period", "cuts"] []
  m_order : mg "order" = some (.ref a.f_order)
  F_best_begin : Fun K "best_begin" "best_begin" st_best_begin a.f_best_begin a.d_best_begin
  b_best_begin : Binds K a.d_best_begin ["period", "cuts"] []
  m_best_begin : mg "best_begin" = some (.ref a.f_best_begin)
  F__law_pen : Fun K "_law_pen" "_law_pen" st__law_pen a.f__law_pen a.d__law_pen
  b__law_pen : Binds K a.d__law_pen ["script"] []
  m__law_pen : mg "_law_pen" = some (.ref a.f__law_pen)
  F__law_draw : Fun K "_law_draw" "_law_draw" st__law_draw a.f__law_draw a.d__law_draw
  b__law_draw : Binds K a.d__law_draw ["pen", "many"] []
  m__law_draw : mg "_law_draw" = some (.ref a.f__law_draw)
  F__law_pick : Fun K "_law_pick" "_law_pick" st__law_pick a.f__law_pick a.d__law_pick
  b__law_pick : Binds K a.d__law_pick ["pen", "some"] []
  m__law_pick : mg "_law_pick" = some (.ref a.f__law_pick)
  F__law_lone_right : Fun K "_law_lone_right" "_law_lone_right" st__law_lone_right a.f__law_lone_right a.d__law_lone_right
  b__law_lone_right : Binds K a.d__law_lone_right ["pen"] []
  m__law_lone_right : mg "_law_lone_right" = some (.ref a.f__law_lone_right)
  F__law_round_right : Fun K "_law_round_right" "_law_round_right" st__law_round_right a.f__law_round_right a.d__law_round_right
  b__law_round_right : Binds K a.d__law_round_right ["pen"] []
  m__law_round_right : mg "_law_round_right" = some (.ref a.f__law_round_right)
  F__law_apart_right : Fun K "_law_apart_right" "_law_apart_right" st__law_apart_right a.f__law_apart_right a.d__law_apart_right
  b__law_apart_right : Binds K a.d__law_apart_right ["pen"] []
  m__law_apart_right : mg "_law_apart_right" = some (.ref a.f__law_apart_right)
  F_law : Fun K "law" "law" st_law a.f_law a.d_law
  b_law : Binds K a.d_law ["script"] []
  m_abs : mg "abs" = none
  m_all : mg "all" = none
  m_bool : mg "bool" = none
  m_dict : mg "dict" = none
  m_divmod : mg "divmod" = none
  m_enumerate : mg "enumerate" = none
  m_int : mg "int" = none
  m_isinstance : mg "isinstance" = none
  m_len : mg "len" = none
  m_list : mg "list" = none
  m_max : mg "max" = none
  m_min : mg "min" = none
  m_range : mg "range" = none
  m_set : mg "set" = none
  m_sorted : mg "sorted" = none
  m_sum : mg "sum" = none
  m_tuple : mg "tuple" = none
  c_MOST_PERIOD : ∃ t, mg "MOST_PERIOD" = some (.int 60 t)
  c_MOST_CUTS : ∃ t, mg "MOST_CUTS" = some (.int 40 t)
  c_MOST_LONG : ∃ t, mg "MOST_LONG" = some (.int 1000000000000 t)
  c_MOST_END : ∃ t, mg "MOST_END" = some (.int 1000000000000000000000000000000 t)
  c_MOST_PIECES : ∃ t, mg "MOST_PIECES" = some (.int 1000 t)
  m_super : mg "super" = none
  opaq : PySem.W.nsIn K cStatics "thirdparty.any" = some none
  F_Paperinit : Fun K "__init__" "Paper.__init__" st_Paperinit a.f_Paperinit a.d_Paperinit
  t_Paperinit : PySem.W.typeIn K (.ref a.f_Paperinit) = some (.type "function")
  n_Paperinit : PySem.W.fnIn K a.f_Paperinit = true
  F_Paperbool : Fun K "__bool__" "Paper.__bool__" st_Paperbool a.f_Paperbool a.d_Paperbool
  b_Paperbool : Binds K a.d_Paperbool ["self"] []
  t_Paperbool : PySem.W.isFn K (.ref a.f_Paperbool) = true
  F_Formleast : Fun K "least" "Form.least" st_Formleast a.f_Formleast a.d_Formleast
  b_Formleast : Binds K a.d_Formleast ["self", "copies"] []
  me_Formleast : Meth K a.C_Form "least" a.f_Formleast
  mC_Paper : mg "Paper" = some (.ref a.C_Paper)
  mC_Laid : mg "Laid" = some (.ref a.C_Laid)
  S_Laid : FunS P K "__init__" "Laid.__init__" st_Laidinit a.f_Laidinit a.d_Laidinit a.C_Laid
  b_Laidinit : Binds K a.d_Laidinit ["self", "waits", "tree"] []
  mk_Laid : Mk K a.C_Laid a.f_Laidinit
  cl_Laid : Cls K a.C_Laid
  kc_Laid : KidOf K a.C_Laid a.f_Paperinit
  n_Laid_own_parts : NoAttr K a.C_Laid "own_parts"
  n_Laid_waits : NoAttr K a.C_Laid "waits"
  n_Laid_tree : NoAttr K a.C_Laid "tree"
  con_Laid : Con K a.C_Laid "IS_TRUE" (.bl true) (.bool true)
  fb_Laid : PySem.W.findIn K (.ref a.C_Laid) "__bool__" = some (some (.ref a.f_Paperbool))
  mC_Short : mg "Short" = some (.ref a.C_Short)
  S_Short : FunS P K "__init__" "Short.__init__" st_Shortinit a.f_Shortinit a.d_Shortinit a.C_Short
  b_Shortinit : Binds K a.d_Shortinit ["self", "phase"] []
  mk_Short : Mk K a.C_Short a.f_Shortinit
  cl_Short : Cls K a.C_Short
  kc_Short : KidOf K a.C_Short a.f_Paperinit
  n_Short_own_parts : NoAttr K a.C_Short "own_parts"
  n_Short_phase : NoAttr K a.C_Short "phase"
  con_Short : Con K a.C_Short "IS_TRUE" (.bl false) (.bool false)
  fb_Short : PySem.W.findIn K (.ref a.C_Short) "__bool__" = some (some (.ref a.f_Paperbool))
  mC_Split : mg "Split" = some (.ref a.C_Split)
  S_Split : FunS P K "__init__" "Split.__init__" st_Splitinit a.f_Splitinit a.d_Splitinit a.C_Split
  b_Splitinit : Binds K a.d_Splitinit ["self", "phases"] []
  mk_Split : Mk K a.C_Split a.f_Splitinit
  cl_Split : Cls K a.C_Split
  kc_Split : KidOf K a.C_Split a.f_Paperinit
  n_Split_own_parts : NoAttr K a.C_Split "own_parts"
  n_Split_phases : NoAttr K a.C_Split "phases"
  con_Split : Con K a.C_Split "IS_TRUE" (.bl false) (.bool false)
  fb_Split : PySem.W.findIn K (.ref a.C_Split) "__bool__" = some (some (.ref a.f_Paperbool))
  mC_Form : mg "Form" = some (.ref a.C_Form)
  S_Form : FunS P K "__init__" "Form.__init__" st_Forminit a.f_Forminit a.d_Forminit a.C_Form
  b_Forminit : Binds K a.d_Forminit ["self", "first", "each", "more"] []
  mk_Form : Mk K a.C_Form a.f_Forminit
  cl_Form : Cls K a.C_Form
  kc_Form : KidOf K a.C_Form a.f_Paperinit
  n_Form_own_parts : NoAttr K a.C_Form "own_parts"
  n_Form_first : NoAttr K a.C_Form "first"
  n_Form_each : NoAttr K a.C_Form "each"
  n_Form_more : NoAttr K a.C_Form "more"
  con_Form : Con K a.C_Form "IS_TRUE" (.bl true) (.bool true)
  fb_Form : PySem.W.findIn K (.ref a.C_Form) "__bool__" = some (some (.ref a.f_Paperbool))
  F_Trailinit : Fun K "__init__" "Trail.__init__" st_Trailinit a.f_Trailinit a.d_Trailinit
  b_Trailinit : Binds K a.d_Trailinit ["self", "period", "links", "times"] []
  F_Trailnext_link : Fun K "next_link" "Trail.next_link" st_Trailnext_link a.f_Trailnext_link a.d_Trailnext_link
  b_Trailnext_link : Binds K a.d_Trailnext_link ["self", "phase"] []
  me_Trailnext_link : Meth K a.C_Trail "next_link" a.f_Trailnext_link
  F_Trailwalked : Fun K "walked" "Trail.walked" st_Trailwalked a.f_Trailwalked a.d_Trailwalked
  b_Trailwalked : Binds K a.d_Trailwalked ["self"] []
  me_Trailwalked : Meth K a.C_Trail "walked" a.f_Trailwalked
  mC_Trail : mg "Trail" = some (.ref a.C_Trail)
  mk_Trail : Mk K a.C_Trail a.f_Trailinit
  cl_Trail : Cls K a.C_Trail
  n_Trail_left : NoAttr K a.C_Trail "left"
  n_Trail_links : NoAttr K a.C_Trail "links"
  n_Trail_out : NoAttr K a.C_Trail "out"
end K90

namespace K90
open PySem PySem.Spec PyProof.Rows L2 DL
/-! ### what is computed -/
structure Cut where
  long : Int
  phase : Int
  times : Int
def Cut.d (c : Cut) : D := .tup [.int c.long, .int c.phase, .int c.times]
def cutsT (cs : List Cut) : D := .tup (cs.map Cut.d)
def cutsL (cs : List Cut) : D := .lst (cs.map Cut.d)
def Cut.ok (P : Int) (c : Cut) : Prop := 1 ≤ c.long ∧ c.long ≤ 1000000000000 ∧ 0 ≤ c.phase ∧ c.phase < P ∧ 1 ≤ c.times ∧ c.times ≤ 1000000000000
structure CutsOk (P : Int) (cs : List Cut) : Prop where
  p1 : 1 ≤ P
  p2 : P ≤ 60
  ok : ∀ c ∈ cs, c.ok P
  len : cs.length ≤ 40
def cnt (P : Int) (c : Cut) (q : Int) : Int := c.long / P + if (q - c.phase) % P < c.long % P then 1 else 0
def cover (P : Int) (cs : List Cut) (q : Int) : Int := (cs.map fun c => c.times * cnt P c q).sum
def rng (P : Int) (f : Int → Int) : List Int := (List.range P.toNat).map fun (n : Nat) => f (n : Int)
def free (P : Int) (cov : Int → Int) (e q : Int) : Int := e / P + (if q < e % P then 1 else 0) - cov q
structure Link where
  a : Int
  b : Int
  w : Str
  n : Int
def Link.d (l : Link) : D := .tup [.int l.a, .int l.b, .str l.w, .int l.n]
def cutLinks (P : Int) (cs : List Cut) : List Link := cs.zipIdx.map fun p => ⟨p.1.phase, (p.1.long + p.1.phase) % P, "cut", (p.2 : Int)⟩
def waitLinks (P : Int) (fr : List Int) : List Link := fr.map fun q => ⟨q, (q + 1) % P, "wait", q⟩
def freeAt (P : Int) (cov : Int → Int) (e : Int) : List Int := (rng P id).filter fun q => decide (0 < free P cov e q)
def links (P : Int) (cs : List Cut) (cov : Int → Int) (e : Int) : List Link := cutLinks P cs ++ waitLinks P (freeAt P cov e)
/-- hangs together with 0 -/
def Comp (ls : List Link) (q : Int) : Prop := ∀ S : Int → Prop, S 0 → (∀ l ∈ ls, S l.a ↔ S l.b) → S q
def Let (P : Int) (cs : List Cut) (e : Int) : Prop := (∀ q, 0 ≤ q → q < P → 0 ≤ free P (cover P cs) e q) ∧ ∀ l ∈ links P cs (cover P cs) e, Comp (links P cs (cover P cs) e) l.a
def IsLeast (P : Int) (cs : List Cut) (e : Int) : Prop := 0 ≤ e ∧ Let P cs e ∧ ∀ e', 0 ≤ e' → e' < e → ¬ Let P cs e'
def turned (P : Int) (cs : List Cut) (t : Int) : List Cut := cs.map fun c => ⟨c.long, (c.phase - t) % P, c.times⟩
/-! ### promises -/
def fd_is_integer : FD := FD.fn fun ds d => ∃ i, ds = [.int i] ∧ d = .bl true
def fd_is_list : FD := FD.fn fun ds d => ∃ xs, (ds = [.lst xs] ∨ ds = [.tup xs]) ∧ d = .bl true
def fd_is_between : FD := FD.fn fun ds d => ∃ v a b : Int, ds = [.int v, .int a, .int b] ∧ d = .bl (decide (a ≤ v ∧ v ≤ b))
def fd_need_number : FD := FD.fn fun ds d => ∃ (p : Str) (v a b : Int), ds = [.str p, .int v, .int a, .int b] ∧ a ≤ v ∧ v ≤ b ∧ d = .non
def fd_is_cut : FD := FD.fn fun ds d => ∃ (c : Cut) (P : Int), ds = [c.d, .int P] ∧ c.ok P ∧ d = .bl true
def fd_need_cuts : FD := FD.fn fun ds d => ∃ (P : Int) (cs : List Cut), (ds = [.int P, cutsL cs] ∨ ds = [.int P, cutsT cs]) ∧ CutsOk P cs ∧ d = cutsT cs
def fd_taken_by : FD := FD.fn fun ds d => ∃ (P : Int) (cs : List Cut), ds = [.int P, cutsT cs] ∧ CutsOk P cs ∧ d = intsD (rng P (cover P cs))
def fd_free_by : FD := FD.fn fun ds d => ∃ (P : Int) (cov : Int → Int) (e : Int), ds = [.int P, intsD (rng P cov), .int e] ∧ 1 ≤ P ∧ P ≤ 60 ∧ d = intsD (rng P (free P cov e))
def fd_links_by : FD := FD.fn fun ds d => ∃ (P : Int) (cs : List Cut) (fr : List Int), ds = [.int P, cutsT cs, intsD fr] ∧ CutsOk P cs ∧ fr.length ≤ 60 ∧ d = .lst ((cutLinks P cs ++ waitLinks P fr).map Link.d)
def rowD (r : Int × Str × Int) : D := .tup [.int r.1, .tup [.str r.2.1, .int r.2.2]]
def keysD (ks : List Int) : D := .dK (ks.map fun k => (.inl k, D.bl true))
/-- d is all that is told of what comes back -/
def FD.all {ι : Type} (A : ι → List D) (pre : ι → Prop) (R : ι → D → Prop) : FD := ⟨fun ds Q => ∃ i, ds = A i ∧ pre i ∧ ∀ d, R i d → Q d, fun _ _ _ h ⟨i, a, b, q⟩ => ⟨i, a, b, fun d r => h _ (q d r)⟩⟩
/-- rows that lead from 0 on, one by one -/
structure Tree (ls : List Link) (ks : List Int) (rows : List (Int × Str × Int)) : Prop where
  keys : ks = 0 :: rows.map (·.1)
  nd : ks.Nodup
  row : ∀ (j : Nat) r, rows[j]? = some r → ∃ l ∈ ls, l.w = r.2.1 ∧ l.n = r.2.2 ∧ ((r.1 = l.b ∧ l.a ∈ 0 :: (rows.take j).map (·.1)) ∨ (r.1 = l.a ∧ l.b ∈ 0 :: (rows.take j).map (·.1)))
def fd_grown_from : FD := FD.all (fun ls : List Link => [.lst (ls.map Link.d)]) (fun ls => ls.length ≤ 1000) fun ls d => ∃ (ks : List Int) (rows : List (Int × Str × Int)), d = .tup [keysD ks, .lst (rows.map rowD)] ∧ (∀ l ∈ ls, l.a ∈ ks ↔ l.b ∈ ks) ∧ 0 ∈ ks ∧ (∀ k ∈ ks, Comp ls k) ∧ rows.length ≤ 2001 ∧ ks.length ≤ 2001 ∧ Tree ls ks rows
def isTrue (a : Ad) (C : Addr) (b : Bool) : Prop := (C = a.C_Laid ∧ b = true) ∨ (C = a.C_Short ∧ b = false) ∨ (C = a.C_Split ∧ b = false)
/-- papers as data -/
def laidD (a : Ad) (ws : List Int) (rows : List (Int × Str × Int)) : D := .ins a.C_Laid [("own_parts", .tup [.tup (ws.map D.int), .tup (rows.map rowD)]), ("waits", .tup (ws.map D.int)), ("tree", .tup (rows.map rowD))]
def shortD (a : Ad) (q : Int) : D := .ins a.C_Short [("own_parts", .tup [.int q]), ("phase", .int q)]
def splitD (a : Ad) (ns : List Int) : D := .ins a.C_Split [("own_parts", .tup [.tup (ns.map D.int)]), ("phases", .tup (ns.map D.int))]
/-- the paper of an end -/
inductive LaneIs (a : Ad) (P : Int) (cs : List Cut) (e : Int) : D → Prop where
  | laid (rows : List (Int × Str × Int)) (ks : List Int) (nn : ∀ q, 0 ≤ q → q < P → 0 ≤ free P (cover P cs) e q) (tr : Tree (links P cs (cover P cs) e) ks rows) (al : ∀ l ∈ links P cs (cover P cs) e, l.a ∈ ks ∧ l.b ∈ ks) (few : rows.length ≤ 2001) : LaneIs a P cs e (laidD a (rng P (free P (cover P cs) e)) rows)
  | short (q : Int) (q0 : 0 ≤ q) (q1 : q < P) (lt : free P (cover P cs) e q < 0) (low : ∀ r, 0 ≤ r → r < q → 0 ≤ free P (cover P cs) e r) : LaneIs a P cs e (shortD a q)
  | split (ns : List Int) (nn : ∀ q, 0 ≤ q → q < P → 0 ≤ free P (cover P cs) e q) (asc : ns.Pairwise (· < ·)) (all : ∀ z, z ∈ ns ↔ Comp (links P cs (cover P cs) e) z) (off : ∃ l ∈ links P cs (cover P cs) e, l.a ∉ ns) (few : ns.length ≤ 2001) : LaneIs a P cs e (splitD a ns)
def fd_lane_by (a : Ad) : FD := FD.all (fun i : Int × List Cut × Int => [.int i.1, cutsT i.2.1, intsD (rng i.1 (cover i.1 i.2.1)), .int i.2.2]) (fun i => CutsOk i.1 i.2.1 ∧ 0 ≤ i.2.2) fun i d => ∃ C fs b, d = .ins C fs ∧ isTrue a C b ∧ (fs.all fun u => u.1 != "IS_TRUE") = true ∧ (b = true ↔ Let i.1 i.2.1 i.2.2) ∧ LaneIs a i.1 i.2.1 i.2.2 d
def fd_covered_end : FD := FD.all (fun i : Int × (Int → Int) => [.int i.1, intsD (rng i.1 i.2)]) (fun i => 1 ≤ i.1 ∧ i.1 ≤ 60 ∧ ∀ q, 0 ≤ q → q < i.1 → 0 ≤ i.2 q) fun i d => ∃ c : Int, d = .int c ∧ 0 ≤ c ∧ (∀ q, 0 ≤ q → q < i.1 → 0 ≤ free i.1 i.2 c q) ∧ ∀ e, 0 ≤ e → e < c → ∃ q, 0 ≤ q ∧ q < i.1 ∧ free i.1 i.2 e q < 0
def fd_least_by : FD := FD.all (fun i : Int × List Cut => [.int i.1, cutsT i.2]) (fun i => CutsOk i.1 i.2) fun i d => ∃ e, d = .int e ∧ IsLeast i.1 i.2 e
def fd_turned_by : FD := FD.fn fun ds d => ∃ (P : Int) (cs : List Cut) (t : Int), ds = [.int P, cutsT cs, .int t] ∧ CutsOk P cs ∧ d = cutsT (turned P cs t)
/-- cuts as a tuple or as a list -/
def cutsE : Bool → List Cut → D
  | true, cs => cutsT cs
  | false, cs => cutsL cs
def fd_least_end : FD := FD.all (fun i : Int × Bool × List Cut => [.int i.1, cutsE i.2.1 i.2.2]) (fun i => CutsOk i.1 i.2.2) fun i d => ∃ e, d = .int e ∧ IsLeast i.1 i.2.2 e
/-- the least end as seen from each place, the best place -/
def Best (P : Int) (cs : List Cut) (es : List Int) (j : Nat) (m : Int) : Prop := es.length = P.toNat ∧ (∀ (i : Nat) (e : Int), es[i]? = some e → IsLeast P (turned P cs i) e) ∧ es[j]? = some m ∧ (∀ (i : Nat) (e : Int), es[i]? = some e → m ≤ e) ∧ ∀ (i : Nat) (e : Int), i < j → es[i]? = some e → e ≠ m
def fd_best_begin : FD := FD.all (fun i : Int × Bool × List Cut => [.int i.1, cutsE i.2.1 i.2.2]) (fun i => CutsOk i.1 i.2.2) fun i d => ∃ es j m, Best i.1 i.2.2 es j m ∧ d = .tup [.int (j : Nat), .int m]
/-- of the law's own -/
def fp_draw : FP := ⟨fun k ds Q => ∃ m : Int, ds = [.int m] ∧ 1 ≤ m ∧ m ≤ 1000000000000 ∧ k ≤ 100000 ∧ ∀ v, 0 ≤ v → v < m → Q (.int v) (k + 1), fun k ds P Q h ⟨m, a, b, c, d, q⟩ => ⟨m, a, b, c, d, fun v h0 h1 => h _ _ (q v h0 h1)⟩⟩
def CutsBy (P most long times : Int) (cs : List Cut) : Prop := cs.length ≤ most ∧ ∀ c ∈ cs, 1 ≤ c.long ∧ c.long ≤ long ∧ 0 ≤ c.phase ∧ c.phase < P ∧ 1 ≤ c.times ∧ c.times ≤ times
def fp_cuts : FP := ⟨fun k ds Q => ∃ P most long times : Int, ds = [.int P, .int most, .int long, .int times] ∧ 1 ≤ P ∧ P ≤ 60 ∧ 0 ≤ most ∧ most ≤ 40 ∧ 1 ≤ long ∧ long ≤ 1000000000000 ∧ 1 ≤ times ∧ times ≤ 1000000000000 ∧ k ≤ 90000 ∧ ∀ cs k', CutsBy P most long times cs → k' ≤ k + 1 + 3 * most.toNat → Q (cutsL cs) k',
  fun k ds P Q h ⟨p, a, b, c, d, e1, e2, e3, e4, e5, e6, e7, e8, e9, q⟩ => ⟨p, a, b, c, d, e1, e2, e3, e4, e5, e6, e7, e8, e9, fun cs k' x y => h _ _ (q cs k' x y)⟩⟩
def fd_cover : FD := FD.fn fun ds d => ∃ (P : Int) (cs : List Cut), ds = [.int P, cutsL cs] ∧ CutsOk P cs ∧ d = intsD (rng P (cover P cs))
/-- links by their names -/
def nameD (p : Str × Int) : List Key := [.inr p.1, .inl p.2]
def lkD (l : Link) : List Key × D := (nameD (l.w, l.n), .tup [.int l.a, .int l.b])
def fd_links : FD := FD.all (fun i : Int × List Cut × Int => [.int i.1, cutsL i.2.1, .int i.2.2]) (fun i => CutsOk i.1 i.2.1 ∧ 0 ≤ i.2.2) fun i d => (d = .non ∧ ∃ q, 0 ≤ q ∧ q < i.1 ∧ free i.1 (cover i.1 i.2.1) i.2.2 q < 0) ∨ (d = .dT ((links i.1 i.2.1 (cover i.1 i.2.1) i.2.2).map lkD) ∧ ∀ q, 0 ≤ q → q < i.1 → 0 ≤ free i.1 (cover i.1 i.2.1) i.2.2 q)
/-- links of unlike names -/
def Unlike (ls : List Link) : Prop := ls.Pairwise fun x y => (x.w, x.n) ≠ (y.w, y.n)
def fd_known : FD := FD.all (fun ls : List Link => [.dT (ls.map lkD)]) (fun ls => Unlike ls ∧ ls.length ≤ 100) fun ls d => ∃ ks : List Int, d = intsD ks ∧ (∀ l ∈ ls, l.a ∈ ks ↔ Comp ls l.a) ∧ ks.Pairwise (· < ·) ∧ ∀ z, z ∈ ks ↔ Comp ls z
def fd_is_let : FD := FD.all (fun i : Int × List Cut × Int => [.int i.1, cutsL i.2.1, .int i.2.2]) (fun i => CutsOk i.1 i.2.1 ∧ 0 ≤ i.2.2) fun i d => ∃ b : Bool, d = .bl b ∧ (b = true ↔ Let i.1 i.2.1 i.2.2)
def fd_seen : FD := FD.fn fun ds d => ∃ (P : Int) (cs : List Cut) (t : Int), ds = [.int P, cutsL cs, .int t] ∧ CutsOk P cs ∧ d = cutsL (turned P cs t)
def fd_least : FD := FD.all (fun i : Int × List Cut => [.int i.1, cutsL i.2]) (fun i => CutsOk i.1 i.2) fun i d => ∃ e, d = .int e ∧ IsLeast i.1 i.2 e
end K90


namespace K90
open PySem PySem.Spec PyProof.Rows L2 DL
variable {P : Program} {w : World} {K : PySem.W.Frag} {mg : Str → Option Value} {base : Heap} {a : Ad}
theorem if_bx {b c : Bool} {p q : Prop} (e : b = c) (h1 : c = true → p) (h2 : c = false → q) : if b = true then p else q := by
  subst e
  cases b with
  | true => rw [if_pos rfl]; exact h1 rfl
  | false => rw [if_neg (by decide)]; exact h2 rfl
def fdg_is_integer : FD := FD.fn fun ds d => ∃ x, ds = [x] ∧ PlD x = true ∧ d = .bl (isI x)
theorem okg_is_integer (T : Tx P K mg a) : FnOk P w K mg base CX0 1 a.f_is_integer a.d_is_integer ["value"] (liftSp K fdg_is_integer) := by
  refine def_ok T.F_is_integer sc_is_integer (fun ds Q h => ?_) fun cdv A outer s H E hr => ⟨_,
    (dss_one (ds_ret (de_and (dn_bi cg_isi (by rfl) T.m_isinstance (by decide +kernel) (da_cons (dv 0) (da_cons (de_ty "int" (by rfl) T.m_int (by decide +kernel)) da_nil))).de (de_one (de_not (dn_bi cg_isi (by rfl) T.m_isinstance (by decide +kernel) (da_cons (dv 0) (da_cons (de_ty "bool" (by rfl) T.m_bool (by decide +kernel)) da_nil))).de))))), ?_⟩
  · obtain ⟨d, ⟨x, rfl, _⟩, _⟩ := h; rfl
  · intro ds Q h
    obtain ⟨d, ⟨x, rfl, hx, rfl⟩, q⟩ := h
    obtain ⟨t, ht, ki, kb, _⟩ := typ_pl (K := K) hx
    refine ⟨_, rfl, ⟨_, _, _, _, isIb x, rfl, .ty _, ht, ki, ?_⟩⟩
    refine ⟨isIb x, rfl, if_bx (c := isIb x) rfl (fun hb => ?_) fun hb => ?_⟩
    · have e : isI x = !isB x := by cases x <;> first | rfl | cases hb
      rw [e] at q
      exact ⟨_, rfl, _, _, _, _, isB x, rfl, .ty _, ht, kb, ⟨_, rfl, q⟩⟩
    · have e : isI x = isIb x := by cases x <;> first | rfl | cases hb
      rw [e, hb] at q
      exact q
theorem ok_is_integer (T : Tx P K mg a) : FnOk P w K mg base CX0 1 a.f_is_integer a.d_is_integer ["value"] (liftSp K fd_is_integer) :=
  fn_weak (okg_is_integer T) fun ds Q ⟨d, ⟨i, e, e2⟩, q⟩ => ⟨d, ⟨.int i, e, rfl, e2⟩, q⟩
def fdg_is_list : FD := FD.fn fun ds d => ∃ x, ds = [x] ∧ PlD x = true ∧ d = .bl (isLT x)
theorem okg_is_list (T : Tx P K mg a) : FnOk P w K mg base CX0 1 a.f_is_list a.d_is_list ["value"] (liftSp K fdg_is_list) := by
  refine def_ok T.F_is_list sc_is_list (fun ds Q h => ?_) fun cdv A outer s H E hr => ⟨_,
    (dss_one (ds_ret (dn_bi cg_isiT (by rfl) T.m_isinstance (by decide +kernel) (da_cons (dv 0) (da_cons (de_tup (da_cons (de_ty "list" (by rfl) T.m_list (by decide +kernel)) (da_cons (de_ty "tuple" (by rfl) T.m_tuple (by decide +kernel)) da_nil))) da_nil))).de)), ?_⟩
  · obtain ⟨d, ⟨x, rfl, _⟩, _⟩ := h; rfl
  · intro ds Q h
    obtain ⟨d, ⟨x, rfl, hx, rfl⟩, q⟩ := h
    obtain ⟨t, ht, _, _, _, _, kl⟩ := typ_pl (K := K) hx
    exact ⟨_, rfl, by decide, _, [.ty "list", .ty "tuple"], _, _, _, rfl, .cons (.ty _) (.cons (.ty _) .nil), ht, kl, q⟩
theorem ok_is_list (T : Tx P K mg a) : FnOk P w K mg base CX0 1 a.f_is_list a.d_is_list ["value"] (liftSp K fd_is_list) :=
  fn_weak (okg_is_list T) fun ds Q ⟨d, ⟨xs, e, e2⟩, q⟩ => by
    rcases e with rfl | rfl
    · exact ⟨d, ⟨.lst xs, rfl, rfl, e2⟩, q⟩
    · exact ⟨d, ⟨.tup xs, rfl, rfl, e2⟩, q⟩
def fdg_is_between : FD := FD.fn fun ds d => ∃ x a b, ds = [x, .int a, .int b] ∧ PlD x = true ∧ d = .bl (btwD x a b)
theorem okg_is_between (T : Tx P K mg a) : FnOk P w K mg base CX0 2 a.f_is_between a.d_is_between ["value", "least", "most"] (liftSp K fdg_is_between) := by
  refine def_ok T.F_is_between sc_is_between (fun ds Q h => ?_) fun cdv A outer s H E hr => ⟨_,
    (dss_one (ds_ret (de_and (de_call (okg_is_integer T) (hr.mono (by decide)) (by rfl) T.m_is_integer T.F_is_integer.kp T.b_is_integer (da_cons (dv 0) da_nil)) (de_one (de_chain os_le os_le (dv 1) (dv 0) (dv 2)))))), ?_⟩
  · obtain ⟨d, ⟨v, x, y, rfl, _⟩, _⟩ := h; rfl
  · intro ds Q h
    obtain ⟨d, ⟨v, x, y, rfl, hv, rfl⟩, q⟩ := h
    refine ⟨_, rfl, ⟨_, ⟨v, rfl, hv, rfl⟩, ?_⟩⟩
    refine ⟨isI v, rfl, if_bx (c := isI v) rfl (fun hb => ?_) fun hb => ?_⟩
    · obtain ⟨v, rfl⟩ : ∃ i, v = .int i := by cases v <;> first | exact ⟨_, rfl⟩ | cases hb
      refine ⟨_, rfl, _, rfl, _, _, rfl, rfl, _, rfl, ?_⟩
      by_cases h1 : x ≤ v
      · rw [if_pos (decide_eq_true h1)]
        refine ⟨_, rfl, _, _, rfl, rfl, ?_⟩
        have e : decide (v ≤ y) = decide (x ≤ v ∧ v ≤ y) := decide_eq_decide.mpr ⟨fun z => ⟨h1, z⟩, fun z => z.2⟩
        show Q (.bl (decide (v ≤ y)))
        rw [e]
        exact q
      · rw [if_neg (by rw [decide_eq_false h1]; intro z; cases z)]
        have e : decide (x ≤ v ∧ v ≤ y) = false := decide_eq_false fun z => h1 z.1
        have q : Q (.bl (decide (x ≤ v ∧ v ≤ y))) := q
        rw [e] at q
        exact q
    · have e : btwD v x y = isI v := by cases v <;> first | rfl | cases hb
      rw [e, hb] at q
      exact q
theorem ok_is_between (T : Tx P K mg a) : FnOk P w K mg base CX0 2 a.f_is_between a.d_is_between ["value", "least", "most"] (liftSp K fd_is_between) :=
  fn_weak (okg_is_between T) fun ds Q ⟨d, ⟨v, x, y, e, e2⟩, q⟩ => ⟨d, ⟨.int v, x, y, e, rfl, e2⟩, q⟩
theorem ok_need_number (T : Tx P K mg a) : FnOk P w K mg base CX0 3 a.f_need_number a.d_need_number ["part", "value", "least", "most"] (liftSp K fd_need_number) := by
  refine def_ok T.F_need_number sc_need_number (fun ds Q h => ?_) fun cdv A outer s H E hr => ⟨_,
    (dss_one (ds_if (dt_not (dt_val (de_call (ok_is_between T) (hr.mono (by decide)) (by rfl) T.m_is_between T.F_is_between.kp T.b_is_between (da_cons (dv 1) (da_cons (dv 2) (da_cons (dv 3) da_nil))))))
      (dss_one ds_never)
      dss_nil)), ?_⟩
  · obtain ⟨d, ⟨p, v, x, y, rfl, _⟩, _⟩ := h; rfl
  · intro ds Q h
    obtain ⟨d, ⟨p, v, x, y, rfl, h1, h2, rfl⟩, q⟩ := h
    refine ⟨_, rfl, _, rfl, _, rfl, _, ⟨v, x, y, rfl, rfl⟩, ?_⟩
    refine ⟨_, rfl, ?_⟩
    rw [decide_eq_true ⟨h1, h2⟩]
    exact q
theorem ok_is_cut (T : Tx P K mg a) : FnOk P w K mg base CX0 3 a.f_is_cut a.d_is_cut ["value", "period"] (liftSp K fd_is_cut) := by
  refine def_ok T.F_is_cut sc_is_cut (fun ds Q h => ?_) fun cdv A outer s H E hr => ⟨_,
    (dss_cons (ds_if (dt_w (dw_or (dt_not (dt_val (dn_bi cg_isi (by rfl) T.m_isinstance (by decide +kernel) (da_cons (dv 0) (da_cons (de_ty "tuple" (by rfl) T.m_tuple (by decide +kernel)) da_nil))).de)) (dw_or1 (dt_cmp (os_ne hr.units) (dn_bi cg_len (by rfl) T.m_len (by decide +kernel) (da_cons (dv 0) da_nil)).de de_int))))
      (dss_one (ds_ret de_bl))
      dss_nil)
    (dss_cons (ds_unp (dv 0) (dg_tup (n := 3) rfl (dgs_cons (dg_name (i := 2) sc_is_cut.nd rfl (.inl rfl)) (dgs_cons (dg_name (i := 3) sc_is_cut.nd rfl (.inl rfl)) (dgs_cons (dg_name (i := 4) sc_is_cut.nd rfl (.inl rfl)) dgs_nil)))))
    (dss_one (ds_ret (de_and (de_call (ok_is_between T) (hr.mono (by decide)) (by rfl) T.m_is_between T.F_is_between.kp T.b_is_between (da_cons (dv 2) (da_cons de_int (da_cons (de_globI (by rfl) T.c_MOST_LONG) da_nil)))) (de_and (de_call (ok_is_between T) (hr.mono (by decide)) (by rfl) T.m_is_between T.F_is_between.kp T.b_is_between (da_cons (dv 3) (da_cons de_int (da_cons (de_op os_sub (dv 1) de_int) da_nil)))) (de_one (de_call (ok_is_between T) (hr.mono (by decide)) (by rfl) T.m_is_between T.F_is_between.kp T.b_is_between (da_cons (dv 4) (da_cons de_int (da_cons (de_globI (by rfl) T.c_MOST_LONG) da_nil))))))))))), ?_⟩
  · obtain ⟨d, ⟨p, v, rfl, _⟩, _⟩ := h; rfl
  · intro ds Q h
    obtain ⟨d, ⟨c, p, rfl, ⟨h1, h2, h3, h4, h5, h6⟩, rfl⟩, q⟩ := h
    refine ⟨_, rfl, ⟨_, _, _, _, true, rfl, .ty _, .tup _, kit_ty (by decide +kernel), ?_⟩⟩
    refine ⟨_, rfl, ?_⟩
    refine ⟨_, rfl, ⟨_, _, rfl, .inr rfl, ?_⟩⟩
    refine .inl ⟨_, _, rfl, rfl, ?_⟩
    refine ⟨_, rfl, ?_⟩
    refine ⟨_, rfl, _, rfl, rfl, _, _, rfl, _, _, rfl, _, _, rfl, rfl, ?_⟩
    refine ⟨_, rfl, _, ⟨_, _, _, rfl, rfl⟩, ?_⟩
    rw [decide_eq_true ⟨h1, h2⟩]
    refine ⟨true, rfl, ?_⟩
    refine ⟨_, rfl, _, rfl, _, _, rfl, rfl, _, ⟨_, _, _, rfl, rfl⟩, ?_⟩
    rw [decide_eq_true ⟨h3, by omega⟩]
    refine ⟨true, rfl, ?_⟩
    refine ⟨_, rfl, _, ⟨_, _, _, rfl, rfl⟩, ?_⟩
    rw [decide_eq_true ⟨h5, h6⟩]
    exact q
end K90


namespace K90
open PySem PySem.Spec PyProof.Rows L2 DL
variable {P : Program} {w : World} {K : PySem.W.Frag} {mg : Str → Option Value} {base : Heap} {a : Ad}
theorem rng_len (P : Int) (f : Int → Int) : (rng P f).length = P.toNat := by unfold rng; rw [List.length_map, List.length_range]
theorem rng_at {P : Int} {f : Int → Int} {i : Int} (h0 : 0 ≤ i) (h1 : i < P) : (rng P f)[i.toNat]? = some (f i) := by
  unfold rng
  rw [List.getElem?_map, List.getElem?_range (by omega), Option.map_some, Int.toNat_of_nonneg h0]
theorem rng_set {P : Int} {f : Int → Int} {i v : Int} (h0 : 0 ≤ i) (h1 : i < P) : (rng P f).set i.toNat v = rng P fun q => if q = i then v else f q := by
  apply List.ext_getElem?
  intro j
  by_cases hj : j < P.toNat
  · by_cases e : i.toNat = j
    · subst e
      rw [List.getElem?_set_self (by rw [rng_len]; exact hj), rng_at h0 h1, if_pos rfl]
    · rw [List.getElem?_set_ne e]
      have e2 : (j : Int) ≠ i := by omega
      have := rng_at (P := P) (f := f) (i := j) (by omega) (by omega)
      have h3 := rng_at (P := P) (f := fun q => if q = i then v else f q) (i := j) (by omega) (by omega)
      rw [Int.toNat_natCast] at this h3
      rw [this, h3, if_neg e2]
  · rw [List.getElem?_eq_none (by rw [List.length_set, rng_len]; omega), List.getElem?_eq_none (by rw [rng_len]; omega)]
theorem rng_congr {P : Int} {f g : Int → Int} (h : ∀ q, 0 ≤ q → q < P → f q = g q) : rng P f = rng P g := by
  unfold rng
  apply List.map_congr_left
  intro n hn
  have := List.mem_range.mp hn
  exact h _ (by omega) (by omega)
theorem rng_mem {P x : Int} {f : Int → Int} : x ∈ rng P f ↔ ∃ q, 0 ≤ q ∧ q < P ∧ x = f q := by
  unfold rng
  rw [List.mem_map]
  constructor
  · rintro ⟨n, hn, rfl⟩
    have := List.mem_range.mp hn
    exact ⟨n, by omega, by omega, rfl⟩
  · rintro ⟨q, h0, h1, rfl⟩
    exact ⟨q.toNat, List.mem_range.mpr (by omega), by rw [Int.toNat_of_nonneg h0]⟩
/-- what range(P) hands -/
theorem rgD (P : Int) : ((List.range P.toNat).map fun (j : Nat) => D.int (0 + j)) = (rng P id).map D.int := by
  unfold rng
  rw [List.map_map]
  apply List.map_congr_left
  intro n _
  show D.int (0 + n) = D.int n
  rw [Int.zero_add]
theorem intsD_set (ns : List Int) (j : Nat) (v : Int) : D.lst ((ns.map D.int).set j (.int v)) = intsD (ns.set j v) := by
  unfold intsD
  rw [List.map_set]
theorem ixN_nn {n : Nat} {i : Int} (h0 : 0 ≤ i) (h1 : i < n) : ixN n i = some i.toNat := by
  unfold ixN
  rw [if_pos h0, if_pos h1]
theorem atI_at {xs : List D} {i : Int} {x : D} (h0 : 0 ≤ i) (h : xs[i.toNat]? = some x) : atI xs i = some x := by
  have h1 := (List.getElem?_eq_some_iff.mp h).1
  unfold atI
  rw [ixN_nn h0 (by omega)]
  exact h
theorem atI_ints {ns : List Int} {i v : Int} (h0 : 0 ≤ i) (h : ns[i.toNat]? = some v) : atI (ns.map D.int) i = some (D.int v) := atI_at h0 (by rw [List.getElem?_map, h]; rfl)
theorem cuts_at {cs : List Cut} {j : Nat} {x : D} (h : (cs.map Cut.d)[j]? = some x) : ∃ c, cs[j]? = some c ∧ x = c.d := by
  rw [List.getElem?_map] at h
  cases e : cs[j]? with
  | none => rw [e] at h; cases h
  | some c => rw [e] at h; cases h; exact ⟨c, rfl, rfl⟩
theorem range_at {n j : Nat} {lo : Int} {x : D} (h : ((List.range n).map fun (j : Nat) => D.int (lo + j))[j]? = some x) : j < n ∧ x = .int (lo + j) := by
  rw [List.getElem?_map] at h
  cases e : (List.range n)[j]? with
  | none => rw [e] at h; cases h
  | some c =>
    rw [e] at h; cases h
    have := List.getElem?_eq_some_iff.mp e
    obtain ⟨h1, h2⟩ := this
    rw [List.length_range] at h1
    rw [List.getElem_range] at h2
    subst h2
    exact ⟨h1, rfl⟩
theorem cover_snoc (P : Int) (cs : List Cut) (c : Cut) (q : Int) : cover P (cs ++ [c]) q = cover P cs q + c.times * cnt P c q := by
  unfold cover
  rw [List.map_append, List.sum_append]
  simp
/-- behind m steps of a cut -/
def part (P : Int) (c : Cut) (m : Nat) (q : Int) : Int := if (q - c.phase) % P < m then c.times * cnt P c q else 0
theorem emod_in {a P : Int} (h : 0 < P) : 0 ≤ a % P ∧ a % P < P := ⟨Int.emod_nonneg a (by omega), Int.emod_lt_of_pos a h⟩
theorem at_of {P q p : Int} {m : Nat} (h : 0 < P) (hq0 : 0 ≤ q) (hq : q < P) (hm : (m : Int) < P) : (q - p) % P = m ↔ q = (p + m) % P := by
  constructor
  · intro e
    have hqq : q % P = q := Int.emod_eq_of_lt hq0 hq
    rw [← e, Int.add_emod, Int.emod_emod, ← Int.add_emod, Int.add_comm p, Int.sub_add_cancel, hqq]
  · intro e
    rw [e, Int.sub_emod, Int.emod_emod, ← Int.sub_emod, Int.add_comm, Int.add_sub_cancel]
    exact Int.emod_eq_of_lt (by omega) hm
theorem flat_zero (n : Nat) : (List.replicate n [D.int 0]).flatten = (List.replicate n (0 : Int)).map D.int := by
  induction n with
  | zero => rfl
  | succ n ih => rw [List.replicate_succ, List.flatten_cons, ih, List.replicate_succ]; rfl
theorem rng_zero (P : Int) : rng P (fun _ => 0) = List.replicate P.toNat 0 := by
  unfold rng
  rw [List.map_const', List.length_range]
theorem ok_need_cuts (T : Tx P K mg a) : FnOk P w K mg base CX0 4 a.f_need_cuts a.d_need_cuts ["period", "cuts"] (liftSp K fd_need_cuts) := by
  refine def_ok T.F_need_cuts sc_need_cuts (fun ds Q h => ?_) fun cdv A outer s H E hr => ⟨_,
    (dss_cons (ds_expr (de_call (ok_need_number T) (hr.mono (by decide)) (by rfl) T.m_need_number T.F_need_number.kp T.b_need_number (da_cons de_str (da_cons (dv 0) (da_cons de_int (da_cons (de_globI (by rfl) T.c_MOST_PERIOD) da_nil))))))
    (dss_cons (ds_if (dt_w (dw_or (dt_not (dt_val (de_call (ok_is_list T) (hr.mono (by decide)) (by rfl) T.m_is_list T.F_is_list.kp T.b_is_list (da_cons (dv 1) da_nil)))) (dw_or1 (dt_not (dt_val (dn_bi cg_all (by rfl) T.m_all (by decide +kernel) (da_cons (dn_lc rfl sc_need_cuts.nd (LcOk.mk (own := [("cut", 2)]) (blkOk_by (N := ["period", "cuts", "cut"]) (sc := defScope st_need_cuts) (by decide +kernel)) (di_or (di_list (dv 1)) (di_tup (dv 1))) (fun _ _ _ _ _ => (dg_name (i := 2) sc_need_cuts.nd rfl (.inl rfl))) (fun _ _ _ _ _ => dts_nil) (fun _ _ _ _ _ => (de_call (ok_is_cut T) (hr.mono (by decide)) (by rfl) T.m_is_cut T.F_is_cut.kp T.b_is_cut (da_cons (dv 2) (da_cons (dv 0) da_nil)))) (by decide)) s).de da_nil)).de)))))
      (dss_one ds_never)
      dss_nil)
    (dss_cons (ds_if (dt_cmp os_gt (dn_bi cg_len (by rfl) T.m_len (by decide +kernel) (da_cons (dv 1) da_nil)).de (de_globI (by rfl) T.c_MOST_CUTS))
      (dss_one ds_never)
      dss_nil)
    (dss_one (ds_ret (dn_ty cg_tuple (by rfl) T.m_tuple (by decide +kernel) (da_cons (dv 1) da_nil)).de))))), ?_⟩
  · obtain ⟨d, ⟨p, v, e | e, _⟩, _⟩ := h <;> (subst e; rfl)
  · intro ds Q h
    obtain ⟨d, ⟨p, cs, e, ⟨p1, p2, ok, ln⟩, rfl⟩, q⟩ := h
    rcases e with rfl | rfl
    · refine ⟨_, rfl, _, ⟨_, _, _, _, rfl, p1, p2, rfl⟩, ?_⟩
      refine ⟨_, rfl, _, ⟨_, .inl rfl, rfl⟩, _, rfl, ?_⟩
      refine ⟨by rfl, .inl ⟨_, rfl, _, rfl, ?_⟩⟩
      have hln : (cs.map Cut.d).length ≤ 100000 := by rw [List.length_map]; omega
      refine lc_map (fun _ => .bl true) hln (fun x hx A hA => ?_) ?_
      · obtain ⟨c, hc, rfl⟩ := List.mem_map.mp hx
        exact ⟨_, rfl, _, rfl, _, ⟨c, p, rfl, ok c hc, rfl⟩, hA⟩
      · refine ⟨List.replicate cs.length true, ?_, _, rfl, ?_⟩
        · rw [List.map_map]; unfold blsD; rw [List.map_replicate]
          exact congrArg (fun z => [D.lst z]) (List.map_const' (l := cs) (b := D.bl true))
        · have e : (List.replicate cs.length true).all id = true := by simp
          rw [e]
          refine ⟨_, rfl, _, _, rfl, .inl rfl, _, _, rfl, rfl, _, rfl, ?_⟩
          rw [decide_eq_false (by rw [List.length_map]; omega)]
          exact ⟨_, rfl, _, _, rfl, .inl rfl, q⟩
    · refine ⟨_, rfl, _, ⟨_, _, _, _, rfl, p1, p2, rfl⟩, ?_⟩
      refine ⟨_, rfl, _, ⟨_, .inr rfl, rfl⟩, _, rfl, ?_⟩
      refine ⟨by rfl, .inr ⟨_, rfl, _, rfl, ?_⟩⟩
      have hln : (cs.map Cut.d).length ≤ 100000 := by rw [List.length_map]; omega
      refine lc_map (fun _ => .bl true) hln (fun x hx A hA => ?_) ?_
      · obtain ⟨c, hc, rfl⟩ := List.mem_map.mp hx
        exact ⟨_, rfl, _, rfl, _, ⟨c, p, rfl, ok c hc, rfl⟩, hA⟩
      · refine ⟨List.replicate cs.length true, ?_, _, rfl, ?_⟩
        · rw [List.map_map]; unfold blsD; rw [List.map_replicate]
          exact congrArg (fun z => [D.lst z]) (List.map_const' (l := cs) (b := D.bl true))
        · have e : (List.replicate cs.length true).all id = true := by simp
          rw [e]
          refine ⟨_, rfl, _, _, rfl, .inr rfl, _, _, rfl, rfl, _, rfl, ?_⟩
          rw [decide_eq_false (by rw [List.length_map]; omega)]
          exact ⟨_, rfl, _, _, rfl, .inr rfl, q⟩
theorem ok_free_by (T : Tx P K mg a) : FnOk P w K mg base CX0 1 a.f_free_by a.d_free_by ["period", "cover", "end"] (liftSp K fd_free_by) := by
  refine def_ok T.F_free_by sc_free_by (fun ds Q h => ?_) fun cdv A outer s H E hr => ⟨_,
    (dss_cons (ds_unp (dn_bi cg_divmod (by rfl) T.m_divmod (by decide +kernel) (da_cons (dv 2) (da_cons (dv 0) da_nil))).de (dg_tup (n := 2) rfl (dgs_cons (dg_name (i := 3) sc_free_by.nd rfl (.inr rfl)) (dgs_cons (dg_name (i := 4) sc_free_by.nd rfl (.inr rfl)) dgs_nil))))
    (dss_one (ds_ret (dn_lc rfl sc_free_by.nd (LcOk.mk (own := [("phase", 5)]) (blkOk_by (N := ["period", "cover", "end", "whole", "rest", "phase"]) (sc := defScope st_free_by) (by decide +kernel)) (di_range (by rfl) T.m_range (dv 0)) (fun _ _ _ _ _ => (dg_name (i := 5) sc_free_by.nd rfl (.inl rfl))) (fun _ _ _ _ _ => dts_nil) (fun _ _ _ _ _ => (de_op os_sub (de_op os_add (dv 3) (dn_ty cg_int (by rfl) T.m_int (by decide +kernel) (da_cons (de_cmp os_lt (dv 5) (dv 4)) da_nil)).de) (de_ix (dv 1) (dv 5)))) (by decide)) s).de))), ?_⟩
  · obtain ⟨d, ⟨p, cv, x, rfl, _⟩, _⟩ := h; rfl
  · intro ds Q h
    obtain ⟨d, ⟨p, cv, x, rfl, p1, p2, rfl⟩, q⟩ := h
    refine ⟨_, rfl, _, rfl, _, _, rfl, ⟨by omega, by omega⟩, _, rfl, rfl, _, _, rfl, _, _, rfl, rfl, ?_⟩
    refine ⟨by rfl, _, rfl, _, rfl, by omega, by omega, ?_⟩
    rw [rgD]
    have hln : ((rng p id).map D.int).length ≤ 100000 := by rw [List.length_map, rng_len]; omega
    refine lc_map (fun y => match y with | .int i => .int (free p cv x i) | y => y) hln (fun y hy A hA => ?_) ?_
    · obtain ⟨i, hi, rfl⟩ := List.mem_map.mp hy
      obtain ⟨i', h0, h1, e⟩ := rng_mem.mp hi
      have e : i = i' := e
      subst e
      refine ⟨_, rfl, _, rfl, _, rfl, _, _, rfl, rfl, .inr ⟨_, rfl, _, _, rfl, rfl, _, rfl, _, rfl, _, _, _, .inl rfl, rfl, atI_ints h0 (rng_at h0 h1), _, _, rfl, rfl, ?_⟩⟩
      have e : (D.int (x / p + (if decide (i < x % p) = true then 1 else 0) - cv i)) = .int (free p cv x i) := by
        unfold free
        by_cases z : i < x % p <;> simp [z]
      show A (D.int (x / p + (if decide (i < x % p) = true then 1 else 0) - cv i)) 0
      rw [e]
      exact hA
    · rw [List.map_map]
      have e : (rng p id).map ((fun y => match y with | D.int i => D.int (free p cv x i) | y => y) ∘ D.int) = (rng p (free p cv x)).map D.int := by
        unfold rng
        rw [List.map_map, List.map_map]
        rfl
      rw [e]
      exact q
theorem ok_taken_by (T : Tx P K mg a) : FnOk P w K mg base CX0 1 a.f_taken_by a.d_taken_by ["period", "cuts"] (liftSp K fd_taken_by) := by
  refine def_ok T.F_taken_by sc_taken_by (fun ds Q h => ?_) fun cdv A outer s H E hr => ⟨_,
    (dss_cons (ds_set (i := 2) sc_taken_by.nd rfl (.inl rfl) (dv_o (dn_op og_rep (dn_lst (da_cons de_int da_nil)).de (dv 0))))
    (dss_cons (ds_for PassesOwn.never rfl (di_tup (dv 1)) (dg_tup (n := 3) rfl (dgs_cons (dg_name (i := 3) sc_taken_by.nd rfl (.inl rfl)) (dgs_cons (dg_name (i := 4) sc_taken_by.nd rfl (.inl rfl)) (dgs_cons (dg_name (i := 5) sc_taken_by.nd rfl (.inl rfl)) dgs_nil))))
      (dss_cons (ds_unp (dn_bi cg_divmod (by rfl) T.m_divmod (by decide +kernel) (da_cons (dv 3) (da_cons (dv 0) da_nil))).de (dg_tup (n := 2) rfl (dgs_cons (dg_name (i := 6) sc_taken_by.nd rfl (.inl rfl)) (dgs_cons (dg_name (i := 7) sc_taken_by.nd rfl (.inl rfl)) dgs_nil))))
    (dss_one (ds_for PassesOwn.never rfl (di_range (by rfl) T.m_range (dv 0)) (dg_name (i := 8) sc_taken_by.nd rfl (.inl rfl))
      (dss_cons (ds_set (i := 9) sc_taken_by.nd rfl (.inl rfl) (dv_d (de_op os_mod (de_op os_add (dv 4) (dv 8)) (dv 0))))
    (dss_one (ds_seti (i := 2) (de_op os_add (de_ix (dOv 2) (dv 9)) (de_op os_mul (dv 5) (de_op os_add (dv 6) (dn_ty cg_int (by rfl) T.m_int (by decide +kernel) (da_cons (de_cmp os_lt (dv 8) (dv 7)) da_nil)).de))) (pv 2) (dv 9))))))))
    (dss_frz 2 (dss_one (ds_ret (dv 2)))))), ?_⟩
  · obtain ⟨d, ⟨p, cs, rfl, _⟩, _⟩ := h; rfl
  · intro ds Q h
    obtain ⟨d, ⟨p, cs, rfl, ⟨h1, h2, hcs, hl⟩, rfl⟩, q⟩ := h
    refine ⟨by decide, _, rfl, _, _, rfl, rfl, by omega, by omega, by show 1 * p.toNat ≤ 100000; omega, rfl, ?_⟩
    refine ⟨_, rfl, _, rfl, fun j sl k => ∃ a b c d e f g, sl = [.d (.int p), .d (cutsT cs), .own (intsD (rng p (cover p (cs.take j)))), a, b, c, d, e, f, g], ⟨.un, .un, .un, .un, .un, .un, .un, ?_⟩, fun j x sl k hx hI => ?_, fun sl k hI => ?_⟩
    · have e : D.lst (List.replicate p.toNat [D.int 0]).flatten = intsD (rng p (cover p (cs.take 0))) := by
        rw [flat_zero]
        unfold intsD
        rw [← rng_zero]
        rfl
      show [Slot.d (.int p), .d (cutsT cs), .own (D.lst (List.replicate p.toNat [D.int 0]).flatten), _, _, _, _, _, _, _] = _
      rw [e]
    · obtain ⟨a, b, c', d, e, f, g, rfl⟩ := hI
      obtain ⟨c, hc, rfl⟩ := cuts_at hx
      obtain ⟨g1, g2, g3, g4, g5, g6⟩ := hcs c (List.mem_of_getElem? hc)
      refine ⟨_, rfl, rfl, _, _, rfl, _, _, rfl, _, _, rfl, rfl, ?_⟩
      refine ⟨_, rfl, _, rfl, _, _, rfl, ⟨by omega, by omega⟩, _, rfl, rfl, _, _, rfl, _, _, rfl, rfl, ?_⟩
      refine ⟨_, rfl, _, rfl, by omega, by omega, fun m sl k => ∃ f g, sl = [.d (.int p), .d (cutsT cs), .own (intsD (rng p fun q => cover p (cs.take j) q + part p c m q)), .d (.int c.long), .d (.int c.phase), .d (.int c.times), .d (.int (c.long / p)), .d (.int (c.long % p)), f, g], ⟨f, g, ?_⟩, fun m x sl k hx hI => ?_, fun sl k hI => ?_⟩
      · have e : rng p (fun q => cover p (cs.take j) q + part p c 0 q) = rng p (cover p (cs.take j)) := rng_congr fun q _ _ => by
          unfold part
          have := emod_in (a := q - c.phase) (P := p) (by omega)
          rw [if_neg (show ¬ ((q - c.phase) % p < ((0 : Nat) : Int)) by omega), Int.add_zero]
        rw [e]
        rfl
      · obtain ⟨f, g, rfl⟩ := hI
        obtain ⟨hm, rfl⟩ := range_at hx
        rw [Int.zero_add]
        have hm' : (m : Int) < p := by omega
        obtain ⟨z1, z2⟩ := emod_in (a := c.phase + m) (P := p) (by omega)
        refine ⟨_, rfl, _, rfl, _, _, rfl, rfl, _, rfl, _, _, rfl, rfl, by omega, ?_⟩
        refine ⟨_, rfl, _, rfl, _, rfl, _, _, _, .inl rfl, rfl, atI_ints z1 (rng_at z1 z2), ?_⟩
        refine ⟨_, rfl, _, rfl, _, rfl, _, rfl, _, _, rfl, rfl, .inr ⟨_, rfl, _, _, rfl, rfl, _, _, rfl, rfl, .inl ⟨by omega, by omega⟩, _, _, rfl, rfl, _, rfl, (c.phase + m) % p, ((c.phase + m) % p).toNat, rfl, ?_, ?_⟩⟩
        · exact ixN_nn (i := (c.phase + m) % p) z1 (by rw [List.length_map, rng_len]; omega)
        · have e : D.lst (((rng p fun q => cover p (cs.take j) q + part p c m q).map D.int).set ((c.phase + m) % p).toNat (.int (cover p (cs.take j) ((c.phase + m) % p) + part p c m ((c.phase + m) % p) + c.times * (c.long / p + if decide ((m : Int) < c.long % p) = true then 1 else 0)))) = intsD (rng p fun q => cover p (cs.take j) q + part p c (m + 1) q) := by
            rw [intsD_set, rng_set z1 z2]
            congr 1
            refine rng_congr fun q q0 q1 => ?_
            have ha := at_of (p := c.phase) (m := m) (by omega) q0 q1 hm'
            unfold part
            by_cases hq : q = (c.phase + m) % p
            · have h3 := ha.mpr hq
              rw [if_pos hq, ← hq, h3, if_neg (show ¬ ((m : Int) < m) by omega), if_pos (show (m : Int) < ((m + 1 : Nat) : Int) by omega)]
              unfold cnt
              rw [h3]
              by_cases z : (m : Int) < c.long % p <;> simp [z]
            · have h3 : (q - c.phase) % p ≠ m := fun z => hq (ha.mp z)
              rw [if_neg hq]
              by_cases z : (q - c.phase) % p < m
              · rw [if_pos z, if_pos (show (q - c.phase) % p < ((m + 1 : Nat) : Int) by omega)]
              · rw [if_neg z, if_neg (show ¬ ((q - c.phase) % p < ((m + 1 : Nat) : Int)) by omega)]
          exact ⟨_, _, congrArg (fun z => [Slot.d (.int p), .d (cutsT cs), .own z, .d (.int c.long), .d (.int c.phase), .d (.int c.times), .d (.int (c.long / p)), .d (.int (c.long % p)), .d (.int m), .d (.int ((c.phase + m) % p))]) e⟩
      · obtain ⟨f, g, rfl⟩ := hI
        have e : intsD (rng p fun q => cover p (cs.take j) q + part p c ((List.range p.toNat).map fun (j : Nat) => D.int (0 + j)).length q) = intsD (rng p (cover p (cs.take (j + 1)))) := by
          congr 1
          refine rng_congr fun q q0 q1 => ?_
          have := emod_in (a := q - c.phase) (P := p) (by omega)
          rw [take_snoc hc, cover_snoc]
          unfold part
          rw [List.length_map, List.length_range, if_pos (show (q - c.phase) % p < (p.toNat : Int) by omega)]
        rw [e]
        exact ⟨_, _, _, _, _, _, _, rfl⟩
    · obtain ⟨a, b, c, d, e, f, g, rfl⟩ := hI
      rw [List.length_map, List.take_length]
      exact ⟨_, rfl, _, rfl, q⟩
end K90


namespace K90
open PySem PySem.Spec PyProof.Rows L2 DL
variable {P : Program} {w : World} {K : PySem.W.Frag} {mg : Str → Option Value} {base : Heap} {a : Ad}
theorem enum_cuts (p : Int) (cs : List Cut) (f : D → D) (hf : ∀ (c : Cut) (j : Nat), f (.tup [.int (j : Nat), c.d]) = Link.d ⟨c.phase, (c.long + c.phase) % p, "cut", (j : Int)⟩) : (enumD (cs.map Cut.d)).map f = (cutLinks p cs).map Link.d := by
  unfold enumD cutLinks
  rw [List.zipIdx_map, List.map_map, List.map_map, List.map_map]
  apply List.map_congr_left
  intro x _
  exact hf x.1 x.2
theorem turned_ok {p t : Int} {cs : List Cut} (h : CutsOk p cs) : CutsOk p (turned p cs t) := by
  have h1 := h.p1
  refine ⟨h.p1, h.p2, fun c hc => ?_, by unfold turned; rw [List.length_map]; exact h.len⟩
  obtain ⟨c', hc', rfl⟩ := List.mem_map.mp hc
  obtain ⟨g1, g2, g3, g4, g5, g6⟩ := h.ok c' hc'
  obtain ⟨z1, z2⟩ := emod_in (a := c'.phase - t) (P := p) (by omega)
  exact ⟨g1, g2, z1, z2, g5, g6⟩
theorem cnt_law {p : Int} (c : Cut) (q : Int) (hp : 1 ≤ p) (hl : 1 ≤ c.long) : (if c.long ≤ (q - c.phase) % p then 0 else 1 + (c.long - 1 - (q - c.phase) % p) / p) = cnt p c q := by
  obtain ⟨z1, z2⟩ := emod_in (a := q - c.phase) (P := p) (by omega)
  obtain ⟨y1, y2⟩ := emod_in (a := c.long) (P := p) (by omega)
  have hd := Int.emod_add_mul_ediv c.long p
  have hp0 : p ≠ 0 := by omega
  unfold cnt
  generalize (q - c.phase) % p = x at *
  by_cases hx : x < c.long % p
  · rw [if_pos hx]
    have hq : 0 ≤ c.long / p := Int.ediv_nonneg (by omega) (by omega)
    have hge : 0 ≤ p * (c.long / p) := Int.mul_nonneg (by omega) hq
    rw [if_neg (by omega)]
    have e : c.long - 1 - x = (c.long % p - 1 - x) + p * (c.long / p) := by omega
    rw [e, Int.add_mul_ediv_left _ _ hp0, Int.ediv_eq_zero_of_lt (by omega) (by omega)]
    omega
  · rw [if_neg hx]
    by_cases h0 : c.long / p = 0
    · rw [h0] at hd ⊢
      rw [if_pos (by omega)]
      rfl
    · have hq : 0 ≤ c.long / p := Int.ediv_nonneg (by omega) (by omega)
      have hge : p * 1 ≤ p * (c.long / p) := Int.mul_le_mul_of_nonneg_left (by omega) (by omega)
      rw [if_neg (by omega)]
      have e : c.long - 1 - x = (c.long % p - 1 - x + p) + p * (c.long / p - 1) := by
        rw [Int.mul_sub]; omega
      rw [e, Int.add_mul_ediv_left _ _ hp0, Int.ediv_eq_zero_of_lt (by omega) (by omega)]
      omega
theorem rng_snoc {p : Int} {f : Int → Int} {j : Nat} (h : (j : Int) < p) : (rng p f).take (j + 1) = (rng p f).take j ++ [f j] := by
  have := rng_at (P := p) (f := f) (i := j) (by omega) h
  rw [Int.toNat_natCast] at this
  exact take_snoc this
theorem ok_links_by (T : Tx P K mg a) : FnOk P w K mg base CX0 1 a.f_links_by a.d_links_by ["period", "cuts", "free"] (liftSp K fd_links_by) := by
  refine def_ok T.F_links_by sc_links_by (fun ds Q h => ?_) fun cdv A outer s H E hr => ⟨_,
    (dss_cons (ds_setLc (i := 3) (wr := vD) (fun _ _ _ _ z => wr_d z) wm_d rfl sc_links_by.nd rfl rfl (sw_true rfl rfl rfl (by decide +kernel)) (LcOk.mk (own := [("at", 4), ("cut", 5)]) (blkOk_by (N := ["period", "cuts", "free", "found", "at", "cut", "phase"]) (sc := defScope st_links_by) (by decide +kernel)) (di_enumT (by rfl) T.m_enumerate (dv 1)) (fun _ _ _ _ _ => (dg_tup (n := 2) rfl (dgs_cons (dg_name (i := 4) sc_links_by.nd rfl (.inl rfl)) (dgs_cons (dg_name (i := 5) sc_links_by.nd rfl (.inl rfl)) dgs_nil)))) (fun _ _ _ _ _ => dts_nil) (fun _ _ _ _ _ => (de_tup (da_cons (de_ix (dv 5) de_int) (da_cons (de_op os_mod (de_op os_add (de_ix (dv 5) de_int) (de_ix (dv 5) de_int)) (dv 0)) (da_cons de_str (da_cons (dv 4) da_nil)))))) (by decide)) s)
    (dss_one (ds_ret (dn_lst (da_star (dv 3) (da_star (dn_lc rfl sc_links_by.nd (LcOk.mk (own := [("phase", 6)]) (blkOk_by (N := ["period", "cuts", "free", "found", "at", "cut", "phase"]) (sc := defScope st_links_by) (by decide +kernel)) (di_list (dv 2)) (fun _ _ _ _ _ => (dg_name (i := 6) sc_links_by.nd rfl (.inl rfl))) (fun _ _ _ _ _ => dts_nil) (fun _ _ _ _ _ => (de_tup (da_cons (dv 6) (da_cons (de_op os_mod (de_op os_add (dv 6) de_int) (dv 0)) (da_cons de_str (da_cons (dv 6) da_nil)))))) (by decide)) s).de da_nil))).de))), ?_⟩
  · obtain ⟨d, ⟨p, cs, fr, rfl, _⟩, _⟩ := h; rfl
  · intro ds Q h
    obtain ⟨d, ⟨p, cs, fr, rfl, ⟨p1, p2, ok, ln⟩, hfr, rfl⟩, q⟩ := h
    refine ⟨by rfl, _, rfl, _, rfl, ?_⟩
    have hln : (enumD (cs.map Cut.d)).length ≤ 100000 := by rw [enumD_len, List.length_map]; omega
    refine lc_map (fun y => match y with | .tup [.int j, .tup [.int l, .int ph, .int t]] => .tup [.int ph, .int ((l + ph) % p), .str "cut", .int j] | y => y) hln (fun y hy A hA => ?_) ?_
    · obtain ⟨j, hj⟩ := List.getElem?_of_mem hy
      obtain ⟨x, hx, rfl⟩ := enumD_get hj
      obtain ⟨c, hc, rfl⟩ := cuts_at hx
      refine ⟨_, rfl, rfl, _, _, rfl, _, _, rfl, rfl, ?_⟩
      refine ⟨_, rfl, _, _, _, .inr rfl, rfl, rfl, ?_⟩
      refine ⟨_, rfl, _, _, _, .inr rfl, rfl, rfl, _, rfl, _, _, _, .inr rfl, rfl, rfl, _, _, rfl, rfl, _, rfl, _, _, rfl, rfl, by omega, _, rfl, Nat.le_of_ble_eq_true rfl, hA⟩
    · rw [enum_cuts p cs _ fun c j => rfl]
      refine ⟨_, rfl, _, .inl rfl, ?_⟩
      refine ⟨by rfl, _, rfl, _, rfl, ?_⟩
      have hl2 : (fr.map D.int).length ≤ 100000 := by rw [List.length_map]; omega
      refine lc_map (fun y => match y with | .int i => .tup [.int i, .int ((i + 1) % p), .str "wait", .int i] | y => y) hl2 (fun y hy A hA => ?_) ?_
      · obtain ⟨i, hi, rfl⟩ := List.mem_map.mp hy
        exact ⟨_, rfl, _, rfl, _, _, rfl, rfl, _, rfl, _, _, rfl, rfl, by omega, _, rfl, Nat.le_of_ble_eq_true rfl, hA⟩
      · have e : (fr.map D.int).map (fun y => match y with | .int i => .tup [.int i, .int ((i + 1) % p), .str "wait", .int i] | y => y) = (waitLinks p fr).map Link.d := by
          unfold waitLinks
          rw [List.map_map, List.map_map]
          rfl
        rw [e]
        refine ⟨_, .inl rfl, ?_, ?_⟩
        · rw [List.append_nil, List.length_append, List.length_map, List.length_map]
          unfold cutLinks waitLinks
          rw [List.length_map, List.length_map, List.length_zipIdx]
          omega
        · rw [List.append_nil, ← List.map_append]
          exact q
theorem ok_turned_by (T : Tx P K mg a) : FnOk P w K mg base CX0 1 a.f_turned_by a.d_turned_by ["period", "cuts", "begin"] (liftSp K fd_turned_by) := by
  refine def_ok T.F_turned_by sc_turned_by (fun ds Q h => ?_) fun cdv A outer s H E hr => ⟨_,
    (dss_one (ds_ret (dn_ty cg_tuple (by rfl) T.m_tuple (by decide +kernel) (da_cons (dn_lc rfl sc_turned_by.nd (LcOk.mk (own := [("long", 3), ("phase", 4), ("times", 5)]) (blkOk_by (N := ["period", "cuts", "begin", "long", "phase", "times"]) (sc := defScope st_turned_by) (by decide +kernel)) (di_tup (dv 1)) (fun _ _ _ _ _ => (dg_tup (n := 3) rfl (dgs_cons (dg_name (i := 3) sc_turned_by.nd rfl (.inl rfl)) (dgs_cons (dg_name (i := 4) sc_turned_by.nd rfl (.inl rfl)) (dgs_cons (dg_name (i := 5) sc_turned_by.nd rfl (.inl rfl)) dgs_nil))))) (fun _ _ _ _ _ => dts_nil) (fun _ _ _ _ _ => (de_tup (da_cons (dv 3) (da_cons (de_op os_mod (de_op os_sub (dv 4) (dv 2)) (dv 0)) (da_cons (dv 5) da_nil))))) (by decide)) s).de da_nil)).de)), ?_⟩
  · obtain ⟨d, ⟨p, cs, t, rfl, _⟩, _⟩ := h; rfl
  · intro ds Q h
    obtain ⟨d, ⟨p, cs, t, rfl, ⟨p1, p2, ok, ln⟩, rfl⟩, q⟩ := h
    refine ⟨by rfl, _, rfl, _, rfl, ?_⟩
    have hln : (cs.map Cut.d).length ≤ 100000 := by rw [List.length_map]; omega
    refine lc_map (fun y => match y with | .tup [.int l, .int ph, .int x] => .tup [.int l, .int ((ph - t) % p), .int x] | y => y) hln (fun y hy A hA => ?_) ?_
    · obtain ⟨c, hc, rfl⟩ := List.mem_map.mp hy
      refine ⟨_, rfl, rfl, _, _, rfl, _, _, rfl, _, _, rfl, rfl, ?_⟩
      exact ⟨_, rfl, _, rfl, _, rfl, _, _, rfl, rfl, _, rfl, _, _, rfl, rfl, by omega, _, rfl, Nat.le_of_ble_eq_true rfl, hA⟩
    · refine ⟨_, _, rfl, .inl rfl, ?_⟩
      have e : (cs.map Cut.d).map (fun y => match y with | .tup [.int l, .int ph, .int x] => .tup [.int l, .int ((ph - t) % p), .int x] | y => y) = (turned p cs t).map Cut.d := by
        unfold turned
        rw [List.map_map, List.map_map]
        rfl
      rw [e]
      exact q
end K90


namespace K90
open PySem PySem.Spec PyProof.Rows L2 DL
variable {P : Program} {w : World} {K : PySem.W.Frag} {mg : Str → Option Value} {base : Heap} {a : Ad}
theorem if_b {b c : Bool} {p q : Prop} (e : b = c) (h1 : c = true → p) (h2 : c = false → q) : if b = true then p else q := by
  subst e
  cases b with
  | true => exact h1 rfl
  | false => exact h2 rfl
theorem find_keys (ks : List Int) (i : Int) : (((ks.map fun k => ((.inl k : Key), D.bl true)).find? fun kv => decide (kv.1 = .inl i)).map (·.2)).isSome = decide (i ∈ ks) := by
  induction ks with
  | nil => rfl
  | cons k ks ih =>
    rw [List.map_cons, List.find?_cons]
    by_cases h : k = i
    · subst h
      simp
    · have h1 : decide ((Sum.inl k : Key) = .inl i) = false := decide_eq_false fun z => h (Sum.inl.inj z)
      rw [h1]
      show (Option.map _ (List.find? _ (ks.map _))).isSome = _
      rw [ih]
      have h2 : i ≠ k := fun z => h z.symm
      simp [h2]
theorem put_keys {ks : List Int} {i : Int} (h : i ∉ ks) : putD (ks.map fun k => ((.inl k : Key), D.bl true)) (.inl i) (.bl true) = (ks ++ [i]).map fun k => ((.inl k : Key), D.bl true) := by
  unfold putD
  rw [if_neg, List.map_append]
  · rfl
  · intro z
    rw [List.any_eq_true] at z
    obtain ⟨p, hp, e⟩ := z
    obtain ⟨k, hk, rfl⟩ := List.mem_map.mp hp
    have := Sum.inl.inj (of_decide_eq_true e)
    exact h (this ▸ hk)
/-- what is not known yet -/
def lack (eps ks : List Int) : List Int := eps.filter fun e => decide (e ∉ ks)
theorem lack_lt {eps ks : List Int} {i : Int} (h1 : i ∈ eps) (h2 : i ∉ ks) : (lack eps (ks ++ [i])).length < (lack eps ks).length := by
  induction eps with
  | nil => cases h1
  | cons e eps ih =>
    have le : (lack eps (ks ++ [i])).length ≤ (lack eps ks).length := by
      unfold lack
      rw [← List.countP_eq_length_filter, ← List.countP_eq_length_filter]
      refine List.countP_mono_left fun x _ hx => ?_
      have hx := of_decide_eq_true hx
      exact decide_eq_true fun z => hx (List.mem_append_left _ z)
    unfold lack at *
    rw [List.filter_cons, List.filter_cons]
    by_cases he : e = i
    · subst he
      rw [if_neg (by simp), if_pos (by simp [h2]), List.length_cons]
      omega
    · have h3 : i ∈ eps := (List.mem_cons.mp h1).resolve_left fun z => he z.symm
      have ih := ih h3
      by_cases hk : e ∈ ks
      · rw [if_neg (by simp [hk]), if_neg (by simp [hk])]
        exact ih
      · rw [if_pos (by simp [hk, he]), if_pos (by simp [hk]), List.length_cons, List.length_cons]
        omega
def ends (ls : List Link) : List Int := ls.flatMap fun l => [l.a, l.b]
theorem ends_len (ls : List Link) : (ends ls).length = 2 * ls.length := by
  induction ls with
  | nil => rfl
  | cons l ls ih =>
    unfold ends at *
    rw [List.flatMap_cons, List.length_append, ih, List.length_cons]
    show 2 + 2 * ls.length = 2 * (ls.length + 1)
    omega
theorem ends_mem {ls : List Link} {l : Link} (h : l ∈ ls) : l.a ∈ ends ls ∧ l.b ∈ ends ls := by
  unfold ends
  exact ⟨List.mem_flatMap.mpr ⟨l, h, by simp⟩, List.mem_flatMap.mpr ⟨l, h, by simp⟩⟩
theorem Comp.step {ls : List Link} {l : Link} (h : l ∈ ls) : Comp ls l.a ↔ Comp ls l.b := ⟨fun c S h0 hS => (hS l h).mp (c S h0 hS), fun c S h0 hS => (hS l h).mpr (c S h0 hS)⟩
theorem links_at {ls : List Link} {x : D} (h : x ∈ ls.map Link.d) : ∃ l ∈ ls, x = l.d := by
  obtain ⟨l, hl, e⟩ := List.mem_map.mp h
  exact ⟨l, hl, e.symm⟩
def freshP (ks : List Int) (x : D) : Bool := match x with
  | .tup [.int p, .int q, _, _] => !decide ((decide (p ∈ ks)) = decide (q ∈ ks))
  | _ => false
theorem fresh_eq (ks : List Int) (ls : List Link) : ((ls.map Link.d).filter (freshP ks)).map id = (ls.filter fun l => !decide (decide (l.a ∈ ks) = decide (l.b ∈ ks))).map Link.d := by
  rw [List.map_id, List.filter_map]
  rfl
theorem fresh_nil {ks : List Int} {ls : List Link} (h : (ls.filter fun l => !decide (decide (l.a ∈ ks) = decide (l.b ∈ ks))) = []) : ∀ l ∈ ls, l.a ∈ ks ↔ l.b ∈ ks := fun l hl => by
  have := List.filter_eq_nil_iff.mp h l hl
  by_cases h1 : l.a ∈ ks <;> by_cases h2 : l.b ∈ ks <;> simp_all
theorem fresh_cons {ks : List Int} {ls r : List Link} {l : Link} (h : (ls.filter fun l => !decide (decide (l.a ∈ ks) = decide (l.b ∈ ks))) = l :: r) : l ∈ ls ∧ ((l.a ∈ ks ∧ l.b ∉ ks) ∨ (l.a ∉ ks ∧ l.b ∈ ks)) := by
  have hm : l ∈ ls.filter fun l => !decide (decide (l.a ∈ ks) = decide (l.b ∈ ks)) := by rw [h]; exact List.mem_cons_self
  obtain ⟨h1, h2⟩ := List.mem_filter.mp hm
  refine ⟨h1, ?_⟩
  by_cases h3 : l.a ∈ ks <;> by_cases h4 : l.b ∈ ks <;> simp_all
theorem Tree.start (ls : List Link) : Tree ls [0] [] := ⟨rfl, List.nodup_cons.mpr ⟨by simp, List.nodup_nil⟩, fun j r h => by simp at h⟩
theorem Tree.snoc {ls : List Link} {ks : List Int} {rows : List (Int × Str × Int)} {l : Link} {x : Int} (t : Tree ls ks rows) (hl : l ∈ ls) (hx : x ∉ ks) (h : (x = l.b ∧ l.a ∈ ks) ∨ (x = l.a ∧ l.b ∈ ks)) : Tree ls (ks ++ [x]) (rows ++ [(x, l.w, l.n)]) := by
  have hk := t.keys
  refine ⟨by rw [hk, List.map_append]; rfl, ?_, fun j r hr => ?_⟩
  · rw [List.nodup_append]
    exact ⟨t.nd, List.nodup_cons.mpr ⟨by simp, List.nodup_nil⟩, fun y hy z hz => by rw [List.mem_singleton.mp hz]; exact fun e => hx (e ▸ hy)⟩
  · by_cases hj : j < rows.length
    · rw [List.getElem?_append_left hj] at hr
      obtain ⟨m, hm, e1, e2, e3⟩ := t.row j r hr
      rw [List.take_append_of_le_length (Nat.le_of_lt hj)]
      exact ⟨m, hm, e1, e2, e3⟩
    · rw [List.getElem?_append_right (by omega)] at hr
      have h0 : j - rows.length = 0 := by
        have := (List.getElem?_eq_some_iff.mp hr).1
        have e1 : [(x, l.w, l.n)].length = 1 := rfl
        omega
      rw [h0] at hr
      cases hr
      have ej : j = rows.length := by omega
      rw [ej, List.take_left, ← hk]
      exact ⟨l, hl, rfl, rfl, h⟩
theorem ok_grown_from (T : Tx P K mg a) : FnOk P w K mg base CX0 1 a.f_grown_from a.d_grown_from ["links"] (liftSp K fd_grown_from) := by
  refine def_ok T.F_grown_from sc_grown_from (fun ds Q h => ?_) fun cdv A outer s H E hr => ⟨_,
    (dss_cons (ds_parN (is := [1, 2]) rfl (pgs_cons (pg_name (i := 1) sc_grown_from.nd rfl (.inr rfl)) (pgs_cons (pg_name (i := 2) sc_grown_from.nd rfl (.inl rfl)) pgs_nil)) (dvs_cons (dv_o (dn_disp1 (kd := .inl 0) (vd := .bl true) pe_int pe_bl rfl rfl)) (dvs_cons (dv_o (dn_lst (fl := .c) da_nil)) dvs_nil)) (by decide) rfl)
    (dss_one (ds_while PassesOwn.never (dt_val de_bl)
      (dss_cons (ds_setLc (i := 3) (wr := vD) (fun _ _ _ _ z => wr_d z) wm_d rfl sc_grown_from.nd rfl rfl (sw_true rfl rfl rfl (by decide +kernel)) (LcOk.mk (own := [("link", 9)]) (blkOk_by (N := ["links", "found", "rows", "fresh", "one", "other", "word", "number", "phase", "link"]) (sc := defScope st_grown_from) (by decide +kernel)) (di_list (dv 0)) (fun _ _ _ _ _ => (dg_name (i := 9) sc_grown_from.nd rfl (.inl rfl))) (fun _ _ _ _ _ => (dts_one (dt_cmp os_neB (de_din (hu_of hr) (de_ix (dv 9) de_int) (dOv 1)) (de_din (hu_of hr) (de_ix (dv 9) de_int) (dOv 1))))) (fun _ _ _ _ _ => (dv 9)) (by decide)) s)
    (dss_cons (ds_if (dt_not (dt_tru (dv 3)))
      (dss_one (ds_ret (de_tup (da_cons (dOv 1).sd (da_cons (dOv 2).sd da_nil)))))
      dss_nil)
    (dss_cons (ds_unp (de_ix (dv 3) de_int) (dg_tup (n := 4) rfl (dgs_cons (dg_name (i := 4) sc_grown_from.nd rfl (.inl rfl)) (dgs_cons (dg_name (i := 5) sc_grown_from.nd rfl (.inl rfl)) (dgs_cons (dg_name (i := 6) sc_grown_from.nd rfl (.inl rfl)) (dgs_cons (dg_name (i := 7) sc_grown_from.nd rfl (.inl rfl)) dgs_nil))))))
    (dss_cons (ds_set (i := 8) sc_grown_from.nd rfl (.inl rfl) (dv_d (de_if (dt_din (hu_of hr) (dv 4) (dOv 1)) (dv 5) (dv 4))))
    (dss_cons (ds_setk (i := 1) (hu_of hr) de_bl (pv 1) (dv 8))
    (dss_one (ds_append (i := 2) (de_tup (da_cons (dv 8) (da_cons (de_tup (da_cons (dv 6) (da_cons (dv 7) da_nil))) da_nil))) (pv 2))))))))))), ?_⟩
  · obtain ⟨ls, rfl, _⟩ := h; rfl
  · intro ds Q h
    obtain ⟨ls, rfl, hl, q⟩ := h
    refine ⟨rfl, Nat.le_of_ble_eq_true rfl, rfl, rfl, ?_⟩
    refine ⟨fun m sl k => ∃ (ks : List Int) (rows : List (Int × Str × Int)) (b c d e f g : Slot), sl = [.d (.lst (ls.map Link.d)), .own (keysD ks), .own (.lst (rows.map rowD)), b, c, d, e, f, g, .un] ∧ 0 ∈ ks ∧ (∀ k ∈ ks, Comp ls k) ∧ m = (lack (ends ls) ks).length ∧ ks.length + m ≤ 1 + 2 * ls.length ∧ rows.length < ks.length ∧ Tree ls ks rows, ?_, ?_⟩
    · refine ⟨_, [0], [], .un, .un, .un, .un, .un, .un, rfl, List.mem_cons_self, fun k hk => ?_, rfl, ?_, by decide, Tree.start ls⟩
      · rw [List.mem_singleton] at hk
        subst hk
        exact fun S h0 _ => h0
      · have : (lack (ends ls) [0]).length ≤ (ends ls).length := List.length_filter_le _ _
        rw [ends_len] at this
        show 1 + _ ≤ _
        omega
    · rintro m sl k ⟨ks, rows, b, c, d, e, f, g, rfl, h0, hc, hm, hb, hr, ht⟩
      refine ⟨true, rfl, rfl, _, rfl, _, rfl, ?_⟩
      have hln : (ls.map Link.d).length ≤ 100000 := by rw [List.length_map]; omega
      refine lc_fm (freshP ks) id hln (fun x hx A B hA hB => ?_) ?_
      · obtain ⟨l, hl', rfl⟩ := links_at hx
        refine ⟨_, rfl, _, _, _, .inr rfl, rfl, rfl, _, rfl, _, .k _ (.inl l.a), _, rfl, _, _, _, .inr rfl, rfl, rfl, _, rfl, _, .k _ (.inl l.b), _, _, rfl, rfl, _, rfl, ?_⟩
        have ef : freshP ks l.d = !decide (decide (l.a ∈ ks) = decide (l.b ∈ ks)) := rfl
        rw [← find_keys ks l.a, ← find_keys ks l.b] at ef
        exact if_b (c := freshP ks l.d) ef.symm (fun hh => ⟨_, rfl, hA hh⟩) (fun hh => hB hh)
      · rw [fresh_eq]
        cases hF : ls.filter fun l => !decide (decide (l.a ∈ ks) = decide (l.b ∈ ks)) with
        | nil =>
          refine ⟨_, rfl, _, rfl, ?_⟩
          exact ⟨_, rfl, _, rfl, Nat.le_of_ble_eq_true rfl, q _ ⟨ks, rows, rfl, fresh_nil hF, h0, hc, by omega, by omega, ht⟩⟩
        | cons l r =>
          obtain ⟨hl1, hl2⟩ := fresh_cons hF
          refine ⟨_, rfl, _, rfl, ?_⟩
          refine ⟨_, rfl, _, _, _, .inl rfl, rfl, atI_nat (j := 0) rfl, _, rfl, rfl, _, _, rfl, _, _, rfl, _, _, rfl, _, _, rfl, rfl, ?_⟩
          have grow : ∀ x : Int, x ∈ ends ls → x ∉ ks → Comp ls x → ((x = l.b ∧ l.a ∈ ks) ∨ (x = l.a ∧ l.b ∈ ks)) → ∃ m', m' < m ∧ ∃ (ks' : List Int) (rows' : List (Int × Str × Int)) (b c d e f g : Slot), [Slot.d (.lst (ls.map Link.d)), .own (.dK (putD (ks.map fun k => ((.inl k : Key), D.bl true)) (.inl x) (.bl true))), .own (.lst (rows.map rowD ++ [.tup [.int x, .tup [.str l.w, .int l.n]]])), .d (.lst ((l :: r).map Link.d)), .d (.int l.a), .d (.int l.b), .d (.str l.w), .d (.int l.n), .d (.int x), .un] = [.d (.lst (ls.map Link.d)), .own (keysD ks'), .own (.lst (rows'.map rowD)), b, c, d, e, f, g, .un] ∧ 0 ∈ ks' ∧ (∀ k ∈ ks', Comp ls k) ∧ m' = (lack (ends ls) ks').length ∧ ks'.length + m' ≤ 1 + 2 * ls.length ∧ rows'.length < ks'.length ∧ Tree ls ks' rows' := by
            intro x hx hxk hcx hlx
            have lt := lack_lt hx hxk
            refine ⟨(lack (ends ls) (ks ++ [x])).length, by omega, ks ++ [x], rows ++ [(x, l.w, l.n)], .d (.lst ((l :: r).map Link.d)), .d (.int l.a), .d (.int l.b), .d (.str l.w), .d (.int l.n), .d (.int x), ?_, List.mem_append_left _ h0, fun k hk => ?_, rfl, ?_, ?_, ht.snoc hl1 hxk hlx⟩
            · have e1 : D.dK (putD (ks.map fun k => ((.inl k : Key), D.bl true)) (.inl x) (.bl true)) = keysD (ks ++ [x]) := by rw [put_keys hxk]; rfl
              have e2 : D.lst (rows.map rowD ++ [.tup [.int x, .tup [.str l.w, .int l.n]]]) = D.lst ((rows ++ [(x, l.w, l.n)]).map rowD) := by rw [List.map_append]; rfl
              rw [e1, e2]
            · rcases List.mem_append.mp hk with z | z
              · exact hc k z
              · rw [List.mem_singleton] at z
                rw [z]; exact hcx
            · rw [List.length_append]
              show _ + 1 + _ ≤ _
              omega
            · rw [List.length_append, List.length_append]
              show _ + 1 < _ + 1
              omega
          refine ⟨_, rfl, _, rfl, _, .k _ (.inl l.a), _, rfl, ?_⟩
          have ef := find_keys ks l.a
          refine if_b (c := decide (l.a ∈ ks)) ef (fun hh => ?_) (fun hh => ?_)
          · have hh := of_decide_eq_true hh
            obtain ⟨g1, g2⟩ := hl2.resolve_right fun z => z.1 hh
            refine ⟨_, rfl, _, rfl, _, rfl, ?_, _, .k _ (.inl l.b) _, _, rfl, _, rfl, _, rfl, _, rfl, Nat.le_of_ble_eq_true rfl, Nat.le_of_ble_eq_true rfl, ?_, grow _ (ends_mem hl1).2 g2 ((Comp.step hl1).mp (hc _ hh)) (.inl ⟨rfl, hh⟩)⟩
            · show (ks.map _).length < 100000
              rw [List.length_map]; omega
            · show (rows.map rowD).length < 100000
              rw [List.length_map]; omega
          · have hh := of_decide_eq_false hh
            obtain ⟨g1, g2⟩ := hl2.resolve_left fun z => hh z.1
            refine ⟨_, rfl, _, rfl, _, rfl, ?_, _, .k _ (.inl l.a) _, _, rfl, _, rfl, _, rfl, _, rfl, Nat.le_of_ble_eq_true rfl, Nat.le_of_ble_eq_true rfl, ?_, grow _ (ends_mem hl1).1 hh ((Comp.step hl1).mpr (hc _ g2)) (.inr ⟨rfl, g2⟩)⟩
            · show (ks.map _).length < 100000
              rw [List.length_map]; omega
            · show (rows.map rowD).length < 100000
              rw [List.length_map]; omega
theorem last_of {p m q0 : Int} {cov : Int → Int} (p1 : 1 ≤ p) (q1 : 0 ≤ q0) (q2 : q0 < p) (hq : cov q0 = m) : ∃ xs l, (((rng p id).map D.int).filter (fun y => match y with | .int i => decide (cov i = m) | _ => false)).map id = xs ++ [.int l] ∧ 0 ≤ l ∧ l < p ∧ cov l = m ∧ ∀ r, l < r → r < p → cov r ≠ m := by
  have e0 : (((rng p id).map D.int).filter (fun y => match y with | .int i => decide (cov i = m) | _ => false)).map id = ((rng p id).filter fun i => decide (cov i = m)).map D.int := by
    rw [List.map_id, List.filter_map]
    rfl
  have hne : ((rng p id).filter fun i => decide (cov i = m)) ≠ [] := fun z => by
    have hm : q0 ∈ (rng p id).filter fun i => decide (cov i = m) := List.mem_filter.mpr ⟨rng_mem.mpr ⟨q0, q1, q2, rfl⟩, decide_eq_true hq⟩
    rw [z] at hm; cases hm
  have hd := List.dropLast_concat_getLast hne
  have hl := List.getLast_mem hne
  obtain ⟨h1, h2⟩ := List.mem_filter.mp hl
  obtain ⟨l, l0, l1, le⟩ := rng_mem.mp h1
  have hs : ((rng p id).filter fun i => decide (cov i = m)).Pairwise (· < ·) := by
    refine List.Pairwise.filter _ ?_
    unfold rng
    rw [List.pairwise_map]
    refine List.Pairwise.imp ?_ List.pairwise_lt_range
    intro a b hab
    show (a : Int) < b
    omega
  generalize hL : ((rng p id).filter fun i => decide (cov i = m)).getLast hne = L at *
  have hLl : L = l := le
  subst hLl
  refine ⟨((rng p id).filter fun i => decide (cov i = m)).dropLast.map D.int, L, ?_, l0, l1, of_decide_eq_true h2, fun r hr r1 hcr => ?_⟩
  · rw [e0]
    conv => lhs; rw [← hd]
    rw [List.map_append]
    rfl
  · have hm : r ∈ (rng p id).filter fun i => decide (cov i = m) := List.mem_filter.mpr ⟨rng_mem.mpr ⟨r, by omega, r1, rfl⟩, decide_eq_true hcr⟩
    rw [← hd] at hm hs
    rcases List.mem_append.mp hm with z | z
    · have := (List.pairwise_append.mp hs).2.2 r z L (List.mem_singleton.mpr rfl)
      omega
    · rw [List.mem_singleton] at z
      omega
theorem div_of {p a l : Int} (h0 : 0 ≤ l) (h1 : l < p) : (a * p + l) / p = a ∧ (a * p + l) % p = l := by
  have hp : p ≠ 0 := by omega
  constructor
  · rw [Int.add_comm, Int.add_mul_ediv_right _ _ hp, Int.ediv_eq_zero_of_lt h0 h1, Int.zero_add]
  · rw [Int.add_comm, Int.add_mul_emod_self_right, Int.emod_eq_of_lt h0 h1]
theorem covered_ok {p m l : Int} {cov : Int → Int} (p1 : 1 ≤ p) (hmax : ∀ r, 0 ≤ r → r < p → cov r ≤ m) (hm : 1 ≤ m) (l0 : 0 ≤ l) (l1 : l < p) (l2 : cov l = m) (l3 : ∀ r, l < r → r < p → cov r ≠ m) :
    (∀ q, 0 ≤ q → q < p → 0 ≤ free p cov ((m - 1) * p + l + 1) q) ∧ ∀ e, 0 ≤ e → e < (m - 1) * p + l + 1 → ∃ q, 0 ≤ q ∧ q < p ∧ free p cov e q < 0 := by
  constructor
  · intro q q0 q1
    unfold free
    by_cases hl : l + 1 = p
    · have e : (m - 1) * p + l + 1 = m * p + 0 := by rw [Int.sub_mul]; omega
      obtain ⟨d1, d2⟩ := div_of (p := p) (a := m) (l := 0) (by omega) (by omega)
      rw [e, d1, d2, if_neg (by omega)]
      have := hmax q q0 q1
      omega
    · obtain ⟨d1, d2⟩ := div_of (p := p) (a := m - 1) (l := l + 1) (by omega) (by omega)
      rw [Int.add_assoc, d1, d2]
      by_cases hq : q < l + 1
      · rw [if_pos hq]
        have := hmax q q0 q1
        omega
      · rw [if_neg hq]
        have := hmax q q0 q1
        have := l3 q (by omega) q1
        omega
  · intro e e0 e1
    refine ⟨l, l0, l1, ?_⟩
    unfold free
    have hd := Int.emod_add_mul_ediv e p
    obtain ⟨z1, z2⟩ := emod_in (a := e) (P := p) (by omega)
    rw [l2]
    by_cases hlt : e / p ≤ m - 2
    · by_cases hq : l < e % p
      · rw [if_pos hq]; omega
      · rw [if_neg hq]; omega
    · have h2 : m - 1 ≤ e / p := by omega
      have h3 : p * (m - 1) ≤ p * (e / p) := Int.mul_le_mul_of_nonneg_left h2 (by omega)
      have h4 : p * (m - 1) = (m - 1) * p := Int.mul_comm _ _
      have h5 : e / p ≤ m - 1 := by
        by_cases z : e / p ≤ m - 1
        · exact z
        · have h6 : p * m ≤ p * (e / p) := Int.mul_le_mul_of_nonneg_left (by omega) (by omega)
          have h7 : p * (m - 1) = p * m - p := by rw [Int.mul_sub]; omega
          omega
      have h8 : e / p = m - 1 := by omega
      rw [h8] at hd ⊢
      rw [if_neg (by omega)]
      omega
theorem ok_covered_end (T : Tx P K mg a) : FnOk P w K mg base CX0 1 a.f_covered_end a.d_covered_end ["period", "cover"] (liftSp K fd_covered_end) := by
  refine def_ok T.F_covered_end sc_covered_end (fun ds Q h => ?_) fun cdv A outer s H E hr => ⟨_,
    (dss_cons (ds_set (i := 2) sc_covered_end.nd rfl (.inr rfl) (dv_d (dn_bi cg_max (by rfl) T.m_max (by decide +kernel) (da_cons (dv 1) da_nil)).de))
    (dss_cons (ds_if (dt_cmp (os_eq hr.units) (dv 2) de_int)
      (dss_one (ds_ret de_int))
      dss_nil)
    (dss_cons (ds_set (i := 3) sc_covered_end.nd rfl (.inl rfl) (dv_d (de_ix (dn_lc rfl sc_covered_end.nd (LcOk.mk (own := [("phase", 4)]) (blkOk_by (N := ["period", "cover", "most", "last", "phase"]) (sc := defScope st_covered_end) (by decide +kernel)) (di_range (by rfl) T.m_range (dv 0)) (fun _ _ _ _ _ => (dg_name (i := 4) sc_covered_end.nd rfl (.inl rfl))) (fun _ _ _ _ _ => (dts_one (dt_cmp (os_eq hr.units) (de_ix (dv 1) (dv 4)) (dv 2)))) (fun _ _ _ _ _ => (dv 4)) (by decide)) s).de (de_neg de_int))))
    (dss_one (ds_ret (de_op os_add (de_op os_add (de_op os_mul (de_op os_sub (dv 2) de_int) (dv 0)) (dv 3)) de_int)))))), ?_⟩
  · obtain ⟨i, rfl, _⟩ := h; rfl
  · intro ds Q h
    obtain ⟨⟨p, cov⟩, rfl, ⟨p1, p2, hcov⟩, q⟩ := h
    dsimp only at p1 p2 hcov q
    refine ⟨_, rfl, _, rfl, by rw [rng_len]; dsimp only; omega, fun m hm hmax => ?_⟩
    dsimp only at hm hmax
    refine ⟨_, rfl, .inl ⟨_, _, rfl, rfl, _, rfl, ?_⟩⟩
    obtain ⟨q0, q1, q2, hq0⟩ := rng_mem.mp hm
    by_cases hz : m = 0
    · rw [if_pos (by simp [hz])]
      refine q _ ⟨0, rfl, by omega, fun r r0 r1 => ?_, fun e e0 e1 => by omega⟩
      have := hmax (cov r) (rng_mem.mpr ⟨r, r0, r1, rfl⟩)
      unfold free
      rw [Int.zero_ediv, Int.zero_emod, if_neg (by omega)]
      omega
    · rw [if_neg (by simp [hz])]
      refine ⟨by rfl, _, rfl, _, rfl, by omega, by omega, ?_⟩
      rw [rgD]
      have hln : ((rng p id).map D.int).length ≤ 100000 := by rw [List.length_map, rng_len]; omega
      refine lc_fm (fun y => match y with | .int i => decide (cov i = m) | _ => false) id hln (fun y hy A B hA hB => ?_) ?_
      · obtain ⟨i, hi, rfl⟩ := List.mem_map.mp hy
        obtain ⟨i', h0, h1, e⟩ := rng_mem.mp hi
        have e : i = i' := e
        subst e
        refine ⟨_, rfl, _, rfl, _, _, _, .inl rfl, rfl, atI_ints h0 (rng_at h0 h1), _, rfl, .inl ⟨_, _, rfl, rfl, _, rfl, ?_⟩⟩
        show if decide (cov i = m) = true then _ else _
        by_cases hc : cov i = m
        · rw [if_pos (decide_eq_true hc)]
          exact ⟨_, rfl, hA (decide_eq_true hc)⟩
        · rw [if_neg (by rw [decide_eq_false hc]; intro z; cases z)]
          exact hB (decide_eq_false hc)
      · have hlast : ∃ xs l, (((rng p id).map D.int).filter (fun y => match y with | .int i => decide (cov i = m) | _ => false)).map id = xs ++ [.int l] ∧ 0 ≤ l ∧ l < p ∧ cov l = m ∧ ∀ r, l < r → r < p → cov r ≠ m := by
          exact last_of p1 q1 q2 hq0.symm
        obtain ⟨xs, l, e, l0, l1, l2, l3⟩ := hlast
        rw [e]
        refine ⟨_, rfl, _, _, _, .inl rfl, rfl, atI_last _ _, ?_⟩
        refine ⟨_, rfl, _, _, rfl, rfl, _, rfl, _, _, rfl, rfl, .inr ⟨by show _ < p; omega, by show p < _; omega⟩, _, rfl, _, _, rfl, rfl, _, _, rfl, rfl, ?_⟩
        refine q _ ⟨(m - 1) * p + l + 1, rfl, ?_, covered_ok p1 (fun r r0 r1 => hmax _ (rng_mem.mpr ⟨r, r0, r1, rfl⟩)) (by have := hcov q0 q1 q2; omega) l0 l1 l2 l3⟩
        have h1 : 0 ≤ (m - 1) * p := Int.mul_nonneg (by have := hcov q0 q1 q2; omega) (by omega)
        omega
end K90


namespace K90
open PySem PySem.Spec PyProof.Rows L2 DL
variable {P : Program} {w : World} {K : PySem.W.Frag} {mg : Str → Option Value} {base : Heap} {a : Ad}
/-! ### copied -/
mutual
def copyD : D → D
  | .lst xs => .tup (copyL xs)
  | .tup xs => .tup (copyL xs)
  | d => d
def copyL : List D → List D
  | [] => []
  | x :: xs => copyD x :: copyL xs
end
theorem copyL_map : ∀ xs : List D, copyL xs = xs.map copyD
  | [] => rfl
  | x :: xs => by unfold copyL; rw [copyL_map xs]; rfl
/-- so deep at most -/
def Cp : Nat → D → Prop
  | 0, _ => False
  | n + 1, .lst xs => xs.length ≤ 100000 ∧ ∀ x ∈ xs, Cp n x
  | n + 1, .tup xs => xs.length ≤ 100000 ∧ ∀ x ∈ xs, Cp n x
  | _ + 1, .non => True
  | _ + 1, .bl _ => True
  | _ + 1, .int _ => True
  | _ + 1, .str _ => True
  | _ + 1, _ => False
def fdC (n : Nat) : FD := FD.fn fun ds d => ∃ x, ds = [x] ∧ Cp n x ∧ d = copyD x
theorem kitAny2 {t : String} {b c : Bool} (h1 : kitB t "list" = some b) (h2 : kitB t "tuple" = some c) : PySem.W.kitAny K (.type t) [.type "list", .type "tuple"] = some (b || c) := by
  unfold PySem.W.kitAny
  rw [kit_ty h1]
  cases b with
  | true => rfl
  | false =>
    unfold PySem.W.kitAny
    rw [kit_ty h2]
    cases c with
    | true => rfl
    | false => rfl
theorem ok_copied (T : Tx P K mg a) : ∀ n, FnOk P w K mg base CX0 n a.f_copied a.d_copied ["value"] (liftSp K (fdC n))
  | 0 => ⟨fun vs H Q E h => by obtain ⟨_, _, _, _, _, ⟨_, _, h, _⟩, _⟩ := h; exact h.elim, fun A outer s H args us vs Q E _ _ _ _ h => by obtain ⟨_, _, _, _, _, ⟨_, _, h, _⟩, _⟩ := h; exact h.elim⟩
  | n + 1 => by
    have G := ok_copied T n
    refine def_ok T.F_copied sc_copied (fun ds Q h => ?_) fun cdv A outer s H E hr => ⟨_,
      (dss_cons (ds_if (dt_val (dn_bi cg_isiT (by rfl) T.m_isinstance (by decide +kernel) (da_cons (dv 0) (da_cons (de_tup (da_cons (de_ty "list" (by rfl) T.m_list (by decide +kernel)) (da_cons (de_ty "tuple" (by rfl) T.m_tuple (by decide +kernel)) da_nil))) da_nil))).de)
        (dss_one (ds_ret (dn_ty cg_tuple (by rfl) T.m_tuple (by decide +kernel) (da_cons (dn_lc rfl sc_copied.nd (LcOk.mk (own := [("one", 2)]) (blkOk_by (N := ["value", "key", "one"]) (sc := defScope st_copied) (by decide +kernel)) (di_or (di_list (dv 0)) (di_tup (dv 0))) (fun _ _ _ _ _ => (dg_name (i := 2) sc_copied.nd rfl (.inl rfl))) (fun _ _ _ _ _ => dts_nil)
          (fun _ _ _ _ _ => (de_call G hr (by rfl) T.m_copied T.F_copied.kp T.b_copied (da_cons (dv 2) da_nil))) (by decide)) s).de da_nil)).de))
        dss_nil)
      (dss_cons (ds_if (dt_val (dn_bi cg_isi (by rfl) T.m_isinstance (by decide +kernel) (da_cons (dv 0) (da_cons (de_ty "dict" (by rfl) T.m_dict (by decide +kernel)) da_nil))).de) (dss_one ds_never) dss_nil)
      (dss_one (ds_ret (dv 0))))), ?_⟩
    · obtain ⟨d, ⟨x, rfl, _⟩, _⟩ := h; rfl
    · intro ds Q h
      obtain ⟨d, ⟨x, rfl, hc, rfl⟩, q⟩ := h
      have seq : ∀ xs : List D, xs.length ≤ 100000 → (∀ x ∈ xs, Cp n x) → Q (.tup (copyL xs)) → dLcIn (gdName 2) dYes (dCall (fdC n) (dCons (dV 2) dNil)) [2] (startS ["value", "key", "one"] [x]) (fun d k' => dNil (startS ["value", "key", "one"] [x]) k' fun ys k2 => rTupleD (d :: ys) fun z => Q z) xs 0 := fun xs h1 h2 q => by
        refine lc_map copyD h1 (fun y hy A hA => ⟨_, rfl, _, ⟨y, rfl, h2 y hy, rfl⟩, hA⟩) ?_
        refine ⟨_, _, rfl, .inl rfl, ?_⟩
        rw [← copyL_map]
        exact q
      cases x with
      | lst xs =>
        obtain ⟨h1, h2⟩ := hc
        refine ⟨_, rfl, Nat.le_of_ble_eq_true rfl, _, [.ty "list", .ty "tuple"], _, _, true, rfl, .cons (.ty _) (.cons (.ty _) .nil), .lst xs, kitAny2 (b := true) (c := false) (by decide +kernel) (by decide +kernel), true, rfl, by rfl, .inl ⟨_, rfl, xs, rfl, ?_⟩⟩
        exact seq xs h1 h2 q
      | tup xs =>
        obtain ⟨h1, h2⟩ := hc
        refine ⟨_, rfl, Nat.le_of_ble_eq_true rfl, _, [.ty "list", .ty "tuple"], _, _, true, rfl, .cons (.ty _) (.cons (.ty _) .nil), .tup xs, kitAny2 (b := false) (c := true) (by decide +kernel) (by decide +kernel), true, rfl, by rfl, .inr ⟨_, rfl, xs, rfl, ?_⟩⟩
        exact seq xs h1 h2 q
      | non => exact ⟨_, rfl, Nat.le_of_ble_eq_true rfl, _, [.ty "list", .ty "tuple"], _, _, false, rfl, .cons (.ty _) (.cons (.ty _) .nil), .non, kitAny2 (b := false) (c := false) (by decide +kernel) (by decide +kernel), false, rfl, _, rfl, _, _, _, _, false, rfl, .ty _, .non, kit_ty (by decide +kernel), false, rfl, _, rfl, q⟩
      | bl b => exact ⟨_, rfl, Nat.le_of_ble_eq_true rfl, _, [.ty "list", .ty "tuple"], _, _, false, rfl, .cons (.ty _) (.cons (.ty _) .nil), .bl b, kitAny2 (b := false) (c := false) (by decide +kernel) (by decide +kernel), false, rfl, _, rfl, _, _, _, _, false, rfl, .ty _, .bl b, kit_ty (by decide +kernel), false, rfl, _, rfl, q⟩
      | int b => exact ⟨_, rfl, Nat.le_of_ble_eq_true rfl, _, [.ty "list", .ty "tuple"], _, _, false, rfl, .cons (.ty _) (.cons (.ty _) .nil), .int b, kitAny2 (b := false) (c := false) (by decide +kernel) (by decide +kernel), false, rfl, _, rfl, _, _, _, _, false, rfl, .ty _, .int b, kit_ty (by decide +kernel), false, rfl, _, rfl, q⟩
      | str b => exact ⟨_, rfl, Nat.le_of_ble_eq_true rfl, _, [.ty "list", .ty "tuple"], _, _, false, rfl, .cons (.ty _) (.cons (.ty _) .nil), .str b, kitAny2 (b := false) (c := false) (by decide +kernel) (by decide +kernel), false, rfl, _, rfl, _, _, _, _, false, rfl, .ty _, .str b, kit_ty (by decide +kernel), false, rfl, _, rfl, q⟩
      | _ => exact hc.elim
/-! ### the base of all papers -/
def spP1 (K : PySem.W.Frag) : Sp := fun vs H Q _ => ∃ (x p C dx : Addr) (rest : List V) (A : AS) (ds : List D), vs = [.ref x, .ref p] ∧ H x = some (.ins C dx []) ∧ Cls K C ∧ NoAttr K C "own_parts" ∧ H p = some (.tup rest) ∧ (∀ b, A b → H b ≠ none) ∧ A x ∧ RepL K A H ds rest ∧ Cp 7 (.tup ds) ∧
  ∀ H' v, (∀ b o, b ≠ x → H b = some o → H' b = some o) → H' x = some (.ins C dx [("own_parts", v)]) → Rep K A H' (copyD (.tup ds)) A v → Q .non H'
def spP (K : PySem.W.Frag) : Sp := fun vs H Q E => ∃ ws rest, vs = ws ++ rest ∧ ws.length = (["self"] : List Str).length ∧ rest.length ≤ sizeLine ∧ ∀ p, H p = none → spP1 K (ws ++ [V.ref p]) (upd H p (HO.tup rest)) Q E
theorem ok_Paperinit (T : Tx P K mg a) : FnR P w K mg base CX0 8 a.f_Paperinit (spP K) := by
  obtain ⟨oc, od, kV, doc, pm, an, cdv, ct, osl, _, lk, hcd⟩ := T.F_Paperinit.ex
  have hd : a.d_Paperinit = W.fnOf "__init__" "Paper.__init__" (defArgs st_Paperinit) (defBody st_Paperinit) (defScope st_Paperinit) Value.none kV doc pm an cdv ct := by assumption
  rw [hd] at lk
  refine StX.fn_star (N := ["self", "parts"]) (ps := ["self"]) (pv := "parts") (sp := spP1 K) lk hcd sc_Paperinit (fun _ _ _ _ _ _ _ _ _ _ _ h => h) (fun us rest h => StX.bind_star1 (B := fun us => bindArgs (W.fnOf "__init__" "Paper.__init__" (defArgs st_Paperinit) (defBody st_Paperinit) (defScope st_Paperinit) Value.none kV doc pm an cdv ct) { pos := us }) (fun _ => rfl) (fun _ _ _ => rfl) us rest h) fun A outer s H vs Q E hr h => ?_
  obtain ⟨x, p, C, dx, rest, A', ds, rfl, hx, hcl, hno, hp, hA, nA, r, hc, q⟩ := h
  refine ⟨_, pss_one (ps_fld (pv 0) (pe_call (ok_copied T 7) hr (by rfl) T.m_copied T.F_copied.kp T.b_copied .nil pass0 (pa_cons (pv 1) pa_nil)) rfl), ?_⟩
  refine ⟨_, rfl, A', [.tup ds], hA, ⟨_, _, rfl, ⟨p, rest, rfl, hp, r⟩, rfl⟩, _, ⟨_, rfl, hc, rfl⟩, fun v H1 sm rv => ?_⟩
  refine ⟨_, rfl, x, C, dx, [], rfl, sm x _ hx, hcl, hno, by show 0 < 1000; decide, ?_⟩
  refine q _ v (fun b o nb e => ?_) upd_same ?_
  · rw [upd_ne nb]; exact sm b o e
  · have lp : LeA (fun b => b = x) H1 (upd H1 x (.ins C dx [("own_parts", v)])) := LeA.put (sm x _ hx) rfl trivial trivial
    have mm : Mv H1 (upd H1 x (.ins C dx [("own_parts", v)])) A' A' := Mv.le lp (fun b z => by rw [z]; exact nA) fun _ z => .inl z
    exact Rep.mv mm _ mm rv
/-! ### the papers -/
theorem sup_env {X : Cx} (T : Tx P X.K X.mg a) : X.mg "super" = none := T.m_super
def R_Laid : List D → List (Str × D) → Prop := fun ds fs => ∃ y1 y2, ds = [y1, y2] ∧ Cp 6 y1 ∧ Cp 6 y2 ∧ fs = [(("own_parts" : Str), .tup [copyD y1, copyD y2]), ("waits", copyD y1), ("tree", copyD y2)]
theorem ok_Laidinit (T : Tx P K mg a) : FnOk P w K mg base CX0 9 a.f_Laidinit a.d_Laidinit ["self", "waits", "tree"] (spIns K a.C_Laid R_Laid) := by
  obtain ⟨⟨oc, od, kV, doc, pm, an, ca, ct, osl, cc, ccl, cdd, vs0, ccs, file, tf, cl, cld, csl, hfd, lk, hcd, lca, lvs, lfi, lcc⟩, htop⟩ := T.S_Laid
  obtain ⟨⟨cdC, hC⟩, hmro, hsup⟩ := T.kc_Laid
  rw [hfd] at lk ⊢
  refine fn_sup (N := ["self", "waits", "tree"]) lk hcd sc_Laidinit lcc (fun vs H Q E h => ?_) fun A outer s H vs Q E hr h => ?_
  · obtain ⟨x, dx, ws, A, ds, fs, rfl, _, _, _, r, ⟨y1, y2, rfl, _⟩, _⟩ := h
    obtain ⟨v1, w1, rfl, r1, v2, w2, rfl, r2, e⟩ := r
    have e : w2 = [] := e
    subst e
    rfl
  · obtain ⟨x, dx, ws, A', ds, fs, rfl, hx, hA, nA, r, ⟨y1, y2, rfl, c1, c2, rfl⟩, q⟩ := h
    obtain ⟨v1, w1, rfl, r1, v2, w2, rfl, r2, e⟩ := r
    have e : w2 = [] := e
    subst e
    refine ⟨_, pss_super (C := a.C_Laid) rfl rfl rfl rfl lk rfl rfl rfl rfl lca lvs lfi htop rfl lcc hC hC hmro T.m_super T.opaq hsup T.t_Paperinit T.n_Paperinit (ok_Paperinit T) hr (pa_cons (pv 1) (pa_cons (pv 2) pa_nil))
      (pss_cons (ps_fld (pv 0) (pe_ix ix_tup (pe_fld (pv 0) rfl) pe_int (fun _ _ => rfl)) rfl) (pss_one (ps_fld (pv 0) (pe_ix ix_tup (pe_fld (pv 0) rfl) pe_int (fun _ _ => rfl)) rfl))), ?_⟩
    refine ⟨x, dx, [], rfl, hx, v1, rfl, v2, rfl, [.ref x], [v1, v2], rfl, rfl, Nat.le_of_ble_eq_true rfl, fun p hp => ⟨x, p, a.C_Laid, dx, [v1, v2], A', [y1, y2], rfl, by rw [upd_ne (ne_of_none hx hp)]; exact hx, T.cl_Laid, T.n_Laid_own_parts, upd_same, fun b hb => ?_, nA, ?_, ⟨Nat.le_of_ble_eq_true rfl, fun u hu => ?_⟩, fun H' v hk hx' rv => ?_⟩⟩
    · exact (LeA.new (A := fun _ => False) hp).ne (hA b hb)
    · exact RepL.mv (Mv.le (P := fun _ => False) (LeA.new hp) (fun _ z => z.elim) fun _ z => .inl z) [y1, y2] ⟨v1, _, rfl, r1, v2, _, rfl, r2, rfl⟩
    · simp only [List.mem_cons, List.not_mem_nil, or_false] at hu
      rcases hu with rfl | rfl
      · exact c1
      · exact c2
    · obtain ⟨p2, us, rfl, tp, u1, us1, rfl, ru1, u2, us2, rfl, ru2, e⟩ := rv
      have e : us2 = [] := e
      subst e
      have npx : p2 ≠ x := fun z => by
        have tp' : H' p2 = _ := tp
        rw [z, hx'] at tp'; cases tp'
      refine ⟨.ref x, rfl, x, a.C_Laid, dx, _, .ref p2, rfl, hx', T.cl_Laid, T.n_Laid_own_parts, rfl, p2, _, 0, u1, rfl, rfl, .inl (.inl tp), rfl, .ref x, rfl, x, a.C_Laid, dx, _, rfl, hx', T.cl_Laid, T.n_Laid_waits, by show 1 < 1000; decide, ?_⟩
      refine ⟨.ref x, rfl, x, a.C_Laid, dx, _, .ref p2, rfl, upd_same, T.cl_Laid, T.n_Laid_own_parts, rfl, p2, _, 1, u2, rfl, rfl, .inl (.inl (by show ((upd H' x (.ins a.C_Laid dx [("own_parts", .ref p2), ("waits", u1)])) : Hp) p2 = _; rw [upd_ne npx]; exact tp)), rfl, .ref x, rfl, x, a.C_Laid, dx, _, rfl, upd_same, T.cl_Laid, T.n_Laid_tree, by show 2 < 1000; decide, ?_⟩
      have l1 : LeA (fun b => b = x) H' (upd H' x (.ins a.C_Laid dx [("own_parts", .ref p2), ("waits", u1)])) := LeA.put hx' rfl trivial trivial
      have l2 : LeA (fun b => b = x) (upd H' x (.ins a.C_Laid dx [("own_parts", .ref p2), ("waits", u1)])) (upd (upd H' x (.ins a.C_Laid dx [("own_parts", .ref p2), ("waits", u1)])) x (.ins a.C_Laid dx [("own_parts", .ref p2), ("waits", u1), ("tree", u2)])) := LeA.put upd_same rfl trivial trivial
      have mm : Mv H' (upd (upd H' x (.ins a.C_Laid dx [("own_parts", .ref p2), ("waits", u1)])) x (.ins a.C_Laid dx [("own_parts", .ref p2), ("waits", u1), ("tree", u2)])) A' A' := Mv.le (l1.trans l2) (fun b z => by rw [z]; exact nA) fun _ z => .inl z
      refine q _ [("own_parts", .ref p2), ("waits", u1), ("tree", u2)] (fun b o nb e => ?_) upd_same ⟨_, _, rfl, Rep.mv mm (.tup [copyD y1, copyD y2]) mm ⟨p2, _, rfl, tp, _, _, rfl, ru1, _, _, rfl, ru2, rfl⟩, _, _, rfl, Rep.mv mm _ mm ru1, _, _, rfl, Rep.mv mm _ mm ru2, rfl⟩
      rw [upd_ne nb, upd_ne nb]
      exact hk b o nb (by rw [upd_ne (ne_of_none e hp)]; exact e)
def R_Short : List D → List (Str × D) → Prop := fun ds fs => ∃ y1, ds = [y1] ∧ Cp 6 y1 ∧ fs = [(("own_parts" : Str), .tup [copyD y1]), ("phase", copyD y1)]
theorem ok_Shortinit (T : Tx P K mg a) : FnOk P w K mg base CX0 9 a.f_Shortinit a.d_Shortinit ["self", "phase"] (spIns K a.C_Short R_Short) := by
  obtain ⟨⟨oc, od, kV, doc, pm, an, ca, ct, osl, cc, ccl, cdd, vs0, ccs, file, tf, cl, cld, csl, hfd, lk, hcd, lca, lvs, lfi, lcc⟩, htop⟩ := T.S_Short
  obtain ⟨⟨cdC, hC⟩, hmro, hsup⟩ := T.kc_Short
  rw [hfd] at lk ⊢
  refine fn_sup (N := ["self", "phase"]) lk hcd sc_Shortinit lcc (fun vs H Q E h => ?_) fun A outer s H vs Q E hr h => ?_
  · obtain ⟨x, dx, ws, A, ds, fs, rfl, _, _, _, r, ⟨y1, rfl, _⟩, _⟩ := h
    obtain ⟨v1, w1, rfl, r1, e⟩ := r
    have e : w1 = [] := e
    subst e
    rfl
  · obtain ⟨x, dx, ws, A', ds, fs, rfl, hx, hA, nA, r, ⟨y1, rfl, c1, rfl⟩, q⟩ := h
    obtain ⟨v1, w1, rfl, r1, e⟩ := r
    have e : w1 = [] := e
    subst e
    refine ⟨_, pss_super (C := a.C_Short) rfl rfl rfl rfl lk rfl rfl rfl rfl lca lvs lfi htop rfl lcc hC hC hmro T.m_super T.opaq hsup T.t_Paperinit T.n_Paperinit (ok_Paperinit T) hr (pa_cons (pv 1) pa_nil)
      (pss_one (ps_fld (pv 0) (pe_ix ix_tup (pe_fld (pv 0) rfl) pe_int (fun _ _ => rfl)) rfl)), ?_⟩
    refine ⟨x, dx, [], rfl, hx, v1, rfl, [.ref x], [v1], rfl, rfl, Nat.le_of_ble_eq_true rfl, fun p hp => ⟨x, p, a.C_Short, dx, [v1], A', [y1], rfl, by rw [upd_ne (ne_of_none hx hp)]; exact hx, T.cl_Short, T.n_Short_own_parts, upd_same, fun b hb => ?_, nA, ?_, ⟨Nat.le_of_ble_eq_true rfl, fun u hu => ?_⟩, fun H' v hk hx' rv => ?_⟩⟩
    · exact (LeA.new (A := fun _ => False) hp).ne (hA b hb)
    · exact RepL.mv (Mv.le (P := fun _ => False) (LeA.new hp) (fun _ z => z.elim) fun _ z => .inl z) [y1] ⟨v1, _, rfl, r1, rfl⟩
    · simp only [List.mem_cons, List.not_mem_nil, or_false] at hu
      subst hu; exact c1
    · obtain ⟨p2, us, rfl, tp, u1, us1, rfl, ru1, e⟩ := rv
      have e : us1 = [] := e
      subst e
      have npx : p2 ≠ x := fun z => by
        have tp' : H' p2 = _ := tp
        rw [z, hx'] at tp'; cases tp'
      refine ⟨.ref x, rfl, x, a.C_Short, dx, _, .ref p2, rfl, hx', T.cl_Short, T.n_Short_own_parts, rfl, p2, _, 0, u1, rfl, rfl, .inl (.inl tp), rfl, .ref x, rfl, x, a.C_Short, dx, _, rfl, hx', T.cl_Short, T.n_Short_phase, by show 1 < 1000; decide, ?_⟩
      have l1 : LeA (fun b => b = x) H' (upd H' x (.ins a.C_Short dx [("own_parts", .ref p2), ("phase", u1)])) := LeA.put hx' rfl trivial trivial
      have mm : Mv H' (upd H' x (.ins a.C_Short dx [("own_parts", .ref p2), ("phase", u1)])) A' A' := Mv.le l1 (fun b z => by rw [z]; exact nA) fun _ z => .inl z
      refine q _ [("own_parts", .ref p2), ("phase", u1)] (fun b o nb e => ?_) upd_same ⟨_, _, rfl, Rep.mv mm (.tup [copyD y1]) mm ⟨p2, _, rfl, tp, _, _, rfl, ru1, rfl⟩, _, _, rfl, Rep.mv mm _ mm ru1, rfl⟩
      rw [upd_ne nb]
      exact hk b o nb (by rw [upd_ne (ne_of_none e hp)]; exact e)
def R_Split : List D → List (Str × D) → Prop := fun ds fs => ∃ y1, ds = [y1] ∧ Cp 6 y1 ∧ fs = [(("own_parts" : Str), .tup [copyD y1]), ("phases", copyD y1)]
theorem ok_Splitinit (T : Tx P K mg a) : FnOk P w K mg base CX0 9 a.f_Splitinit a.d_Splitinit ["self", "phases"] (spIns K a.C_Split R_Split) := by
  obtain ⟨⟨oc, od, kV, doc, pm, an, ca, ct, osl, cc, ccl, cdd, vs0, ccs, file, tf, cl, cld, csl, hfd, lk, hcd, lca, lvs, lfi, lcc⟩, htop⟩ := T.S_Split
  obtain ⟨⟨cdC, hC⟩, hmro, hsup⟩ := T.kc_Split
  rw [hfd] at lk ⊢
  refine fn_sup (N := ["self", "phases"]) lk hcd sc_Splitinit lcc (fun vs H Q E h => ?_) fun A outer s H vs Q E hr h => ?_
  · obtain ⟨x, dx, ws, A, ds, fs, rfl, _, _, _, r, ⟨y1, rfl, _⟩, _⟩ := h
    obtain ⟨v1, w1, rfl, r1, e⟩ := r
    have e : w1 = [] := e
    subst e
    rfl
  · obtain ⟨x, dx, ws, A', ds, fs, rfl, hx, hA, nA, r, ⟨y1, rfl, c1, rfl⟩, q⟩ := h
    obtain ⟨v1, w1, rfl, r1, e⟩ := r
    have e : w1 = [] := e
    subst e
    refine ⟨_, pss_super (C := a.C_Split) rfl rfl rfl rfl lk rfl rfl rfl rfl lca lvs lfi htop rfl lcc hC hC hmro T.m_super T.opaq hsup T.t_Paperinit T.n_Paperinit (ok_Paperinit T) hr (pa_cons (pv 1) pa_nil)
      (pss_one (ps_fld (pv 0) (pe_ix ix_tup (pe_fld (pv 0) rfl) pe_int (fun _ _ => rfl)) rfl)), ?_⟩
    refine ⟨x, dx, [], rfl, hx, v1, rfl, [.ref x], [v1], rfl, rfl, Nat.le_of_ble_eq_true rfl, fun p hp => ⟨x, p, a.C_Split, dx, [v1], A', [y1], rfl, by rw [upd_ne (ne_of_none hx hp)]; exact hx, T.cl_Split, T.n_Split_own_parts, upd_same, fun b hb => ?_, nA, ?_, ⟨Nat.le_of_ble_eq_true rfl, fun u hu => ?_⟩, fun H' v hk hx' rv => ?_⟩⟩
    · exact (LeA.new (A := fun _ => False) hp).ne (hA b hb)
    · exact RepL.mv (Mv.le (P := fun _ => False) (LeA.new hp) (fun _ z => z.elim) fun _ z => .inl z) [y1] ⟨v1, _, rfl, r1, rfl⟩
    · simp only [List.mem_cons, List.not_mem_nil, or_false] at hu
      subst hu; exact c1
    · obtain ⟨p2, us, rfl, tp, u1, us1, rfl, ru1, e⟩ := rv
      have e : us1 = [] := e
      subst e
      have npx : p2 ≠ x := fun z => by
        have tp' : H' p2 = _ := tp
        rw [z, hx'] at tp'; cases tp'
      refine ⟨.ref x, rfl, x, a.C_Split, dx, _, .ref p2, rfl, hx', T.cl_Split, T.n_Split_own_parts, rfl, p2, _, 0, u1, rfl, rfl, .inl (.inl tp), rfl, .ref x, rfl, x, a.C_Split, dx, _, rfl, hx', T.cl_Split, T.n_Split_phases, by show 1 < 1000; decide, ?_⟩
      have l1 : LeA (fun b => b = x) H' (upd H' x (.ins a.C_Split dx [("own_parts", .ref p2), ("phases", u1)])) := LeA.put hx' rfl trivial trivial
      have mm : Mv H' (upd H' x (.ins a.C_Split dx [("own_parts", .ref p2), ("phases", u1)])) A' A' := Mv.le l1 (fun b z => by rw [z]; exact nA) fun _ z => .inl z
      refine q _ [("own_parts", .ref p2), ("phases", u1)] (fun b o nb e => ?_) upd_same ⟨_, _, rfl, Rep.mv mm (.tup [copyD y1]) mm ⟨p2, _, rfl, tp, _, _, rfl, ru1, rfl⟩, _, _, rfl, Rep.mv mm _ mm ru1, rfl⟩
      rw [upd_ne nb]
      exact hk b o nb (by rw [upd_ne (ne_of_none e hp)]; exact e)
def R_Form : List D → List (Str × D) → Prop := fun ds fs => ∃ y1 y2 y3, ds = [y1, y2, y3] ∧ Cp 6 y1 ∧ Cp 6 y2 ∧ Cp 6 y3 ∧ fs = [(("own_parts" : Str), .tup [copyD y1, copyD y2, copyD y3]), ("first", copyD y1), ("each", copyD y2), ("more", copyD y3)]
theorem ok_Forminit (T : Tx P K mg a) : FnOk P w K mg base CX0 9 a.f_Forminit a.d_Forminit ["self", "first", "each", "more"] (spIns K a.C_Form R_Form) := by
  obtain ⟨⟨oc, od, kV, doc, pm, an, ca, ct, osl, cc, ccl, cdd, vs0, ccs, file, tf, cl, cld, csl, hfd, lk, hcd, lca, lvs, lfi, lcc⟩, htop⟩ := T.S_Form
  obtain ⟨⟨cdC, hC⟩, hmro, hsup⟩ := T.kc_Form
  rw [hfd] at lk ⊢
  refine fn_sup (N := ["self", "first", "each", "more"]) lk hcd sc_Forminit lcc (fun vs H Q E h => ?_) fun A outer s H vs Q E hr h => ?_
  · obtain ⟨x, dx, ws, A, ds, fs, rfl, _, _, _, r, ⟨y1, y2, y3, rfl, _⟩, _⟩ := h
    obtain ⟨v1, w1, rfl, r1, v2, w2, rfl, r2, v3, w3, rfl, r3, e⟩ := r
    have e : w3 = [] := e
    subst e
    rfl
  · obtain ⟨x, dx, ws, A', ds, fs, rfl, hx, hA, nA, r, ⟨y1, y2, y3, rfl, c1, c2, c3, rfl⟩, q⟩ := h
    obtain ⟨v1, w1, rfl, r1, v2, w2, rfl, r2, v3, w3, rfl, r3, e⟩ := r
    have e : w3 = [] := e
    subst e
    refine ⟨_, pss_super (C := a.C_Form) rfl rfl rfl rfl lk rfl rfl rfl rfl lca lvs lfi htop rfl lcc hC hC hmro T.m_super T.opaq hsup T.t_Paperinit T.n_Paperinit (ok_Paperinit T) hr (pa_cons (pv 1) (pa_cons (pv 2) (pa_cons (pv 3) pa_nil)))
      (pss_cons (ps_fld (pv 0) (pe_ix ix_tup (pe_fld (pv 0) rfl) pe_int (fun _ _ => rfl)) rfl) (pss_cons (ps_fld (pv 0) (pe_ix ix_tup (pe_fld (pv 0) rfl) pe_int (fun _ _ => rfl)) rfl) (pss_one (ps_fld (pv 0) (pe_ix ix_tup (pe_fld (pv 0) rfl) pe_int (fun _ _ => rfl)) rfl)))), ?_⟩
    refine ⟨x, dx, [], rfl, hx, v1, rfl, v2, rfl, v3, rfl, [.ref x], [v1, v2, v3], rfl, rfl, Nat.le_of_ble_eq_true rfl, fun p hp => ⟨x, p, a.C_Form, dx, [v1, v2, v3], A', [y1, y2, y3], rfl, by rw [upd_ne (ne_of_none hx hp)]; exact hx, T.cl_Form, T.n_Form_own_parts, upd_same, fun b hb => ?_, nA, ?_, ⟨Nat.le_of_ble_eq_true rfl, fun u hu => ?_⟩, fun H' v hk hx' rv => ?_⟩⟩
    · exact (LeA.new (A := fun _ => False) hp).ne (hA b hb)
    · exact RepL.mv (Mv.le (P := fun _ => False) (LeA.new hp) (fun _ z => z.elim) fun _ z => .inl z) [y1, y2, y3] ⟨v1, _, rfl, r1, v2, _, rfl, r2, v3, _, rfl, r3, rfl⟩
    · simp only [List.mem_cons, List.not_mem_nil, or_false] at hu
      rcases hu with rfl | rfl | rfl
      · exact c1
      · exact c2
      · exact c3
    · obtain ⟨p2, us, rfl, tp, u1, us1, rfl, ru1, u2, us2, rfl, ru2, u3, us3, rfl, ru3, e⟩ := rv
      have e : us3 = [] := e
      subst e
      have npx : p2 ≠ x := fun z => by
        have tp' : H' p2 = _ := tp
        rw [z, hx'] at tp'; cases tp'
      refine ⟨.ref x, rfl, x, a.C_Form, dx, _, .ref p2, rfl, hx', T.cl_Form, T.n_Form_own_parts, rfl, p2, _, 0, u1, rfl, rfl, .inl (.inl tp), rfl, .ref x, rfl, x, a.C_Form, dx, _, rfl, hx', T.cl_Form, T.n_Form_first, by show 1 < 1000; decide, ?_⟩
      refine ⟨.ref x, rfl, x, a.C_Form, dx, _, .ref p2, rfl, upd_same, T.cl_Form, T.n_Form_own_parts, rfl, p2, _, 1, u2, rfl, rfl, .inl (.inl (by show ((upd H' x (.ins a.C_Form dx [("own_parts", .ref p2), ("first", u1)])) : Hp) p2 = _; rw [upd_ne npx]; exact tp)), rfl, .ref x, rfl, x, a.C_Form, dx, _, rfl, upd_same, T.cl_Form, T.n_Form_each, by show 2 < 1000; decide, ?_⟩
      refine ⟨.ref x, rfl, x, a.C_Form, dx, _, .ref p2, rfl, upd_same, T.cl_Form, T.n_Form_own_parts, rfl, p2, _, 2, u3, rfl, rfl, .inl (.inl (by show ((upd (upd H' x (.ins a.C_Form dx [("own_parts", .ref p2), ("first", u1)])) x (.ins a.C_Form dx [("own_parts", .ref p2), ("first", u1), ("each", u2)])) : Hp) p2 = _; rw [upd_ne npx, upd_ne npx]; exact tp)), rfl, .ref x, rfl, x, a.C_Form, dx, _, rfl, upd_same, T.cl_Form, T.n_Form_more, by show 3 < 1000; decide, ?_⟩
      have l1 : LeA (fun b => b = x) H' (upd H' x (.ins a.C_Form dx [("own_parts", .ref p2), ("first", u1)])) := LeA.put hx' rfl trivial trivial
      have l2 : LeA (fun b => b = x) (upd H' x (.ins a.C_Form dx [("own_parts", .ref p2), ("first", u1)])) (upd (upd H' x (.ins a.C_Form dx [("own_parts", .ref p2), ("first", u1)])) x (.ins a.C_Form dx [("own_parts", .ref p2), ("first", u1), ("each", u2)])) := LeA.put upd_same rfl trivial trivial
      have l3 : LeA (fun b => b = x) (upd (upd H' x (.ins a.C_Form dx [("own_parts", .ref p2), ("first", u1)])) x (.ins a.C_Form dx [("own_parts", .ref p2), ("first", u1), ("each", u2)])) (upd (upd (upd H' x (.ins a.C_Form dx [("own_parts", .ref p2), ("first", u1)])) x (.ins a.C_Form dx [("own_parts", .ref p2), ("first", u1), ("each", u2)])) x (.ins a.C_Form dx [("own_parts", .ref p2), ("first", u1), ("each", u2), ("more", u3)])) := LeA.put upd_same rfl trivial trivial
      have mm : Mv H' (upd (upd (upd H' x (.ins a.C_Form dx [("own_parts", .ref p2), ("first", u1)])) x (.ins a.C_Form dx [("own_parts", .ref p2), ("first", u1), ("each", u2)])) x (.ins a.C_Form dx [("own_parts", .ref p2), ("first", u1), ("each", u2), ("more", u3)])) A' A' := Mv.le ((l1.trans l2).trans l3) (fun b z => by rw [z]; exact nA) fun _ z => .inl z
      refine q _ [("own_parts", .ref p2), ("first", u1), ("each", u2), ("more", u3)] (fun b o nb e => ?_) upd_same ⟨_, _, rfl, Rep.mv mm (.tup [copyD y1, copyD y2, copyD y3]) mm ⟨p2, _, rfl, tp, _, _, rfl, ru1, _, _, rfl, ru2, _, _, rfl, ru3, rfl⟩, _, _, rfl, Rep.mv mm _ mm ru1, _, _, rfl, Rep.mv mm _ mm ru2, _, _, rfl, Rep.mv mm _ mm ru3, rfl⟩
      rw [upd_ne nb, upd_ne nb, upd_ne nb]
      exact hk b o nb (by rw [upd_ne (ne_of_none e hp)]; exact e)
/-! ### their truth -/
theorem boolOk (T : Tx P K mg a) : BoolOk K (isTrue a) a.f_Paperbool := ⟨fun C b h => by
  rcases h with ⟨rfl, _⟩ | ⟨rfl, _⟩ | ⟨rfl, _⟩
  · exact T.fb_Laid
  · exact T.fb_Short
  · exact T.fb_Split, T.t_Paperbool⟩
theorem isTrue_con (T : Tx P K mg a) {C : Addr} {b : Bool} (h : isTrue a C b) : Cls K C ∧ Con K C "IS_TRUE" (.bl b) (.bool b) := by
  rcases h with ⟨rfl, rfl⟩ | ⟨rfl, rfl⟩ | ⟨rfl, rfl⟩
  · exact ⟨T.cl_Laid, T.con_Laid⟩
  · exact ⟨T.cl_Short, T.con_Short⟩
  · exact ⟨T.cl_Split, T.con_Split⟩
theorem lookup_none {y : Str} : ∀ {us : List (Str × V)}, (us.all fun u => u.1 != y) = true → List.lookup y us = none
  | [], _ => rfl
  | (z, v) :: us, h => by
    rw [List.all_cons, Bool.and_eq_true] at h
    rw [List.lookup_cons]
    have : (y == z) = false := by
      have h1 := h.1
      rw [bne_iff_ne] at h1
      exact beq_false_of_ne fun e => h1 e.symm
    rw [this]
    exact lookup_none h.2
theorem ok_Paperbool (T : Tx P K mg a) : FnOk P w K mg base CX0 1 a.f_Paperbool a.d_Paperbool ["self"] (spBool K (isTrue a)) := by
  refine T.F_Paperbool.ok sc_Paperbool (fun vs H Q E h => ?_) fun cdv A outer s H vs Q E hr h => ?_
  · obtain ⟨x, C, dx, us, b, rfl, _⟩ := h; rfl
  · obtain ⟨x, C, dx, us, b, rfl, hx, hB, hn, q⟩ := h
    obtain ⟨hc, hcon⟩ := isTrue_con T hB
    refine ⟨_, pss_one (ps_ret (pe_callTy call_bool1 (by rfl) T.m_bool (by decide +kernel) (pa_cons (pe_con (pv 0) rfl) pa_nil))), ?_⟩
    exact ⟨.ref x, rfl, x, C, dx, us, .bl b, _, rfl, hx, hc, hcon, lookup_none hn, .inr ⟨b, rfl, q⟩⟩
end K90


namespace K90
open PySem PySem.Spec PyProof.Rows L2 DL
variable {P : Program} {w : World} {K : PySem.W.Frag} {mg : Str → Option Value} {base : Heap} {a : Ad}
theorem filt_ints (p : Int) (g : Int → Bool) : (((rng p id).map D.int).filter (fun y => match y with | .int i => g i | _ => false)).map id = ((rng p id).filter g).map D.int := by
  rw [List.map_id, List.filter_map]
  rfl
theorem filt_len (p : Int) (g : Int → Bool) : ((rng p id).filter g).length ≤ p.toNat := by
  have := List.length_filter_le g (rng p id)
  rwa [rng_len] at this
theorem links_len (p : Int) (cs : List Cut) (cov : Int → Int) (e : Int) : (links p cs cov e).length ≤ cs.length + p.toNat := by
  unfold links cutLinks waitLinks freeAt
  rw [List.length_append, List.length_map, List.length_map, List.length_zipIdx]
  have := filt_len p fun q => decide (0 < free p cov e q)
  omega
theorem cp_ints {ns : List Int} {n : Nat} (h : ns.length ≤ 100000) : Cp (n + 2) (intsD ns) := by
  refine ⟨by rw [List.length_map]; exact h, fun x hx => ?_⟩
  obtain ⟨i, _, rfl⟩ := List.mem_map.mp hx
  exact trivial
theorem cp_rows {rows : List (Int × Str × Int)} {n : Nat} (h : rows.length ≤ 100000) : Cp (n + 5) (.lst (rows.map rowD)) := by
  refine ⟨by rw [List.length_map]; exact h, fun x hx => ?_⟩
  obtain ⟨r, _, rfl⟩ := List.mem_map.mp hx
  refine ⟨Nat.le_of_ble_eq_true rfl, fun y hy => ?_⟩
  rcases List.mem_cons.mp hy with e | e
  · subst e; exact trivial
  · rw [List.mem_singleton] at e
    subst e
    refine ⟨Nat.le_of_ble_eq_true rfl, fun z hz => ?_⟩
    rcases List.mem_cons.mp hz with e | e
    · subst e; exact trivial
    · rw [List.mem_singleton] at e
      subst e; exact trivial
def bA (ks : List Int) : D → D
  | .tup [.int x, _, _, _] => .bl (decide (x ∈ ks))
  | y => y
theorem bA_map (ks : List Int) (ls : List Link) : (ls.map Link.d).map (bA ks) = (ls.map fun l => decide (l.a ∈ ks)).map D.bl := by
  rw [List.map_map, List.map_map]; rfl
theorem rng_asc (p : Int) : (rng p id).Pairwise (· < ·) := by
  unfold rng
  rw [List.pairwise_map]
  exact List.Pairwise.imp (fun h => by show ((_ : Nat) : Int) < ((_ : Nat) : Int); exact Int.ofNat_lt.mpr h) List.pairwise_lt_range
theorem copy_ints (ns : List Int) : copyD (intsD ns) = .tup (ns.map D.int) := by
  show D.tup (copyL (ns.map D.int)) = _
  rw [copyL_map, List.map_map]
  rfl
theorem copy_rows (rows : List (Int × Str × Int)) : copyD (.lst (rows.map rowD)) = .tup (rows.map rowD) := by
  show D.tup (copyL (rows.map rowD)) = _
  rw [copyL_map, List.map_map]
  rfl
theorem ok_lane_by (T : Tx P K mg a) : FnOk P w K mg base CX0 11 a.f_lane_by a.d_lane_by ["period", "cuts", "cover", "end"] (liftSp K (fd_lane_by a)) := by
  refine def_ok T.F_lane_by sc_lane_by (fun ds Q h => ?_) fun cdv A outer s H E hr => ⟨_,
    (dss_cons (ds_set (i := 4) sc_lane_by.nd rfl (.inr rfl) (dv_d (de_call (ok_free_by T) (hr.mono (by decide)) (by rfl) T.m_free_by T.F_free_by.kp T.b_free_by (da_cons (dv 0) (da_cons (dv 2) (da_cons (dv 3) da_nil))))))
    (dss_cons (ds_setLc (i := 5) (wr := vD) (fun _ _ _ _ z => wr_d z) wm_d rfl sc_lane_by.nd rfl rfl (sw_true rfl rfl rfl (by decide +kernel)) (LcOk.mk (own := [("phase", 9)]) (blkOk_by (N := ["period", "cuts", "cover", "end", "free", "short", "links", "found", "rows", "phase", "link"]) (sc := defScope st_lane_by) (by decide +kernel)) (di_range (by rfl) T.m_range (dv 0)) (fun _ _ _ _ _ => (dg_name (i := 9) sc_lane_by.nd rfl (.inl rfl))) (fun _ _ _ _ _ => (dts_one (dt_cmp os_lt (de_ix (dv 4) (dv 9)) de_int))) (fun _ _ _ _ _ => (dv 9)) (by decide)) s)
    (dss_cons (ds_if (dt_tru (dv 5))
      (dss_one (ds_ret (de_make T.mk_Short (ok_Shortinit T) (hr.mono (by decide)) (by rfl) T.mC_Short T.b_Shortinit (da_cons (de_ix (dv 5) de_int) da_nil))))
      dss_nil)
    (dss_cons (ds_set (i := 6) sc_lane_by.nd rfl (.inl rfl) (dv_d (de_call (ok_links_by T) (hr.mono (by decide)) (by rfl) T.m_links_by T.F_links_by.kp T.b_links_by (da_cons (dv 0) (da_cons (dv 1) (da_cons (dn_lc rfl sc_lane_by.nd (LcOk.mk (own := [("phase", 9)]) (blkOk_by (N := ["period", "cuts", "cover", "end", "free", "short", "links", "found", "rows", "phase", "link"]) (sc := defScope st_lane_by) (by decide +kernel)) (di_range (by rfl) T.m_range (dv 0)) (fun _ _ _ _ _ => (dg_name (i := 9) sc_lane_by.nd rfl (.inl rfl))) (fun _ _ _ _ _ => (dts_one (dt_cmp os_gt (de_ix (dv 4) (dv 9)) de_int))) (fun _ _ _ _ _ => (dv 9)) (by decide)) s).de da_nil))))))
    (dss_cons (ds_unp (de_call (ok_grown_from T) (hr.mono (by decide)) (by rfl) T.m_grown_from T.F_grown_from.kp T.b_grown_from (da_cons (dv 6) da_nil)) (dg_tup (n := 2) rfl (dgs_cons (dg_name (i := 7) sc_lane_by.nd rfl (.inr rfl)) (dgs_cons (dg_name (i := 8) sc_lane_by.nd rfl (.inl rfl)) dgs_nil))))
    (dss_cons (ds_if (dt_val (dn_bi cg_all (by rfl) T.m_all (by decide +kernel) (da_cons (dn_lc rfl sc_lane_by.nd (LcOk.mk (own := [("link", 10)]) (blkOk_by (N := ["period", "cuts", "cover", "end", "free", "short", "links", "found", "rows", "phase", "link"]) (sc := defScope st_lane_by) (by decide +kernel)) (di_list (dv 6)) (fun _ _ _ _ _ => (dg_name (i := 10) sc_lane_by.nd rfl (.inl rfl))) (fun _ _ _ _ _ => dts_nil) (fun _ _ _ _ _ => (de_din (hu_of hr) (de_ix (dv 10) de_int) (dv 7))) (by decide)) s).de da_nil)).de)
      (dss_one (ds_ret (de_make T.mk_Laid (ok_Laidinit T) (hr.mono (by decide)) (by rfl) T.mC_Laid T.b_Laidinit (da_cons (dv 4) (da_cons (dv 8) da_nil)))))
      dss_nil)
    (dss_one (ds_ret (de_make T.mk_Split (ok_Splitinit T) (hr.mono (by decide)) (by rfl) T.mC_Split T.b_Splitinit (da_cons (dn_bi cg_sorted (by rfl) T.m_sorted (by decide +kernel) (da_cons (dn_ty cg_listD (by rfl) T.m_list (by decide +kernel) (da_cons (dv 7) da_nil)).de da_nil)).de da_nil)))))))))), ?_⟩
  · obtain ⟨i, rfl, _⟩ := h; rfl
  · intro ds Q h
    obtain ⟨⟨p, cs, e⟩, rfl, ⟨ok, e0⟩, q⟩ := h
    dsimp only at ok e0 q
    obtain ⟨p1, p2, hok, hl⟩ := id ok
    refine ⟨_, rfl, _, rfl, _, rfl, _, ⟨p, cover p cs, e, rfl, p1, p2, rfl⟩, ?_⟩
    have hln : ((rng p id).map D.int).length ≤ 100000 := by rw [List.length_map, rng_len]; omega
    refine ⟨by rfl, _, rfl, _, rfl, by omega, by omega, ?_⟩
    dsimp only
    rw [rgD]
    refine lc_fm (fun y => match y with | .int i => decide (free p (cover p cs) e i < 0) | _ => false) id hln (fun y hy A B hA hB => ?_) ?_
    · obtain ⟨i, hi, rfl⟩ := List.mem_map.mp hy
      obtain ⟨i', h0, h1, e⟩ := rng_mem.mp hi
      have e : i = i' := e
      subst e
      refine ⟨_, rfl, _, rfl, _, _, _, .inl rfl, rfl, atI_ints h0 (rng_at h0 h1), _, _, rfl, rfl, _, rfl, ?_⟩
      exact if_b rfl (fun hh => ⟨_, rfl, hA hh⟩) fun hh => hB hh
    · rw [filt_ints p fun i => decide (free p (cover p cs) e i < 0)]
      cases hF : (rng p id).filter fun i => decide (free p (cover p cs) e i < 0) with
      | cons x xs =>
        refine ⟨_, rfl, _, rfl, ?_⟩
        refine ⟨_, rfl, _, _, _, .inl rfl, rfl, atI_nat (j := 0) rfl, _, ⟨_, rfl, trivial, rfl⟩, ?_⟩
        have hm : x ∈ (rng p id).filter fun i => decide (free p (cover p cs) e i < 0) := by rw [hF]; exact List.mem_cons_self
        obtain ⟨h1, h2⟩ := List.mem_filter.mp hm
        obtain ⟨x', x0, x1, ex⟩ := rng_mem.mp h1
        have ex : x = x' := ex
        subst ex
        refine q _ ⟨_, _, false, rfl, .inr (.inl ⟨rfl, rfl⟩), rfl, ⟨(fun z => by cases z), fun hL => ?_⟩, .short x x0 x1 (of_decide_eq_true h2) fun r r0 r1 => ?_⟩
        · have := hL.1 x x0 x1
          have := of_decide_eq_true h2
          omega
        · by_cases hr : free p (cover p cs) e r < 0
          · have mr : r ∈ (rng p id).filter fun i => decide (free p (cover p cs) e i < 0) := List.mem_filter.mpr ⟨rng_mem.mpr ⟨r, r0, by omega, rfl⟩, decide_eq_true hr⟩
            have as := List.Pairwise.filter (fun i => decide (free p (cover p cs) e i < 0)) (rng_asc p)
            rw [hF] at mr as
            rcases List.mem_cons.mp mr with z | z
            · omega
            · have := (List.pairwise_cons.mp as).1 r z
              omega
          · omega
      | nil =>
        have hnn : ∀ r, 0 ≤ r → r < p → 0 ≤ free p (cover p cs) e r := fun r r0 r1 => by
          have := List.filter_eq_nil_iff.mp hF r (rng_mem.mpr ⟨r, r0, r1, rfl⟩)
          have := of_decide_eq_false (Bool.eq_false_iff.mpr this)
          omega
        refine ⟨_, rfl, _, rfl, ?_⟩
        refine ⟨_, rfl, _, rfl, by rfl, _, rfl, _, rfl, by omega, by omega, ?_⟩
        dsimp only
        rw [rgD]
        refine lc_fm (fun y => match y with | .int i => decide (0 < free p (cover p cs) e i) | _ => false) id hln (fun y hy A B hA hB => ?_) ?_
        · obtain ⟨i, hi, rfl⟩ := List.mem_map.mp hy
          obtain ⟨i', h0, h1, e⟩ := rng_mem.mp hi
          have e : i = i' := e
          subst e
          refine ⟨_, rfl, _, rfl, _, _, _, .inl rfl, rfl, atI_ints h0 (rng_at h0 h1), _, _, rfl, rfl, _, rfl, ?_⟩
          exact if_b rfl (fun hh => ⟨_, rfl, hA hh⟩) fun hh => hB hh
        · rw [filt_ints p fun i => decide (0 < free p (cover p cs) e i)]
          refine ⟨_, ⟨p, cs, freeAt p (cover p cs) e, rfl, ok, by have := filt_len p fun i => decide (0 < free p (cover p cs) e i); show List.length (List.filter _ _) ≤ 60; omega, rfl⟩, ?_⟩
          have hll := links_len p cs (cover p cs) e
          refine ⟨_, rfl, links p cs (cover p cs) e, rfl, by omega, fun d hd => ?_⟩
          obtain ⟨ks, rows, rfl, hcl, h0, hsnd, hr, hk, htr⟩ := hd
          refine ⟨_, rfl, rfl, _, _, rfl, _, _, rfl, rfl, ?_⟩
          refine ⟨by rfl, _, rfl, _, rfl, ?_⟩
          have hln2 : ((links p cs (cover p cs) e).map Link.d).length ≤ 100000 := by rw [List.length_map]; omega
          refine lc_map (bA ks) hln2 (fun y hy A hA => ?_) ?_
          · obtain ⟨l, hl', rfl⟩ := links_at hy
            have hA : A (.bl (decide (l.a ∈ ks))) _ := hA
            rw [← find_keys] at hA
            exact ⟨_, rfl, _, _, _, .inr rfl, rfl, rfl, _, rfl, _, .k _ (.inl l.a), hA⟩
          · have eb : D.lst (((links p cs (cover p cs) e).map Link.d).map (bA ks)) = blsD ((links p cs (cover p cs) e).map fun l => decide (l.a ∈ ks)) := congrArg D.lst (bA_map ks _)
            refine ⟨_, congrArg (fun z => [z]) eb, _, rfl, ?_⟩
            refine if_b rfl (fun hh => ?_) fun hh => ?_
            · refine ⟨_, rfl, _, rfl, _, ⟨_, _, rfl, cp_ints (n := 4) (by rw [rng_len]; omega), cp_rows (n := 1) (by omega), rfl⟩, ?_⟩
              refine q _ ⟨_, _, true, rfl, .inl ⟨rfl, rfl⟩, rfl, ⟨fun _ => ⟨hnn, fun l hl' => ?_⟩, fun _ => rfl⟩, ?_⟩
              · have := List.all_eq_true.mp hh (decide (l.a ∈ ks)) (List.mem_map.mpr ⟨l, hl', rfl⟩)
                exact hsnd _ (of_decide_eq_true this)
              · have el : laidD a (rng p (free p (cover p cs) e)) rows = .ins a.C_Laid [("own_parts", .tup [copyD (intsD (rng p (free p (cover p cs) e))), copyD (.lst (rows.map rowD))]), ("waits", copyD (intsD (rng p (free p (cover p cs) e)))), ("tree", copyD (.lst (rows.map rowD)))] := by unfold laidD; rw [copy_ints, copy_rows]
                have hl2 := LaneIs.laid (a := a) rows ks hnn htr (fun l hl' => by
                  have := of_decide_eq_true (List.all_eq_true.mp hh (decide (l.a ∈ ks)) (List.mem_map.mpr ⟨l, hl', rfl⟩))
                  exact ⟨this, (hcl l hl').mp this⟩) (by omega)
                rw [el] at hl2
                exact hl2
            · have ek : D.lst ((ks.map fun k => ((.inl k : Key), D.bl true)).map fun p => keyD p.1) = intsD ks := by
                unfold intsD
                rw [List.map_map]; rfl
              refine ⟨_, rfl, _, rfl, ks, congrArg (fun z => [z]) ek, fun ns' hp hs => ⟨_, ⟨_, rfl, cp_ints (n := 4) (by rw [hp.length_eq]; omega), rfl⟩, ?_⟩⟩
              refine q _ ⟨_, _, false, rfl, .inr (.inr ⟨rfl, rfl⟩), rfl, ⟨(fun z => by cases z), fun hL => ?_⟩, ?_⟩
              case' refine_2 =>
                have el : splitD a ns' = .ins a.C_Split [("own_parts", .tup [copyD (intsD ns')]), ("phases", copyD (intsD ns'))] := by unfold splitD; rw [copy_ints]
                have nd : ns'.Nodup := hp.nodup_iff.mpr htr.nd
                have asc : ns'.Pairwise (· < ·) := List.Pairwise.imp₂ (fun x y h1 h2 => by omega) hs nd
                have hl2 := LaneIs.split (a := a) ns' hnn asc (fun z => ⟨fun h => hsnd z (hp.mem_iff.mp h), fun h => hp.mem_iff.mpr (h (fun x => x ∈ ks) h0 hcl)⟩) (by
                  have : ∃ l ∈ links p cs (cover p cs) e, l.a ∉ ks := by
                    cases hx : (links p cs (cover p cs) e).all fun l => decide (l.a ∈ ks) with
                    | true =>
                      exfalso
                      have : ((links p cs (cover p cs) e).map fun l => decide (l.a ∈ ks)).all id = true := by rw [List.all_map]; exact hx
                      rw [this] at hh; cases hh
                    | false =>
                      obtain ⟨l, hl', h2⟩ := List.all_eq_false.mp hx
                      exact ⟨l, hl', fun z => h2 (decide_eq_true z)⟩
                  obtain ⟨l, hl', h2⟩ := this
                  exact ⟨l, hl', fun z => h2 (hp.mem_iff.mp z)⟩) (by rw [hp.length_eq]; omega)
                rw [el] at hl2
                exact hl2
              exfalso
              have : ((links p cs (cover p cs) e).map fun l => decide (l.a ∈ ks)).all id = true := by
                rw [List.all_eq_true]
                intro b hb
                obtain ⟨l, hl', rfl⟩ := List.mem_map.mp hb
                exact decide_eq_true (hL.2 l hl' (fun x => x ∈ ks) h0 hcl)
              rw [this] at hh; cases hh
theorem IsLeast.uniq {p : Int} {cs : List Cut} {e f : Int} (h1 : IsLeast p cs e) (h2 : IsLeast p cs f) : e = f := by
  by_cases h : e < f
  · exact absurd h1.2.1 (h2.2.2 e h1.1 h)
  · by_cases h' : f < e
    · exact absurd h2.2.1 (h1.2.2 f h2.1 h')
    · omega
theorem free_up {p : Int} {cov : Int → Int} (e q : Int) (hp : 1 ≤ p) : free p cov (e + p) q = free p cov e q + 1 := by
  unfold free
  have hp0 : p ≠ 0 := by omega
  have e1 : (e + p) / p = e / p + 1 := by
    have := Int.add_mul_ediv_right e 1 hp0
    rwa [Int.one_mul] at this
  rw [e1, Int.add_emod_right]
  omega
/-- where no phase is used up all hangs together -/
theorem let_all {p : Int} {cs : List Cut} (ok : CutsOk p cs) {e : Int} (h : ∀ q, 0 ≤ q → q < p → 1 ≤ free p (cover p cs) e q) : Let p cs e := by
  have p1 := ok.p1
  refine ⟨fun q q0 q1 => by have := h q q0 q1; omega, ?_⟩
  have hw : ∀ q, 0 ≤ q → q < p → (⟨q, (q + 1) % p, "wait", q⟩ : Link) ∈ links p cs (cover p cs) e := fun q q0 q1 => by
    refine List.mem_append_right _ (List.mem_map.mpr ⟨q, List.mem_filter.mpr ⟨rng_mem.mpr ⟨q, q0, q1, rfl⟩, decide_eq_true ?_⟩, rfl⟩)
    have := h q q0 q1
    omega
  have hc : ∀ n : Nat, (n : Int) < p → Comp (links p cs (cover p cs) e) n := by
    intro n
    induction n with
    | zero => exact fun _ S h0 _ => h0
    | succ n ih =>
      intro hn
      have i := ih (by omega)
      have := (Comp.step (hw n (by omega) (by omega))).mp i
      have em : ((n : Int) + 1) % p = ((n + 1 : Nat) : Int) := by
        rw [Int.emod_eq_of_lt (by omega) (by omega)]; rfl
      rw [← em]
      exact this
  have hc' : ∀ q, 0 ≤ q → q < p → Comp (links p cs (cover p cs) e) q := fun q q0 q1 => by
    have := hc q.toNat (by omega)
    rwa [Int.toNat_of_nonneg q0] at this
  intro l hl
  rcases List.mem_append.mp hl with z | z
  · obtain ⟨x, hx, rfl⟩ := List.mem_map.mp z
    have hm : x.1 ∈ cs := by
      obtain ⟨c, j⟩ := x
      have := List.mem_zipIdx hx
      simp at this
      obtain ⟨h1, h2⟩ := this
      rw [h2]; exact List.getElem_mem _
    obtain ⟨_, _, g3, g4, _⟩ := ok.ok _ hm
    exact hc' _ g3 g4
  · obtain ⟨x, hx, rfl⟩ := List.mem_map.mp z
    obtain ⟨h1, _⟩ := List.mem_filter.mp hx
    obtain ⟨x', x0, x1, ex⟩ := rng_mem.mp h1
    have ex : x = x' := ex
    subst ex
    exact hc' _ x0 x1
theorem cover_nn {p : Int} {cs : List Cut} (ok : CutsOk p cs) (q : Int) : 0 ≤ cover p cs q := by
  have p1 := ok.p1
  have h := ok.ok
  clear ok
  induction cs with
  | nil => exact Int.le_refl 0
  | cons c cs ih =>
    have i := ih fun c' hc' => h c' (List.mem_cons_of_mem _ hc')
    obtain ⟨g1, _, _, _, g5, _⟩ := h c List.mem_cons_self
    unfold cover at i ⊢
    rw [List.map_cons, List.sum_cons]
    have : 0 ≤ cnt p c q := by
      unfold cnt
      have : 0 ≤ c.long / p := Int.ediv_nonneg (by omega) (by omega)
      split <;> omega
    have : 0 ≤ c.times * cnt p c q := Int.mul_nonneg (by omega) this
    omega
theorem ok_least_by (T : Tx P K mg a) : FnOk P w K mg base CX0 12 a.f_least_by a.d_least_by ["period", "cuts"] (liftSp K fd_least_by) := by
  refine def_ok T.F_least_by sc_least_by (fun ds Q h => ?_) fun cdv A outer s H E hr => ⟨_,
    (dss_cons (ds_if (dt_not (dt_tru (dv 1)))
      (dss_one (ds_ret de_int))
      dss_nil)
    (dss_cons (ds_set (i := 2) sc_least_by.nd rfl (.inl rfl) (dv_d (de_call (ok_taken_by T) (hr.mono (by decide)) (by rfl) T.m_taken_by T.F_taken_by.kp T.b_taken_by (da_cons (dv 0) (da_cons (dv 1) da_nil)))))
    (dss_cons (ds_set (i := 3) sc_least_by.nd rfl (.inl rfl) (dv_d (de_call (ok_covered_end T) (hr.mono (by decide)) (by rfl) T.m_covered_end T.F_covered_end.kp T.b_covered_end (da_cons (dv 0) (da_cons (dv 2) da_nil)))))
    (dss_cons (ds_while PassesOwn.never (dt_not (dt_ins (B := isTrue a) (boolOk T) (ok_Paperbool T) (hr.mono (by decide)) T.b_Paperbool (de_call (ok_lane_by T) (hr.mono (by decide)) (by rfl) T.m_lane_by T.F_lane_by.kp T.b_lane_by (da_cons (dv 0) (da_cons (dv 1) (da_cons (dv 2) (da_cons (dv 3) da_nil)))))))
      (dss_one (ds_set (i := 3) sc_least_by.nd rfl (.inl rfl) (dv_d (de_op os_add (dv 3) de_int)))))
    (dss_one (ds_ret (dv 3))))))), ?_⟩
  · obtain ⟨i, rfl, _⟩ := h; rfl
  · intro ds Q h
    obtain ⟨⟨p, cs⟩, rfl, ok, q⟩ := h
    dsimp only at ok q
    have p1 := ok.p1
    refine ⟨_, rfl, _, rfl, ?_⟩
    cases cs with
    | nil =>
      refine q _ ⟨0, rfl, Int.le_refl 0, ⟨fun r r0 r1 => ?_, fun l hl => ?_⟩, fun e e0 e1 => by omega⟩
      · unfold free cover
        rw [Int.zero_ediv, Int.zero_emod, if_neg (by omega)]
        exact Int.le_refl 0
      · exfalso
        have : links p [] (cover p []) 0 = [] := by
          unfold links waitLinks freeAt
          rw [List.filter_eq_nil_iff.mpr]
          · rfl
          · intro r hr
            obtain ⟨r', r0, r1, er⟩ := rng_mem.mp hr
            have er : r = r' := er
            subst er
            unfold free cover
            rw [Int.zero_ediv, Int.zero_emod, if_neg (by omega)]
            exact fun z => by have := of_decide_eq_true z; simp at this
        rw [this] at hl; cases hl
    | cons c cs' =>
      generalize hcs : c :: cs' = cs at *
      have hne : (!(!(cs.map Cut.d).isEmpty)) = false := by rw [← hcs]; rfl
      refine if_b hne (fun z => by cases z) fun _ => ?_
      refine ⟨_, rfl, _, rfl, _, ⟨p, cs, rfl, ok, rfl⟩, ?_⟩
      refine ⟨_, rfl, _, rfl, (p, cover p cs), rfl, ⟨p1, ok.p2, fun r _ _ => cover_nn ok r⟩, fun d hd => ?_⟩
      obtain ⟨cv, rfl, c0, c1, c2⟩ := hd
      dsimp only at c0 c1 c2
      have hB : Let p cs (cv + p) := let_all ok fun r r0 r1 => by rw [free_up _ _ p1]; have := c1 r r0 r1; omega
      refine ⟨fun m sl k => ∃ e : Int, sl = [.d (.int p), .d (cutsT cs), .d (intsD (rng p (cover p cs))), .d (.int e)] ∧ 0 ≤ e ∧ (∀ e', 0 ≤ e' → e' < e → ¬ Let p cs e') ∧ e ≤ cv + p ∧ m = (cv + p - e).toNat, ⟨_, cv, rfl, c0, fun e' h0 h1 hL => ?_, by omega, rfl⟩, ?_⟩
      · obtain ⟨r, r0, r1, r2⟩ := c2 e' h0 h1
        have := hL.1 r r0 r1
        omega
      · rintro m sl k ⟨e, rfl, e0, hno, hb, hm⟩
        refine ⟨_, rfl, _, rfl, _, rfl, _, rfl, (p, cs, e), rfl, ⟨ok, e0⟩, fun d hd => ?_⟩
        obtain ⟨C, fs, b, rfl, hB1, hn, hi, _⟩ := hd
        refine ⟨C, fs, b, rfl, hB1, hn, ?_⟩
        cases b with
        | true => exact ⟨_, rfl, q _ ⟨e, rfl, e0, hi.mp rfl, hno⟩⟩
        | false =>
          have hnl : ¬ Let p cs e := fun z => by have := hi.mpr z; cases this
          have hlt : e < cv + p := by
            by_cases z : e = cv + p
            · rw [z] at hnl; exact absurd hB hnl
            · omega
          refine ⟨_, rfl, _, _, rfl, rfl, _, ?_, e + 1, rfl, by omega, fun e' h0 h1 => ?_, by omega, rfl⟩
          · omega
          · by_cases z : e' = e
            · rw [z]; exact hnl
            · exact hno e' h0 (by omega)
theorem ok_least_end (T : Tx P K mg a) : FnOk P w K mg base CX0 13 a.f_least_end a.d_least_end ["period", "cuts"] (liftSp K fd_least_end) := by
  refine def_ok T.F_least_end sc_least_end (fun ds Q h => ?_) fun cdv A outer s H E hr => ⟨_,
    (dss_one (ds_ret (de_call (ok_least_by T) (hr.mono (by decide)) (by rfl) T.m_least_by T.F_least_by.kp T.b_least_by (da_cons (dv 0) (da_cons (de_call (ok_need_cuts T) (hr.mono (by decide)) (by rfl) T.m_need_cuts T.F_need_cuts.kp T.b_need_cuts (da_cons (dv 0) (da_cons (dv 1) da_nil))) da_nil))))), ?_⟩
  · obtain ⟨i, rfl, _⟩ := h; rfl
  · intro ds Q h
    obtain ⟨⟨p, b, cs⟩, rfl, ok, q⟩ := h
    dsimp only at ok q
    refine ⟨_, rfl, _, rfl, _, rfl, _, ⟨p, cs, ?_, ok, rfl⟩, (p, cs), rfl, ok, q⟩
    cases b with
    | true => exact .inr rfl
    | false => exact .inl rfl
end K90


namespace K90
open PySem PySem.Spec PyProof.Rows L2 DL
variable {P : Program} {w : World} {K : PySem.W.Frag} {mg : Str → Option Value} {base : Heap} {a : Ad}
theorem nameD_inj {x y : Str × Int} (h : nameD x = nameD y) : x = y := by
  unfold nameD at h
  obtain ⟨h1, h2⟩ := List.cons.inj h
  obtain ⟨h3, _⟩ := List.cons.inj h2
  exact Prod.ext (Sum.inr.inj h1) (Sum.inl.inj h3)
theorem put_lk {ls : List Link} {l : Link} (h : ∀ x ∈ ls, (x.w, x.n) ≠ (l.w, l.n)) : putD (ls.map lkD) (nameD (l.w, l.n)) (.tup [.int l.a, .int l.b]) = (ls ++ [l]).map lkD := by
  unfold putD
  rw [if_neg, List.map_append]
  · rfl
  · intro z
    rw [List.any_eq_true] at z
    obtain ⟨p, hp, e⟩ := z
    obtain ⟨x, hx, rfl⟩ := List.mem_map.mp hp
    exact h x hx (nameD_inj (of_decide_eq_true e))
theorem find_lk {ls : List Link} (hu : Unlike ls) {l : Link} (hl : l ∈ ls) : ((ls.map lkD).find? fun kv => decide (kv.1 = nameD (l.w, l.n))).map (·.2) = some (.tup [.int l.a, .int l.b]) := by
  induction ls with
  | nil => cases hl
  | cons x ls ih =>
    have hp := List.pairwise_cons.mp hu
    rw [List.map_cons, List.find?_cons]
    by_cases e : (x.w, x.n) = (l.w, l.n)
    · have h1 : decide ((lkD x).1 = nameD (l.w, l.n)) = true := decide_eq_true (by show nameD (x.w, x.n) = _; rw [e])
      rw [h1]
      rcases List.mem_cons.mp hl with z | z
      · rw [z]; rfl
      · exact absurd e (hp.1 l z)
    · have h1 : decide ((lkD x).1 = nameD (l.w, l.n)) = false := decide_eq_false fun z => e (nameD_inj z)
      rw [h1]
      have hl' : l ∈ ls := (List.mem_cons.mp hl).resolve_left fun z => e (by rw [z])
      exact ih hp.2 hl'
theorem cut_snoc {p : Int} {cs : List Cut} {j : Nat} {c : Cut} (h : cs[j]? = some c) : cutLinks p (cs.take (j + 1)) = cutLinks p (cs.take j) ++ [⟨c.phase, (c.long + c.phase) % p, "cut", (j : Int)⟩] := by
  have hj := (List.getElem?_eq_some_iff.mp h).1
  unfold cutLinks
  rw [take_snoc h, List.zipIdx_append, List.map_append]
  have : (cs.take j).length = j := by rw [List.length_take]; omega
  rw [this, Nat.zero_add]
  rfl
theorem cut_names {p : Int} {cs : List Cut} {x : Link} (h : x ∈ cutLinks p cs) : x.w = "cut" ∧ ∃ i : Nat, i < cs.length ∧ x.n = i := by
  obtain ⟨y, hy, rfl⟩ := List.mem_map.mp h
  obtain ⟨c, i⟩ := y
  have := List.mem_zipIdx hy
  simp at this
  exact ⟨rfl, i, this.1, rfl⟩
theorem wait_names {p : Int} {fr : List Int} {x : Link} (h : x ∈ waitLinks p fr) : x.w = "wait" ∧ x.n ∈ fr := by
  obtain ⟨y, hy, rfl⟩ := List.mem_map.mp h
  exact ⟨rfl, hy⟩
theorem rng_nodup (p : Int) : (rng p id).Nodup := by
  unfold rng
  rw [List.nodup_iff_pairwise_ne, List.pairwise_map]
  refine List.Pairwise.imp ?_ List.pairwise_lt_range
  intro a b hab e
  have : (a : Int) = b := e
  omega
theorem links_unlike (p : Int) (cs : List Cut) (cov : Int → Int) (e : Int) : Unlike (links p cs cov e) := by
  unfold Unlike links
  rw [List.pairwise_append]
  refine ⟨?_, ?_, fun x hx y hy z => ?_⟩
  · unfold cutLinks
    rw [List.pairwise_map]
    have h : (cs.zipIdx.map (·.2)).Pairwise (· ≠ ·) := by
      rw [List.zipIdx_map_snd]
      rw [← List.nodup_iff_pairwise_ne]
      exact List.nodup_range'
    rw [List.pairwise_map] at h
    refine List.Pairwise.imp (fun {x y} hxy z => hxy ?_) h
    have := congrArg Prod.snd z
    have : ((x.2 : Nat) : Int) = y.2 := this
    omega
  · unfold waitLinks freeAt
    rw [List.pairwise_map]
    have h : ((rng p id).filter fun q => decide (0 < free p cov e q)).Nodup := List.Nodup.sublist List.filter_sublist (rng_nodup p)
    refine List.Pairwise.imp (fun {x y} hxy z => hxy ?_) (List.nodup_iff_pairwise_ne.mp h)
    exact congrArg Prod.snd z
  · have h1 := (cut_names hx).1
    have h2 := (wait_names hy).1
    have := congrArg Prod.fst z
    have this : x.w = y.w := this
    rw [h1, h2] at this
    exact absurd this (by decide)
def fA (p : Int) (cov : Int → Int) (e : Int) : D → D
  | .int i => .int (free p cov e i)
  | y => y
theorem Unlike.snoc {ls : List Link} {l : Link} (h : Unlike (ls ++ [l])) : ∀ x ∈ ls, (x.w, x.n) ≠ (l.w, l.n) := fun x hx => (List.pairwise_append.mp h).2.2 x hx l (List.mem_singleton.mpr rfl)
end K90


namespace K90
open PySem PySem.Spec PyProof.Rows L2 DL
variable {P : Program} {w : World} {K : PySem.W.Frag} {mg : Str → Option Value} {base : Heap} {a : Ad}
/-! ### what hangs together, link by link, round by round -/
def add1 (f : List Int) (x y : Int) : List Int := f ++ (if x ∈ f ∧ y ∉ f then [y] else [])
def stepL (f : List Int) (l : Link) : List Int := add1 (add1 f l.b l.a) l.a l.b
def round (ls : List Link) (f : List Int) : List Int := ls.foldl stepL f
def rounds (ls : List Link) : Nat → List Int
  | 0 => [0]
  | n + 1 => round ls (rounds ls n)
theorem add1_sub {f : List Int} {x y z : Int} (h : z ∈ f) : z ∈ add1 f x y := List.mem_append_left _ h
theorem add1_in {f : List Int} {x y : Int} (h : x ∈ f) : y ∈ add1 f x y := by
  unfold add1
  by_cases hy : y ∈ f
  · exact List.mem_append_left _ hy
  · rw [if_pos ⟨h, hy⟩]
    exact List.mem_append_right _ (List.mem_singleton.mpr rfl)
theorem add1_of {f : List Int} {x y z : Int} (h : z ∈ add1 f x y) : z ∈ f ∨ (z = y ∧ x ∈ f) := by
  unfold add1 at h
  rcases List.mem_append.mp h with q | q
  · exact .inl q
  · split at q
    · rename_i hh
      exact .inr ⟨List.mem_singleton.mp q, hh.1⟩
    · cases q
theorem add1_len (f : List Int) (x y : Int) : (add1 f x y).length ≤ f.length + 1 := by
  unfold add1
  rw [List.length_append]
  split
  · exact Nat.le_refl _
  · exact Nat.le_add_right _ 1
theorem step_sub {f : List Int} {l : Link} {z : Int} (h : z ∈ f) : z ∈ stepL f l := add1_sub (add1_sub h)
theorem step_both {f : List Int} {l : Link} (h : l.a ∈ f ∨ l.b ∈ f) : l.a ∈ stepL f l ∧ l.b ∈ stepL f l := by
  rcases h with h | h
  · exact ⟨step_sub h, add1_in (add1_sub h)⟩
  · exact ⟨add1_sub (add1_in h), step_sub h⟩
theorem step_len (f : List Int) (l : Link) : (stepL f l).length ≤ f.length + 2 := by
  have h1 := add1_len f l.b l.a
  have h2 := add1_len (add1 f l.b l.a) l.a l.b
  unfold stepL
  omega
theorem fold_sub {ls : List Link} {z : Int} : ∀ {f : List Int}, z ∈ f → z ∈ ls.foldl stepL f := by
  induction ls with
  | nil => exact fun h => h
  | cons l ls ih => exact fun h => ih (step_sub h)
theorem fold_both {ls : List Link} {l : Link} (hl : l ∈ ls) : ∀ {f : List Int}, (l.a ∈ f ∨ l.b ∈ f) → l.a ∈ ls.foldl stepL f ∧ l.b ∈ ls.foldl stepL f := by
  induction ls with
  | nil => cases hl
  | cons x ls ih =>
    intro f h
    rcases List.mem_cons.mp hl with e | e
    · subst e
      have := step_both h
      show l.a ∈ ls.foldl stepL (stepL f l) ∧ l.b ∈ ls.foldl stepL (stepL f l)
      exact ⟨fold_sub this.1, fold_sub this.2⟩
    · exact ih e (h.imp step_sub step_sub)
theorem step_ok {ls : List Link} {f : List Int} {l : Link} (hl : l ∈ ls) (h : ∀ z ∈ f, Comp ls z) : ∀ z ∈ stepL f l, Comp ls z := by
  have h1 : ∀ z ∈ add1 f l.b l.a, Comp ls z := fun z hz => by
    rcases add1_of hz with q | ⟨rfl, q⟩
    · exact h z q
    · exact (Comp.step hl).mpr (h _ q)
  intro z hz
  rcases add1_of hz with q | ⟨rfl, q⟩
  · exact h1 z q
  · exact (Comp.step hl).mp (h1 _ q)
def closed (ls : List Link) (f : List Int) : Prop := ∀ l ∈ ls, l.a ∈ f ↔ l.b ∈ f
theorem step_id {f : List Int} {l : Link} (h : l.a ∈ f ↔ l.b ∈ f) : stepL f l = f := by
  have h1 : add1 f l.b l.a = f := by
    unfold add1
    rw [if_neg fun z => z.2 (h.mpr z.1), List.append_nil]
  unfold stepL
  rw [h1]
  unfold add1
  rw [if_neg fun z => z.2 (h.mp z.1), List.append_nil]
theorem round_id {ls : List Link} {f : List Int} (h : closed ls f) : round ls f = f := by
  unfold round
  induction ls with
  | nil => rfl
  | cons l ls ih =>
    rw [List.foldl_cons, step_id (h l List.mem_cons_self)]
    exact ih fun x hx => h x (List.mem_cons_of_mem _ hx)
def both (f : List Int) (l : Link) : Bool := decide (l.a ∈ f) && decide (l.b ∈ f)
theorem round_more {ls : List Link} {f : List Int} (h : ¬ closed ls f) : ls.countP (both f) < ls.countP (both (round ls f)) := by
  have hx : ∃ l ∈ ls, ¬ (l.a ∈ f ↔ l.b ∈ f) := by
    by_cases hx : ∃ l ∈ ls, ¬ (l.a ∈ f ↔ l.b ∈ f)
    · exact hx
    · exact absurd (fun l hl => Classical.byContradiction fun z => hx ⟨l, hl, z⟩) h
  obtain ⟨l, hl, hn⟩ := hx
  have h1 : both f l = false := by
    unfold both
    by_cases p : l.a ∈ f <;> by_cases q : l.b ∈ f <;> simp_all
  have h2 : l.a ∈ f ∨ l.b ∈ f := by
    by_cases p : l.a ∈ f
    · exact .inl p
    · by_cases q : l.b ∈ f
      · exact .inr q
      · exact absurd ⟨fun z => absurd z p, fun z => absurd z q⟩ hn
  have h3 := fold_both hl h2
  have h4 : both (round ls f) l = true := by
    unfold both round
    rw [decide_eq_true h3.1, decide_eq_true h3.2]
    rfl
  have le : ∀ x, both f x = true → both (round ls f) x = true := fun x hx => by
    unfold both at hx ⊢
    rw [Bool.and_eq_true] at hx ⊢
    exact ⟨decide_eq_true (fold_sub (of_decide_eq_true hx.1)), decide_eq_true (fold_sub (of_decide_eq_true hx.2))⟩
  generalize round ls f = g at *
  clear hn h2 h3 h
  induction ls with
  | nil => cases hl
  | cons x ls ih =>
    rw [List.countP_cons, List.countP_cons]
    rcases List.mem_cons.mp hl with e | e
    · subst e
      have : ls.countP (both f) ≤ ls.countP (both g) := List.countP_mono_left fun x _ hx => le x hx
      rw [h1, h4]
      simp
      omega
    · have := ih e
      have h5 : (if both f x = true then 1 else 0) ≤ (if both g x = true then 1 else 0) := by
        by_cases z : both f x = true
        · rw [if_pos z, if_pos (le x z)]; exact Nat.le_refl _
        · rw [if_neg z]; exact Nat.zero_le _
      omega
theorem rounds_inv (ls : List Link) : ∀ n, closed ls (rounds ls n) ∨ n ≤ ls.countP (both (rounds ls n))
  | 0 => .inr (Nat.zero_le _)
  | n + 1 => by
    by_cases h : closed ls (rounds ls n)
    · left
      show closed ls (round ls (rounds ls n))
      rw [round_id h]
      exact h
    · right
      have h1 := round_more h
      rcases rounds_inv ls n with q | q
      · exact absurd q h
      · show n + 1 ≤ ls.countP (both (round ls (rounds ls n)))
        omega
theorem rounds_closed (ls : List Link) : closed ls (rounds ls ls.length) := by
  rcases rounds_inv ls ls.length with h | h
  · exact h
  · intro l hl
    have e : ls.countP (both (rounds ls ls.length)) = ls.length := by
      have := List.countP_le_length (p := both (rounds ls ls.length)) (l := ls)
      omega
    have := List.countP_eq_length.mp e l hl
    unfold both at this
    rw [Bool.and_eq_true] at this
    exact ⟨fun _ => of_decide_eq_true this.2, fun _ => of_decide_eq_true this.1⟩
theorem rounds_zero (ls : List Link) : ∀ n, 0 ∈ rounds ls n
  | 0 => List.mem_singleton.mpr rfl
  | n + 1 => fold_sub (rounds_zero ls n)
theorem lk_name {ls : List Link} {j : Nat} {x : D} (h : ((ls.map lkD).map fun p => D.tup (p.1.map keyD))[j]? = some x) : ∃ l, ls[j]? = some l ∧ x = .tup ((nameD (l.w, l.n)).map keyD) := by
  rw [List.map_map, List.getElem?_map] at h
  cases e : ls[j]? with
  | none => rw [e] at h; cases h
  | some l => rw [e] at h; cases h; exact ⟨l, rfl, rfl⟩
theorem add1_D (f : List Int) (x y : Int) : (D.lst (f.map D.int ++ (if x ∈ f ∧ y ∉ f then [D.int y] else []))) = intsD (add1 f x y) := by
  unfold add1 intsD
  rw [List.map_append]
  split <;> rfl
theorem rd_add {p q : Nat} {sl : SL} {k : Nat} {Q : D → Nat → Prop} {f : List Int} {x y : Int} (h1 : sl[1]? = some (.d (intsD f))) (hp : sl[p]? = some (.d (.int x))) (hq : sl[q]? = some (.d (.int y))) (hf : f.length ≤ 90000) (h : Q (intsD (add1 f x y)) k) :
    dOp rCatD (dV 1) (dIf (dAnd (dTest (dOp (rInI false) (dV p) (dV 1))) (dTest (dOp (rInI true) (dV q) (dV 1)))) (dLst (dCons (dV q) dNil)) (dLst dNil)) sl k Q := by
  have hl : (f.map D.int).length ≤ 90000 := by rw [List.length_map]; exact hf
  refine ⟨_, h1, _, hp, _, h1, _, f, rfl, rfl, _, rfl, ?_⟩
  refine if_b (c := decide (x ∈ f)) rfl (fun hh => ?_) fun hh => ?_
  · refine ⟨_, hq, _, h1, _, f, rfl, rfl, _, rfl, ?_⟩
    refine if_b (c := !decide (y ∈ f)) rfl (fun h2 => ?_) fun h2 => ?_
    · refine ⟨_, hq, Nat.le_of_ble_eq_true rfl, _, _, rfl, rfl, by show _ + 1 ≤ _; omega, ?_⟩
      have e : D.lst (f.map D.int ++ [D.int y]) = intsD (add1 f x y) := by
        rw [← add1_D, if_pos ⟨of_decide_eq_true hh, by simpa using h2⟩]
      rw [e]
      exact h
    · refine ⟨Nat.le_of_ble_eq_true rfl, _, _, rfl, rfl, by show _ + 0 ≤ _; omega, ?_⟩
      have e : D.lst (f.map D.int ++ []) = intsD (add1 f x y) := by
        rw [← add1_D, if_neg fun z => z.2 (by simpa using h2)]
      rw [e]
      exact h
  · refine ⟨Nat.le_of_ble_eq_true rfl, _, _, rfl, rfl, by show _ + 0 ≤ _; omega, ?_⟩
    have e : D.lst (f.map D.int ++ []) = intsD (add1 f x y) := by
      rw [← add1_D, if_neg fun z => of_decide_eq_false hh z.1]
    rw [e]
    exact h
theorem add1_nd {f : List Int} {x y : Int} (h : f.Nodup) : (add1 f x y).Nodup := by
  unfold add1
  split
  · rename_i c
    rw [List.nodup_append]
    exact ⟨h, List.nodup_cons.mpr ⟨by simp, List.nodup_nil⟩, fun u hu v hv => by rw [List.mem_singleton.mp hv]; exact fun e => c.2 (e ▸ hu)⟩
  · rw [List.append_nil]; exact h
theorem fold_nd (ls : List Link) : ∀ {f : List Int}, f.Nodup → (ls.foldl stepL f).Nodup := by
  induction ls with
  | nil => exact fun h => h
  | cons l ls ih => exact fun h => ih (add1_nd (add1_nd h))
theorem rounds_nd (ls : List Link) : ∀ n, (rounds ls n).Nodup
  | 0 => List.nodup_cons.mpr ⟨by simp, List.nodup_nil⟩
  | n + 1 => fold_nd ls (rounds_nd ls n)
end K90


namespace K90
open PySem PySem.Spec PyProof.Rows L2 DL
variable {P : Program} {w : World} {K : PySem.W.Frag} {mg : Str → Option Value} {base : Heap} {a : Ad}
def nmD (l : Link) : D := .tup [.str l.w, .int l.n]
def nmP (l : Link) : PyData := .tuple [.str l.w, .int l.n]
theorem py_names : ∀ ls : List Link, pyL (ls.map nmD) = some (ls.map nmP)
  | [] => rfl
  | l :: ls => by
    rw [List.map_cons, List.map_cons]
    unfold pyL
    rw [py_names ls]
    rfl
theorem lay_names : ∀ ls : List Link, (∀ l ∈ ls, PyData.strOk l.w = true) → PyData.canLayAll0 (ls.map nmP) = true ∧ PyData.depthAll (ls.map nmP) ≤ 1
  | [], _ => ⟨rfl, Nat.zero_le _⟩
  | l :: ls, h => by
    obtain ⟨i1, i2⟩ := lay_names ls fun x hx => h x (List.mem_cons_of_mem _ hx)
    have hw := h l List.mem_cons_self
    rw [List.map_cons]
    constructor
    · unfold PyData.canLayAll0
      rw [i1, Bool.and_true]
      simp [nmP, PyData.canLay0, PyData.canLayAll0, hw]
    · unfold PyData.depthAll
      have : (nmP l).depth ≤ 1 := Nat.le_of_eq (by rfl)
      omega
def nP (ls : List Link) (ks : List Int) : D → Bool
  | .tup [.str w, .int n] => ls.any fun l => decide ((l.w, l.n) = (w, n)) && !decide (l.a ∈ ks)
  | _ => false
theorem nP_at {ls : List Link} {ks : List Int} (hu : Unlike ls) {l : Link} (hl : l ∈ ls) : nP ls ks (nmD l) = !decide (l.a ∈ ks) := by
  show (ls.any fun x => decide ((x.w, x.n) = (l.w, l.n)) && !decide (x.a ∈ ks)) = _
  induction ls with
  | nil => cases hl
  | cons x ls ih =>
    have hp := List.pairwise_cons.mp hu
    rw [List.any_cons]
    rcases List.mem_cons.mp hl with e | e
    · subst e
      have : (ls.any fun x => decide ((x.w, x.n) = (l.w, l.n)) && !decide (x.a ∈ ks)) = false := by
        rw [List.any_eq_false]
        intro y hy
        rw [decide_eq_false fun z => hp.1 y hy z.symm]
        simp
      rw [this, decide_eq_true rfl]
      simp
    · rw [decide_eq_false (hp.1 l e), Bool.false_and, Bool.false_or]
      exact ih hp.2 e
theorem filt_names {ls : List Link} {ks : List Int} (hu : Unlike ls) : ((((ls.map lkD).map fun p => D.tup (p.1.map keyD)).filter (nP ls ks)).map id) = (ls.filter fun l => !decide (l.a ∈ ks)).map nmD := by
  have e : ((ls.map lkD).map fun p => D.tup (p.1.map keyD)) = ls.map nmD := by rw [List.map_map]; rfl
  rw [e, List.map_id, List.filter_map]
  congr 1
  refine List.filter_congr fun l hl => nP_at hu hl
theorem str_links {p : Int} {cs : List Cut} {cov : Int → Int} {e : Int} {l : Link} (h : l ∈ links p cs cov e) : PyData.strOk l.w = true := by
  rcases List.mem_append.mp h with z | z
  · rw [(cut_names z).1]; decide +kernel
  · rw [(wait_names z).1]; decide +kernel
end K90


namespace K90
open PySem PySem.Spec PyProof.Rows L2 DL
variable {P : Program} {w : World} {K : PySem.W.Frag} {mg : Str → Option Value} {base : Heap} {a : Ad}
theorem list_bound : ∀ xs : List Int, ∃ M : Nat, ∀ x ∈ xs, x ≤ M
  | [] => ⟨0, fun _ h => by cases h⟩
  | x :: xs => by
    obtain ⟨M, h⟩ := list_bound xs
    refine ⟨M + x.toNat, fun y hy => ?_⟩
    rcases List.mem_cons.mp hy with e | e
    · subst e; omega
    · have := h y e; omega
theorem exists_let {p : Int} {cs : List Cut} (ok : CutsOk p cs) : ∃ e, 0 ≤ e ∧ Let p cs e := by
  have p1 := ok.p1
  obtain ⟨M, hM⟩ := list_bound (rng p (cover p cs))
  refine ⟨((M : Int) + 1) * p + 0, ?_, let_all ok fun q q0 q1 => ?_⟩
  · have : 0 ≤ ((M : Int) + 1) * p := Int.mul_nonneg (by omega) (by omega)
    omega
  · have h := hM _ (rng_mem.mpr ⟨q, q0, q1, rfl⟩)
    obtain ⟨d1, d2⟩ := div_of (p := p) (a := (M : Int) + 1) (l := 0) (by omega) (by omega)
    unfold free
    rw [d1, d2, if_neg (by omega)]
    omega
theorem least_of {R : Nat → Prop} (n : Nat) : R n → ∃ m, R m ∧ ∀ k, k < m → ¬ R k := by
  induction n using Nat.strongRecOn with
  | ind n ih =>
    intro h
    by_cases hx : ∃ k, k < n ∧ R k
    · obtain ⟨k, hk, hr⟩ := hx
      exact ih k hk hr
    · exact ⟨n, h, fun k hk hr => hx ⟨k, hk, hr⟩⟩
theorem exists_least {p : Int} {cs : List Cut} (ok : CutsOk p cs) : ∃ e, IsLeast p cs e := by
  obtain ⟨e, e0, hL⟩ := exists_let ok
  obtain ⟨m, h1, h2⟩ := least_of (R := fun n => Let p cs (n : Int)) e.toNat (by show Let p cs _; rw [Int.toNat_of_nonneg e0]; exact hL)
  refine ⟨m, by omega, h1, fun e' h0 hlt hL' => h2 e'.toNat (by omega) ?_⟩
  show Let p cs _
  rw [Int.toNat_of_nonneg h0]
  exact hL'
/-! sums over the phases -/
def sN (n : Nat) (f : Int → Int) : Int := ((List.range n).map fun (j : Nat) => f (j : Int)).sum
theorem sN_succ (n : Nat) (f : Int → Int) : sN (n + 1) f = sN n f + f n := by
  unfold sN
  rw [List.range_succ, List.map_append, List.sum_append]
  simp
theorem sN_add (n : Nat) (f g : Int → Int) : sN n (fun q => f q + g q) = sN n f + sN n g := by
  induction n with
  | zero => rfl
  | succ n ih => rw [sN_succ, sN_succ, sN_succ, ih]; omega
theorem sN_mul (n : Nat) (t : Int) (f : Int → Int) : sN n (fun q => t * f q) = t * sN n f := by
  induction n with
  | zero => show (0 : Int) = t * 0; rw [Int.mul_zero]
  | succ n ih => rw [sN_succ, sN_succ, ih, Int.mul_add]
theorem sN_const (n : Nat) (t : Int) : sN n (fun _ => t) = n * t := by
  induction n with
  | zero => show (0 : Int) = ((0 : Nat) : Int) * t; simp
  | succ n ih =>
    rw [sN_succ, ih]
    have : ((n + 1 : Nat) : Int) * t = n * t + t := by
      rw [show ((n + 1 : Nat) : Int) = (n : Int) + 1 from rfl, Int.add_mul, Int.one_mul]
    omega
theorem sN_lt (n : Nat) (r : Int) (h : 0 ≤ r) : sN n (fun q => if q < r then 1 else 0) = min (n : Int) r := by
  induction n with
  | zero => show (0 : Int) = _; omega
  | succ n ih =>
    rw [sN_succ, ih]
    split <;> omega
theorem sN_ring {p ph r : Int} (h0 : 0 ≤ ph) (h1 : ph < p) (r0 : 0 ≤ r) (r1 : r ≤ p) : ∀ n : Nat, (n : Int) ≤ p →
    sN n (fun q => if (q - ph) % p < r then 1 else 0) = min (min (n : Int) ph) (max 0 (ph + r - p)) + max 0 (min (n : Int) (ph + r) - ph)
  | 0, _ => by show (0 : Int) = _; omega
  | n + 1, hn => by
    rw [sN_succ, sN_ring h0 h1 r0 r1 n (by omega)]
    have e : ((n : Int) - ph) % p = if (n : Int) < ph then n - ph + p else n - ph := by
      by_cases hp : (n : Int) < ph
      · rw [if_pos hp]
        have : ((n : Int) - ph) % p = ((n : Int) - ph + p) % p := by rw [Int.add_emod_right]
        rw [this, Int.emod_eq_of_lt (by omega) (by omega)]
      · rw [if_neg hp, Int.emod_eq_of_lt (by omega) (by omega)]
    rw [e]
    by_cases hp : (n : Int) < ph
    · rw [if_pos hp]
      split <;> omega
    · rw [if_neg hp]
      split <;> omega
theorem sN_nn {n : Nat} {f : Int → Int} (h : ∀ q : Nat, q < n → 0 ≤ f q) : 0 ≤ sN n f := by
  induction n with
  | zero => exact Int.le_refl 0
  | succ n ih =>
    rw [sN_succ]
    have := ih fun q hq => h q (by omega)
    have := h n (by omega)
    omega
theorem sN_congr {n : Nat} {f g : Int → Int} (h : ∀ q : Nat, q < n → f q = g q) : sN n f = sN n g := by
  induction n with
  | zero => rfl
  | succ n ih => rw [sN_succ, sN_succ, ih fun q hq => h q (by omega), h n (by omega)]
def total (cs : List Cut) : Int := (cs.map fun c => c.long * c.times).sum
theorem sum_cnt {p : Int} {c : Cut} (h : c.ok p) : sN p.toNat (cnt p c) = c.long := by
  obtain ⟨g1, g2, g3, g4, g5, g6⟩ := h
  have hp : 0 < p := by omega
  obtain ⟨z1, z2⟩ := emod_in (a := c.long) (P := p) hp
  have e : sN p.toNat (cnt p c) = sN p.toNat (fun _ => c.long / p) + sN p.toNat (fun q => if (q - c.phase) % p < c.long % p then 1 else 0) := by
    rw [← sN_add]; rfl
  rw [e, sN_const, sN_ring g3 g4 z1 (by omega) p.toNat (by omega), Int.toNat_of_nonneg (by omega)]
  have := Int.emod_add_mul_ediv c.long p
  omega
theorem sum_cover {p : Int} {cs : List Cut} (h : ∀ c ∈ cs, c.ok p) : sN p.toNat (cover p cs) = total cs := by
  induction cs with
  | nil =>
    have : sN p.toNat (cover p []) = sN p.toNat (fun _ => 0) := sN_congr fun _ _ => rfl
    rw [this, sN_const]
    show _ * 0 = (0 : Int)
    rw [Int.mul_zero]
  | cons c cs ih =>
    have e : sN p.toNat (cover p (c :: cs)) = sN p.toNat (fun q => c.times * cnt p c q + cover p cs q) := sN_congr fun q _ => by
      unfold cover
      rw [List.map_cons, List.sum_cons]
    rw [e, sN_add, sN_mul, sum_cnt (h c List.mem_cons_self), ih fun x hx => h x (List.mem_cons_of_mem _ hx)]
    unfold total
    rw [List.map_cons, List.sum_cons, Int.mul_comm]
theorem let_total {p : Int} {cs : List Cut} (ok : CutsOk p cs) {e : Int} (h : Let p cs e) : total cs ≤ e := by
  have p1 := ok.p1
  have h1 : 0 ≤ sN p.toNat (free p (cover p cs) e) := sN_nn fun q hq => h.1 q (by omega) (by omega)
  have h2 : sN p.toNat (free p (cover p cs) e) + sN p.toNat (cover p cs) = sN p.toNat (fun q => e / p + if q < e % p then 1 else 0) := by
    rw [← sN_add]
    refine sN_congr fun q _ => ?_
    unfold free
    omega
  obtain ⟨z1, z2⟩ := emod_in (a := e) (P := p) (by omega)
  rw [sum_cover ok.ok, sN_add, sN_const, sN_lt _ _ z1, Int.toNat_of_nonneg (by omega)] at h2
  have := Int.emod_add_mul_ediv e p
  omega
theorem sum_nn : ∀ {xs : List Int}, (∀ x ∈ xs, 0 ≤ x) → 0 ≤ xs.sum
  | [], _ => Int.le_refl 0
  | x :: xs, h => by
    rw [List.sum_cons]
    have := h x List.mem_cons_self
    have := sum_nn fun y hy => h y (List.mem_cons_of_mem x hy)
    omega
def ltA : D → D
  | .tup [.int l, .int _, .int t] => .int (l * t)
  | y => y
end K90


namespace K90
open PySem PySem.Spec PyProof.Rows L2 DL
theorem text_small {a : Int} (h : a.natAbs.log2 < 1920) : (Str.ofString (toString a)).length ≤ 2000000 := by
  have e := PySem.int_text_length_le (k := 1920) (by decide) h
  rw [PySem.ofString_length]
  omega
theorem shown_pair {i j : Int} (hi : i.natAbs.log2 < 1920) (hj : j.natAbs.log2 < 1920) : (PyData.shown (.tuple [.int i, .int j])).length ≤ sizeLine := by
  have h1 := text_small hi
  have h2 := text_small hj
  have e : PyData.shown (.tuple [.int i, .int j]) = tupleText [Str.ofString (toString i), Str.ofString (toString j)] := by simp [PyData.shown, PyData.shownAll]
  have jl := join_length_add [Str.ofString (toString i), Str.ofString (toString j)] (by simp)
  rw [piled_cons, piled_cons] at jl
  have p0 : piled [] = 0 := rfl
  rw [e]
  unfold tupleText
  rw [Str.length_append, Str.length_append]
  have l1 : (Str.ofString "(").length = 1 := rfl
  have l2 : (Str.ofString (if ([Str.ofString (toString i), Str.ofString (toString j)].length == 1) = true then ",)" else ")")).length = 1 := rfl
  have := sizeLine_eq
  omega
theorem log_small {a : Int} (h : a.natAbs < 2 ^ 200) : a.natAbs.log2 < 1920 := by
  by_cases z : a.natAbs = 0
  · rw [z]; decide
  · exact (Nat.log2_lt z).mpr (Nat.lt_trans h (Nat.pow_lt_pow_right (by decide) (by decide)))
theorem cnt_le {p : Int} {c : Cut} (p1 : 1 ≤ p) (h : 1 ≤ c.long) (q : Int) : cnt p c q ≤ c.long := by
  unfold cnt
  have hd := Int.emod_add_mul_ediv c.long p
  obtain ⟨z1, z2⟩ := emod_in (a := c.long) (P := p) (by omega)
  have hq : 0 ≤ c.long / p := Int.ediv_nonneg (by omega) (by omega)
  have h1 : 1 * (c.long / p) ≤ p * (c.long / p) := Int.mul_le_mul_of_nonneg_right p1 hq
  obtain ⟨w1, w2⟩ := emod_in (a := q - c.phase) (P := p) (by omega)
  split <;> omega
theorem cover_le {p : Int} (p1 : 1 ≤ p) (q : Int) : ∀ {cs : List Cut}, (∀ c ∈ cs, c.ok p) → cover p cs q ≤ total cs
  | [], _ => Int.le_refl 0
  | c :: cs, h => by
    have i := cover_le p1 q fun x hx => h x (List.mem_cons_of_mem c hx)
    obtain ⟨g1, g2, g3, g4, g5, g6⟩ := h c List.mem_cons_self
    have h1 : c.times * cnt p c q ≤ c.times * c.long := Int.mul_le_mul_of_nonneg_left (cnt_le p1 g1 q) (by omega)
    unfold cover total at i ⊢
    rw [List.map_cons, List.map_cons, List.sum_cons, List.sum_cons, Int.mul_comm c.long]
    omega
theorem least_le {p : Int} {cs : List Cut} (ok : CutsOk p cs) {e : Int} (h : IsLeast p cs e) : e ≤ (total cs + 1) * p := by
  have p1 := ok.p1
  have hB : Let p cs ((total cs + 1) * p + 0) := let_all ok fun q q0 q1 => by
    obtain ⟨d1, d2⟩ := div_of (p := p) (a := total cs + 1) (l := 0) (by omega) (by omega)
    unfold free
    rw [d1, d2, if_neg (by omega)]
    have := cover_le p1 q ok.ok
    omega
  have h0 : 0 ≤ (total cs + 1) * p := by
    have := cover_nn ok 0
    have := cover_le p1 0 ok.ok
    exact Int.mul_nonneg (by omega) (by omega)
  by_cases z : e ≤ (total cs + 1) * p
  · exact z
  · exact absurd hB (h.2.2 _ (by omega) (by omega))
end K90


namespace K90
open PySem PySem.Spec PyProof.Rows L2 DL
/-! ### lanes, without bounds: what hangs together, by phases alone -/
structure CW (P : Int) (cs : List Cut) : Prop where
  p1 : 1 ≤ P
  ok : ∀ c ∈ cs, 1 ≤ c.long ∧ 0 ≤ c.phase ∧ c.phase < P ∧ 1 ≤ c.times
theorem CutsOk.cw {P : Int} {cs : List Cut} (h : CutsOk P cs) : CW P cs := ⟨h.p1, fun c hc => let ⟨a, _, b, c, d, _⟩ := h.ok c hc; ⟨a, b, c, d⟩⟩
/-- an edge: of a cut, or of a phase in F -/
def Ed (P : Int) (cs : List Cut) (F : Int → Prop) (x y : Int) : Prop := (∃ c ∈ cs, x = c.phase ∧ y = (c.long + c.phase) % P) ∨ (F x ∧ y = (x + 1) % P)
def CompR (R : Int → Int → Prop) (q : Int) : Prop := ∀ S : Int → Prop, S 0 → (∀ x y, R x y → (S x ↔ S y)) → S q
def Hang (R : Int → Int → Prop) : Prop := ∀ x y, R x y → CompR R x
def wait (P : Int) (cs : List Cut) (e q : Int) : Int := free P (cover P cs) e q
def Fr (P : Int) (cs : List Cut) (e q : Int) : Prop := 0 ≤ q ∧ q < P ∧ 0 < wait P cs e q
theorem mem_cutLinks {P : Int} {cs : List Cut} {c : Cut} (h : c ∈ cs) : ∃ n, (⟨c.phase, (c.long + c.phase) % P, "cut", n⟩ : Link) ∈ cutLinks P cs := by
  obtain ⟨i, hi⟩ := List.getElem?_of_mem h
  refine ⟨i, List.mem_map.mpr ⟨(c, i), ?_, rfl⟩⟩
  rw [List.mem_zipIdx_iff_getElem?]
  exact hi
theorem cutLinks_mem {P : Int} {cs : List Cut} {l : Link} (h : l ∈ cutLinks P cs) : ∃ c ∈ cs, l.a = c.phase ∧ l.b = (c.long + c.phase) % P := by
  obtain ⟨x, hx, rfl⟩ := List.mem_map.mp h
  obtain ⟨c, i⟩ := x
  rw [List.mem_zipIdx_iff_getElem?] at hx
  exact ⟨c, List.mem_of_getElem? hx, rfl, rfl⟩
theorem ed_links {P : Int} {cs : List Cut} {fr : List Int} {F : Int → Prop} (hF : ∀ q, q ∈ fr ↔ F q) {x y : Int} : Ed P cs F x y ↔ ∃ l ∈ cutLinks P cs ++ waitLinks P fr, l.a = x ∧ l.b = y := by
  constructor
  · rintro (⟨c, hc, rfl, rfl⟩ | ⟨h, rfl⟩)
    · obtain ⟨n, hn⟩ := mem_cutLinks (P := P) hc
      exact ⟨_, List.mem_append_left _ hn, rfl, rfl⟩
    · exact ⟨_, List.mem_append_right _ (List.mem_map.mpr ⟨x, (hF x).mpr h, rfl⟩), rfl, rfl⟩
  · rintro ⟨l, hl, rfl, rfl⟩
    rcases List.mem_append.mp hl with h | h
    · exact .inl (cutLinks_mem h)
    · obtain ⟨q, hq, rfl⟩ := List.mem_map.mp h
      exact .inr ⟨(hF q).mp hq, rfl⟩
theorem comp_iff {ls : List Link} {R : Int → Int → Prop} (h : ∀ x y, R x y ↔ ∃ l ∈ ls, l.a = x ∧ l.b = y) (q : Int) : Comp ls q ↔ CompR R q := by
  constructor
  · intro c S h0 hS
    exact c S h0 fun l hl => hS _ _ ((h _ _).mpr ⟨l, hl, rfl, rfl⟩)
  · intro c S h0 hS
    refine c S h0 fun x y r => ?_
    obtain ⟨l, hl, rfl, rfl⟩ := (h _ _).mp r
    exact hS l hl
theorem hang_iff {ls : List Link} {R : Int → Int → Prop} (h : ∀ x y, R x y ↔ ∃ l ∈ ls, l.a = x ∧ l.b = y) : (∀ l ∈ ls, Comp ls l.a) ↔ Hang R := by
  constructor
  · intro hl x y r
    obtain ⟨l, h1, rfl, rfl⟩ := (h _ _).mp r
    exact (comp_iff h _).mp (hl l h1)
  · intro hR l hl
    exact (comp_iff h _).mpr (hR _ _ ((h _ _).mpr ⟨l, hl, rfl, rfl⟩))
theorem freeAt_mem {P : Int} {cs : List Cut} {e q : Int} : q ∈ freeAt P (cover P cs) e ↔ Fr P cs e q := by
  unfold freeAt
  rw [List.mem_filter, rng_mem]
  constructor
  · rintro ⟨⟨x, x0, x1, ex⟩, h⟩
    have ex : q = x := ex
    subst ex
    exact ⟨x0, x1, of_decide_eq_true h⟩
  · rintro ⟨h0, h1, h2⟩
    exact ⟨⟨q, h0, h1, rfl⟩, decide_eq_true h2⟩
theorem let_iff {P : Int} {cs : List Cut} {e : Int} : Let P cs e ↔ (∀ q, 0 ≤ q → q < P → 0 ≤ wait P cs e q) ∧ Hang (Ed P cs (Fr P cs e)) := by
  have h := hang_iff (ls := links P cs (cover P cs) e) (R := Ed P cs (Fr P cs e)) fun x y => ed_links fun q => freeAt_mem
  unfold Let
  rw [h]
  rfl
theorem CompR.step {R : Int → Int → Prop} {x y : Int} (r : R x y) : CompR R x ↔ CompR R y := ⟨fun c S h0 hS => (hS _ _ r).mp (c S h0 hS), fun c S h0 hS => (hS _ _ r).mpr (c S h0 hS)⟩
theorem CompR.zero {R : Int → Int → Prop} : CompR R 0 := fun _ h _ => h
theorem CompR.mono {R R' : Int → Int → Prop} (h : ∀ x y, R x y → R' x y) {q : Int} (c : CompR R q) : CompR R' q := fun S h0 hS => c S h0 fun x y r => hS x y (h x y r)
theorem Hang.congr {R R' : Int → Int → Prop} (h : ∀ x y, R x y ↔ R' x y) : Hang R ↔ Hang R' := by
  have e : R = R' := funext fun x => funext fun y => propext (h x y)
  rw [e]
theorem free_next {P : Int} {cov : Int → Int} {e q : Int} (p1 : 1 ≤ P) (q0 : 0 ≤ q) (q1 : q < P) : free P cov (e + 1) q = free P cov e q + if q = e % P then 1 else 0 := by
  obtain ⟨z1, z2⟩ := emod_in (a := e) (P := P) (by omega)
  have hd := Int.emod_add_mul_ediv e P
  unfold free
  by_cases h : e % P + 1 = P
  · have e1 : e + 1 = (e / P + 1) * P + 0 := by rw [Int.add_mul, Int.mul_comm]; omega
    obtain ⟨d1, d2⟩ := div_of (p := P) (a := e / P + 1) (l := 0) (by omega) (by omega)
    rw [e1, d1, d2, if_neg (by omega)]
    by_cases hq : q < e % P
    · rw [if_pos hq, if_neg (by omega)]; omega
    · rw [if_neg hq, if_pos (by omega)]; omega
  · have e1 : e + 1 = (e / P) * P + (e % P + 1) := by rw [Int.mul_comm]; omega
    obtain ⟨d1, d2⟩ := div_of (p := P) (a := e / P) (l := e % P + 1) (by omega) (by omega)
    rw [e1, d1, d2]
    by_cases hq : q < e % P
    · rw [if_pos hq, if_pos (by omega), if_neg (by omega)]; omega
    · by_cases hq2 : q = e % P
      · rw [if_neg hq, if_pos (by omega), if_pos hq2]; omega
      · rw [if_neg hq, if_neg (by omega), if_neg hq2]; omega
/-- where no cut ends the cover grows -/
theorem cnt_up {P : Int} {c : Cut} {z : Int} (p1 : 1 ≤ P) (h : (c.long + c.phase) % P ≠ z) (z0 : 0 ≤ z) (z1 : z < P) : cnt P c (z - 1) ≤ cnt P c z := by
  unfold cnt
  by_cases h1 : (z - 1 - c.phase) % P < c.long % P
  · rw [if_pos h1]
    suffices hh : (z - c.phase) % P < c.long % P by rw [if_pos hh]; exact Int.le_refl _
    obtain ⟨y1, y2⟩ := emod_in (a := z - 1 - c.phase) (P := P) (by omega)
    obtain ⟨x1, x2⟩ := emod_in (a := c.long) (P := P) (by omega)
    have e : (z - c.phase) % P = ((z - 1 - c.phase) % P + 1) % P := by
      rw [Int.emod_add_emod]
      congr 1
      omega
    rw [e, Int.emod_eq_of_lt (by omega) (by omega)]
    by_cases h2 : (z - 1 - c.phase) % P + 1 = c.long % P
    · exfalso
      apply h
      have e2 : (z - c.phase) % P = c.long % P := by rw [e, Int.emod_eq_of_lt (by omega) (by omega), h2]
      rw [Int.add_emod, ← e2, ← Int.add_emod]
      rw [Int.sub_add_cancel]
      exact Int.emod_eq_of_lt z0 z1
    · omega
  · rw [if_neg h1]
    split <;> omega
theorem cover_up {P : Int} {z : Int} (z0 : 0 ≤ z) (z1 : z < P) : ∀ {cs : List Cut}, CW P cs → (∀ c ∈ cs, (c.long + c.phase) % P ≠ z) → cover P cs (z - 1) ≤ cover P cs z
  | [], _, _ => Int.le_refl 0
  | c :: cs, ok, h => by
    have i := cover_up z0 z1 (cs := cs) ⟨ok.p1, fun x hx => ok.ok x (List.mem_cons_of_mem c hx)⟩ fun x hx => h x (List.mem_cons_of_mem c hx)
    obtain ⟨_, _, _, g⟩ := ok.ok c List.mem_cons_self
    have h1 := cnt_up ok.p1 (h c List.mem_cons_self) z0 z1
    have h2 : c.times * cnt P c (z - 1) ≤ c.times * cnt P c z := Int.mul_le_mul_of_nonneg_left h1 (by omega)
    unfold cover at i ⊢
    rw [List.map_cons, List.map_cons, List.sum_cons, List.sum_cons]
    omega
/-- the end's phase hangs together with 0 -/
theorem end_comp {P : Int} {cs : List Cut} {e : Int} (ok : CW P cs) (e0 : 0 ≤ e) (h : Let P cs e) : CompR (Ed P cs (Fr P cs e)) (e % P) := by
  have p1 := ok.p1
  obtain ⟨hn, hh⟩ := let_iff.mp h
  obtain ⟨z1, z2⟩ := emod_in (a := e) (P := P) (by omega)
  by_cases hz : e % P = 0
  · rw [hz]; exact CompR.zero
  by_cases hc : ∃ c ∈ cs, (c.long + c.phase) % P = e % P
  · obtain ⟨c, hc, ec⟩ := hc
    have r : Ed P cs (Fr P cs e) c.phase (e % P) := .inl ⟨c, hc, rfl, ec.symm⟩
    exact (CompR.step r).mp (hh _ _ r)
  · have hcov := cover_up z1 z2 ok fun c hc' ec => hc ⟨c, hc', ec⟩
    have w := hn (e % P) z1 z2
    have hw : 0 < wait P cs e (e % P - 1) := by
      unfold wait free at *
      rw [if_neg (by omega)] at w
      rw [if_pos (by omega)]
      omega
    have r : Ed P cs (Fr P cs e) (e % P - 1) (e % P) := .inr ⟨⟨by omega, by omega, hw⟩, by rw [Int.sub_add_cancel]; exact (Int.emod_eq_of_lt z1 z2).symm⟩
    exact (CompR.step r).mp (hh _ _ r)
theorem Let.next {P : Int} {cs : List Cut} {e : Int} (ok : CW P cs) (e0 : 0 ≤ e) (h : Let P cs e) : Let P cs (e + 1) := by
  have p1 := ok.p1
  have hc := end_comp ok e0 h
  obtain ⟨hn, hh⟩ := let_iff.mp h
  obtain ⟨z1, z2⟩ := emod_in (a := e) (P := P) (by omega)
  have hw : ∀ q, 0 ≤ q → q < P → wait P cs (e + 1) q = wait P cs e q + if q = e % P then 1 else 0 := fun q q0 q1 => free_next p1 q0 q1
  refine let_iff.mpr ⟨fun q q0 q1 => ?_, ?_⟩
  · rw [hw q q0 q1]
    have := hn q q0 q1
    split <;> omega
  · have sub : ∀ x y, Ed P cs (Fr P cs e) x y → Ed P cs (Fr P cs (e + 1)) x y := fun x y r => r.imp id fun ⟨⟨a, b, c⟩, d⟩ => ⟨⟨a, b, by rw [hw x a b]; split <;> omega⟩, d⟩
    intro x y r
    rcases r with r | ⟨⟨x0, x1, x2⟩, ey⟩
    · exact (hh x y (.inl r)).mono sub
    · by_cases hx : x = e % P
      · rw [hx]; exact hc.mono sub
      · rw [hw x x0 x1, if_neg hx] at x2
        exact (hh x y (.inr ⟨⟨x0, x1, by omega⟩, ey⟩)).mono sub
theorem Let.mono {P : Int} {cs : List Cut} {e f : Int} (ok : CW P cs) (e0 : 0 ≤ e) (h : Let P cs e) (hf : e ≤ f) : Let P cs f := by
  have : ∀ n : Nat, Let P cs (e + n) := fun n => by
    induction n with
    | zero => simpa using h
    | succ n ih =>
      have := Let.next ok (by omega) ih
      have e : e + ((n + 1 : Nat) : Int) = e + n + 1 := by omega
      rw [e]; exact this
  have h2 := this (f - e).toNat
  have e : e + (((f - e).toNat : Nat) : Int) = f := by omega
  rwa [e] at h2
theorem IsLeast.iff {P : Int} {cs : List Cut} {L e : Int} (ok : CW P cs) (h : IsLeast P cs L) (e0 : 0 ≤ e) : Let P cs e ↔ L ≤ e :=
  ⟨fun z => by
    by_cases hh : L ≤ e
    · exact hh
    · exact absurd z (h.2.2 e e0 (by omega)), fun z => Let.mono ok h.1 h.2.1 z⟩
/-! ### more cuts -/
theorem cover_append (P : Int) (as bs : List Cut) (q : Int) : cover P (as ++ bs) q = cover P as q + cover P bs q := by
  unfold cover
  rw [List.map_append, List.sum_append]
theorem CW.left {P : Int} {as bs : List Cut} (h : CW P (as ++ bs)) : CW P as := ⟨h.p1, fun c hc => h.ok c (List.mem_append_left _ hc)⟩
theorem CW.right {P : Int} {as bs : List Cut} (h : CW P (as ++ bs)) : CW P bs := ⟨h.p1, fun c hc => h.ok c (List.mem_append_right _ hc)⟩
theorem CW.app {P : Int} {as bs : List Cut} (h : CW P as) (h' : CW P bs) : CW P (as ++ bs) := ⟨h.p1, fun c hc => (List.mem_append.mp hc).elim (h.ok c) (h'.ok c)⟩
theorem cnt_nn {P : Int} {c : Cut} (p1 : 1 ≤ P) (h : 1 ≤ c.long) (q : Int) : 0 ≤ cnt P c q := by
  unfold cnt
  have : 0 ≤ c.long / P := Int.ediv_nonneg (by omega) (by omega)
  split <;> omega
theorem cover_nnW {P : Int} {cs : List Cut} (ok : CW P cs) (q : Int) : 0 ≤ cover P cs q := by
  have p1 := ok.p1
  have h := ok.ok
  clear ok
  induction cs with
  | nil => exact Int.le_refl 0
  | cons c cs ih =>
    have i := ih fun c' hc' => h c' (List.mem_cons_of_mem _ hc')
    obtain ⟨g1, _, _, g5⟩ := h c List.mem_cons_self
    unfold cover at i ⊢
    rw [List.map_cons, List.sum_cons]
    have : 0 ≤ c.times * cnt P c q := Int.mul_nonneg (by omega) (cnt_nn p1 g1 q)
    omega
theorem cover_memW {P : Int} {cs : List Cut} (ok : CW P cs) {c : Cut} (hc : c ∈ cs) (q : Int) : cnt P c q ≤ cover P cs q := by
  have p1 := ok.p1
  induction cs with
  | nil => cases hc
  | cons d cs ih =>
    have ok' : CW P cs := ⟨p1, fun x hx => ok.ok x (List.mem_cons_of_mem d hx)⟩
    have e : cover P (d :: cs) q = d.times * cnt P d q + cover P cs q := by unfold cover; rw [List.map_cons, List.sum_cons]
    have n := cover_nnW ok' q
    obtain ⟨g1, _, _, g5⟩ := ok.ok d List.mem_cons_self
    have n2 := cnt_nn p1 g1 q
    have h1 : 1 * cnt P d q ≤ d.times * cnt P d q := Int.mul_le_mul_of_nonneg_right g5 n2
    rcases List.mem_cons.mp hc with h | h
    · subst h; omega
    · have := ih ok' h; omega
/-- a step that a cut takes -/
theorem cnt_pos {P : Int} {c : Cut} {i : Int} (p1 : 1 ≤ P) (h0 : 0 ≤ i) (h1 : i < c.long) : 1 ≤ cnt P c ((c.phase + i) % P) := by
  unfold cnt
  have hd := Int.emod_add_mul_ediv c.long P
  obtain ⟨x1, x2⟩ := emod_in (a := c.long) (P := P) (by omega)
  have e : ((c.phase + i) % P - c.phase) % P = i % P := by
    rw [Int.emod_sub_emod]
    congr 1
    omega
  rw [e]
  have hq : 0 ≤ c.long / P := Int.ediv_nonneg (by omega) (by omega)
  by_cases hz : c.long / P = 0
  · rw [hz] at hd ⊢
    rw [Int.emod_eq_of_lt h0 (by omega), if_pos (by omega)]
    omega
  · split <;> omega
theorem cnt_pos_of {P : Int} {c : Cut} {q : Int} (p1 : 1 ≤ P) (hl : 1 ≤ c.long) (h : 0 < cnt P c q) : (q - c.phase) % P < c.long := by
  unfold cnt at h
  have hd := Int.emod_add_mul_ediv c.long P
  obtain ⟨x1, x2⟩ := emod_in (a := c.long) (P := P) (by omega)
  obtain ⟨y1, y2⟩ := emod_in (a := q - c.phase) (P := P) (by omega)
  have hq : 0 ≤ c.long / P := Int.ediv_nonneg (by omega) (by omega)
  by_cases hz : c.long / P = 0
  · rw [hz] at hd h
    split at h <;> omega
  · have : P * 1 ≤ P * (c.long / P) := Int.mul_le_mul_of_nonneg_left (by omega) (by omega)
    omega
theorem cover_pos_of {P : Int} {q : Int} : ∀ {cs : List Cut}, CW P cs → 0 < cover P cs q → ∃ c ∈ cs, 0 < cnt P c q
  | [], _, h => by have : (0 : Int) < 0 := h; omega
  | c :: cs, ok, h => by
    have ok' : CW P cs := ⟨ok.p1, fun x hx => ok.ok x (List.mem_cons_of_mem c hx)⟩
    by_cases hc : 0 < cnt P c q
    · exact ⟨c, List.mem_cons_self, hc⟩
    · obtain ⟨g1, _, _, g5⟩ := ok.ok c List.mem_cons_self
      have n2 := cnt_nn ok.p1 g1 q
      have e : cover P (c :: cs) q = c.times * cnt P c q + cover P cs q := by unfold cover; rw [List.map_cons, List.sum_cons]
      have z : cnt P c q = 0 := by omega
      rw [z, Int.mul_zero, Int.zero_add] at e
      obtain ⟨d, hd, h⟩ := cover_pos_of (q := q) ok' (by omega)
      exact ⟨d, List.mem_cons_of_mem c hd, h⟩
/-- along n steps -/
theorem along {P : Int} {S : Int → Prop} {p : Int} : ∀ n : Nat, (∀ i : Nat, i < n → (S ((p + i) % P) ↔ S (((p + i) % P + 1) % P))) → (S (p % P) ↔ S ((p + n) % P))
  | 0, _ => by simp
  | n + 1, h => by
    have i := along n fun i hi => h i (by omega)
    have j := h n (by omega)
    rw [i, j, Int.emod_add_emod]
    have e : p + (n : Int) + 1 = p + ((n + 1 : Nat) : Int) := by omega
    rw [e]
/-- a lot that is within another one; what is left free of the rest waits -/
theorem Let.left {P : Int} {as bs : List Cut} {e : Int} (ok : CW P (as ++ bs)) (h : Let P (as ++ bs) e) : Let P as e := by
  have p1 := ok.p1
  obtain ⟨hn, hh⟩ := let_iff.mp h
  have okb := ok.right
  have hw : ∀ q, wait P as e q = wait P (as ++ bs) e q + cover P bs q := fun q => by
    unfold wait free
    rw [cover_append]; omega
  refine let_iff.mpr ⟨fun q q0 q1 => by rw [hw]; have := hn q q0 q1; have := cover_nnW okb q; omega, ?_⟩
  have key : ∀ S : Int → Prop, S 0 → (∀ x y, Ed P as (Fr P as e) x y → (S x ↔ S y)) → (∀ x y, Ed P (as ++ bs) (Fr P (as ++ bs) e) x y → (S x ↔ S y)) ∧ ∀ c ∈ bs, ∀ n : Nat, (n : Int) ≤ c.long → (S c.phase ↔ S ((c.phase + n) % P)) := fun S h0 hS => by
    have hb : ∀ c ∈ bs, ∀ n : Nat, (n : Int) ≤ c.long → (S c.phase ↔ S ((c.phase + n) % P)) := fun c hc n hn' => by
      obtain ⟨g1, g2, g3, g4⟩ := okb.ok c hc
      have := along (P := P) (S := S) (p := c.phase) n fun i hi => by
        obtain ⟨z1, z2⟩ := emod_in (a := c.phase + i) (P := P) (by omega)
        refine hS _ _ (.inr ⟨⟨z1, z2, ?_⟩, rfl⟩)
        have a1 := cnt_pos (P := P) (c := c) (i := i) p1 (by omega) (by omega)
        have a2 := cover_memW okb hc ((c.phase + i) % P)
        have a3 := hn _ z1 z2
        rw [hw]
        omega
      rwa [Int.emod_eq_of_lt g2 g3] at this
    refine ⟨fun x y r => ?_, hb⟩
    rcases r with ⟨c, hc, rfl, rfl⟩ | ⟨⟨x0, x1, x2⟩, ey⟩
    · rcases List.mem_append.mp hc with hc | hc
      · exact hS _ _ (.inl ⟨c, hc, rfl, rfl⟩)
      · obtain ⟨g1, _⟩ := okb.ok c hc
        have := hb c hc c.long.toNat (by omega)
        rw [Int.toNat_of_nonneg (by omega)] at this
        rw [this, Int.add_comm]
    · refine hS _ _ (.inr ⟨⟨x0, x1, ?_⟩, ey⟩)
      rw [hw]
      have := cover_nnW okb x
      omega
  intro x y r S h0 hS
  obtain ⟨k1, k2⟩ := key S h0 hS
  rcases r with ⟨c, hc, rfl, rfl⟩ | ⟨⟨x0, x1, x2⟩, ey⟩
  · exact hh _ _ (.inl ⟨c, List.mem_append_left _ hc, rfl, rfl⟩) S h0 k1
  · by_cases hx : 0 < wait P (as ++ bs) e x
    · exact hh _ _ (.inr ⟨⟨x0, x1, hx⟩, ey⟩) S h0 k1
    · rw [hw] at x2
      have hnx := hn x x0 x1
      obtain ⟨c, hc, hp⟩ := cover_pos_of okb (show 0 < cover P bs x by omega)
      obtain ⟨g1, g2, g3, g4⟩ := okb.ok c hc
      have hlt := cnt_pos_of p1 g1 hp
      obtain ⟨y1, y2⟩ := emod_in (a := x - c.phase) (P := P) (by omega)
      have hS' := k2 c hc ((x - c.phase) % P).toNat (by omega)
      rw [Int.toNat_of_nonneg y1, Int.add_emod_emod] at hS'
      have e1 : c.phase + (x - c.phase) = x := by omega
      rw [e1, Int.emod_eq_of_lt x0 x1] at hS'
      exact hS'.mp (hh _ _ (.inl ⟨c, List.mem_append_right _ hc, rfl, rfl⟩) S h0 k1)
/-- the same cuts otherwise told -/
structure Alike (P : Int) (as bs : List Cut) : Prop where
  cov : ∀ q, 0 ≤ q → q < P → cover P as q = cover P bs q
  ab : ∀ c ∈ as, ∃ d ∈ bs, d.phase = c.phase ∧ (d.long + d.phase) % P = (c.long + c.phase) % P
  ba : ∀ c ∈ bs, ∃ d ∈ as, d.phase = c.phase ∧ (d.long + d.phase) % P = (c.long + c.phase) % P
theorem Alike.symm {P : Int} {as bs : List Cut} (h : Alike P as bs) : Alike P bs as := ⟨fun q a b => (h.cov q a b).symm, h.ba, h.ab⟩
theorem Alike.let {P : Int} {as bs : List Cut} {e : Int} (h : Alike P as bs) : Let P as e ↔ Let P bs e := by
  have hw : ∀ q, 0 ≤ q → q < P → wait P as e q = wait P bs e q := fun q a b => by unfold wait free; rw [h.cov q a b]
  rw [let_iff, let_iff]
  have h1 : (∀ q, 0 ≤ q → q < P → 0 ≤ wait P as e q) ↔ (∀ q, 0 ≤ q → q < P → 0 ≤ wait P bs e q) :=
    ⟨fun z q a b => by rw [← hw q a b]; exact z q a b, fun z q a b => by rw [hw q a b]; exact z q a b⟩
  have h2 : Hang (Ed P as (Fr P as e)) ↔ Hang (Ed P bs (Fr P bs e)) := Hang.congr fun x y => by
    constructor
    · rintro (⟨c, hc, rfl, rfl⟩ | ⟨⟨a, b, w⟩, ey⟩)
      · obtain ⟨d, hd, e1, e2⟩ := h.ab c hc
        exact .inl ⟨d, hd, e1.symm, e2.symm⟩
      · exact .inr ⟨⟨a, b, by rw [← hw x a b]; exact w⟩, ey⟩
    · rintro (⟨c, hc, rfl, rfl⟩ | ⟨⟨a, b, w⟩, ey⟩)
      · obtain ⟨d, hd, e1, e2⟩ := h.ba c hc
        exact .inl ⟨d, hd, e1.symm, e2.symm⟩
      · exact .inr ⟨⟨a, b, by rw [hw x a b]; exact w⟩, ey⟩
  rw [h1, h2]
theorem Alike.least {P : Int} {as bs : List Cut} {L : Int} (h : Alike P as bs) (l : IsLeast P as L) : IsLeast P bs L := ⟨l.1, h.let.mp l.2.1, fun e a b z => l.2.2 e a b (h.let.mpr z)⟩
theorem perm_sumI {xs ys : List Int} (h : xs.Perm ys) : xs.sum = ys.sum := by
  induction h with
  | nil => rfl
  | cons x _ ih => rw [List.sum_cons, List.sum_cons, ih]
  | swap x y l => rw [List.sum_cons, List.sum_cons, List.sum_cons, List.sum_cons]; omega
  | trans _ _ i j => rw [i, j]
theorem perm_alike {P : Int} {as bs : List Cut} (h : as.Perm bs) : Alike P as bs :=
  ⟨fun q _ _ => by unfold cover; exact perm_sumI (h.map _), fun c hc => ⟨c, h.mem_iff.mp hc, rfl, rfl⟩, fun c hc => ⟨c, h.mem_iff.mpr hc, rfl, rfl⟩⟩
/-! ### copies -/
def many (cs : List Cut) (n : Int) : List Cut := cs.map fun c => ⟨c.long, c.phase, c.times * n⟩
theorem cover_many (P : Int) (cs : List Cut) (n q : Int) : cover P (many cs n) q = n * cover P cs q := by
  induction cs with
  | nil => show (0 : Int) = n * 0; rw [Int.mul_zero]
  | cons c cs ih =>
    unfold cover many at ih ⊢
    rw [List.map_cons, List.map_cons, List.map_cons, List.sum_cons, List.sum_cons, ih, Int.mul_add]
    show c.times * n * cnt P c q + _ = _
    rw [Int.mul_comm c.times n, Int.mul_assoc]
theorem CW.many {P : Int} {cs : List Cut} (h : CW P cs) {n : Int} (hn : 1 ≤ n) : CW P (many cs n) := ⟨h.p1, fun c hc => by
  obtain ⟨d, hd, rfl⟩ := List.mem_map.mp hc
  obtain ⟨a, b, c, e⟩ := h.ok d hd
  have : 1 * 1 ≤ d.times * n := Int.mul_le_mul e hn (by omega) (by omega)
  exact ⟨a, b, c, by show 1 ≤ d.times * n; omega⟩⟩
theorem many_add {P : Int} (cs : List Cut) (m n : Int) : Alike P (many cs (m + n)) (many cs m ++ many cs n) :=
  ⟨fun q _ _ => by rw [cover_append, cover_many, cover_many, cover_many, Int.add_mul],
   fun c hc => by
    obtain ⟨d, hd, rfl⟩ := List.mem_map.mp hc
    exact ⟨_, List.mem_append_left _ (List.mem_map.mpr ⟨d, hd, rfl⟩), rfl, rfl⟩,
   fun c hc => by
    rcases List.mem_append.mp hc with hc | hc <;>
    · obtain ⟨d, hd, rfl⟩ := List.mem_map.mp hc
      exact ⟨_, List.mem_map.mpr ⟨d, hd, rfl⟩, rfl, rfl⟩⟩
theorem many_one (cs : List Cut) : many cs 1 = cs := by
  unfold many
  have : (fun c : Cut => (⟨c.long, c.phase, c.times * 1⟩ : Cut)) = id := funext fun c => by rw [Int.mul_one]; rfl
  rw [this, List.map_id]
theorem Let.fewer {P : Int} {cs : List Cut} (ok : CW P cs) {m n e : Int} (h : Let P (many cs n) e) (hm : 1 ≤ m) (hn : m ≤ n) : Let P (many cs m) e := by
  by_cases z : m = n
  · rw [z]; exact h
  · have e1 : n = m + (n - m) := by omega
    rw [e1] at h
    exact Let.left (CW.app (ok.many hm) (ok.many (by omega))) ((many_add cs m (n - m)).let.mp h)
end K90


namespace K90
open PySem PySem.Spec PyProof.Rows L2 DL
/-! ### the Form of copies -/
theorem steps_at {P a j q : Int} (p1 : 1 ≤ P) (h1 : -P ≤ j) (h2 : j ≤ P) (q0 : 0 ≤ q) (q1 : q < P) :
    (a * P + j) / P + (if q < (a * P + j) % P then 1 else 0) = a + if j < 0 then (if q < j + P then 0 else -1) else (if q < j then 1 else 0) := by
  by_cases hj : j < 0
  · have e : a * P + j = (a - 1) * P + (j + P) := by rw [Int.sub_mul]; omega
    obtain ⟨d1, d2⟩ := div_of (p := P) (a := a - 1) (l := j + P) (by omega) (by omega)
    rw [e, d1, d2, if_pos hj]
    split <;> omega
  · by_cases hP : j = P
    · have e : a * P + j = (a + 1) * P + 0 := by rw [Int.add_mul]; omega
      obtain ⟨d1, d2⟩ := div_of (p := P) (a := a + 1) (l := 0) (by omega) (by omega)
      rw [e, d1, d2, if_neg hj, if_neg (by omega), if_pos (by omega)]
      omega
    · obtain ⟨d1, d2⟩ := div_of (p := P) (a := a) (l := j) (by omega) (by omega)
      rw [d1, d2, if_neg hj]
/-- the greatest cover, its last phase -/
structure Top (P : Int) (cs : List Cut) (most last : Int) : Prop where
  max : ∀ q, 0 ≤ q → q < P → cover P cs q ≤ most
  l0 : 0 ≤ last
  l1 : last < P
  at_ : cover P cs last = most
  behind : ∀ r, last < r → r < P → cover P cs r ≠ most
def Gj (P : Int) (cs : List Cut) (most j q : Int) : Prop := 0 ≤ q ∧ q < P ∧ (cover P cs q < most ∨ q < j)
theorem Top.pos {P most last : Int} {cs : List Cut} (T : Top P cs most last) (ok : CW P cs) (hne : cs ≠ []) : 1 ≤ most := by
  cases cs with
  | nil => exact absurd rfl hne
  | cons c cs =>
    obtain ⟨a, b, d, e⟩ := ok.ok c List.mem_cons_self
    have h1 := cnt_pos (P := P) (c := c) (i := 0) ok.p1 (Int.le_refl 0) (by omega)
    rw [Int.add_zero, Int.emod_eq_of_lt b d] at h1
    have h2 := cover_memW ok (c := c) List.mem_cons_self c.phase
    have h3 := T.max c.phase b d
    omega
theorem ed_many {P : Int} {cs : List Cut} {n : Int} {F : Int → Prop} {x y : Int} : Ed P (many cs n) F x y ↔ Ed P cs F x y := by
  constructor
  · rintro (⟨c, hc, rfl, rfl⟩ | h)
    · obtain ⟨d, hd, rfl⟩ := List.mem_map.mp hc
      exact .inl ⟨d, hd, rfl, rfl⟩
    · exact .inr h
  · rintro (⟨c, hc, rfl, rfl⟩ | h)
    · exact .inl ⟨_, List.mem_map.mpr ⟨c, hc, rfl⟩, rfl, rfl⟩
    · exact .inr h
theorem ed_congr {P : Int} {cs : List Cut} {F F' : Int → Prop} (h : ∀ q, F q ↔ F' q) {x y : Int} : Ed P cs F x y ↔ Ed P cs F' x y := by
  unfold Ed
  rw [h]
theorem many_at {P most last n j : Int} {cs : List Cut} (ok : CW P cs) (T : Top P cs most last) (hn : 2 ≤ n) (h1 : last + 1 - P ≤ j) (h2 : j ≤ P) :
    Let P (many cs n) (most * P * n + j) ↔ Hang (Ed P cs (Gj P cs most j)) := by
  have p1 := ok.p1
  have l0 := T.l0
  have hw : ∀ q, 0 ≤ q → q < P → wait P (many cs n) (most * P * n + j) q = n * most - n * cover P cs q + if j < 0 then (if q < j + P then 0 else -1) else (if q < j then 1 else 0) := fun q q0 q1 => by
    have := steps_at (a := most * n) p1 (show -P ≤ j by omega) h2 q0 q1
    have e : most * P * n = most * n * P := by rw [Int.mul_assoc, Int.mul_comm P n, ← Int.mul_assoc]
    unfold wait free
    rw [cover_many, e, this, Int.mul_comm most n]
    omega
  have cases_ : ∀ q, 0 ≤ q → q < P → (cover P cs q = most ∧ n * most - n * cover P cs q = 0 ∧ q ≤ last) ∨ (cover P cs q < most ∧ 2 ≤ n * most - n * cover P cs q) := fun q q0 q1 => by
    have h := T.max q q0 q1
    by_cases e : cover P cs q = most
    · refine .inl ⟨e, by rw [e]; omega, ?_⟩
      by_cases z : q ≤ last
      · exact z
      · exact absurd e (T.behind q (by omega) q1)
    · refine .inr ⟨by omega, ?_⟩
      have : n * 1 ≤ n * (most - cover P cs q) := Int.mul_le_mul_of_nonneg_left (by omega) (by omega)
      rw [Int.mul_sub] at this
      omega
  have hnn : ∀ q, 0 ≤ q → q < P → 0 ≤ wait P (many cs n) (most * P * n + j) q := fun q q0 q1 => by
    rw [hw q q0 q1]
    rcases cases_ q q0 q1 with ⟨_, c1, c2⟩ | ⟨_, c1⟩
    · rw [c1]
      split
      · rw [if_pos (by omega)]; omega
      · split <;> omega
    · split
      · split <;> omega
      · split <;> omega
  have hF : ∀ q, Fr P (many cs n) (most * P * n + j) q ↔ Gj P cs most j q := fun q => by
    unfold Fr Gj
    constructor
    · rintro ⟨q0, q1, h⟩
      refine ⟨q0, q1, ?_⟩
      rw [hw q q0 q1] at h
      rcases cases_ q q0 q1 with ⟨_, c1, c2⟩ | ⟨c0, c1⟩
      · rw [c1] at h
        refine .inr ?_
        split at h
        · rw [if_pos (by omega)] at h; omega
        · split at h <;> omega
      · exact .inl c0
    · rintro ⟨q0, q1, h⟩
      refine ⟨q0, q1, ?_⟩
      rw [hw q q0 q1]
      rcases cases_ q q0 q1 with ⟨c0, c1, c2⟩ | ⟨c0, c1⟩
      · rw [c1]
        rw [if_neg (by omega), if_pos (by omega)]; omega
      · split
        · split <;> omega
        · split <;> omega
  rw [let_iff]
  have e : Hang (Ed P (many cs n) (Fr P (many cs n) (most * P * n + j))) ↔ Hang (Ed P cs (Gj P cs most j)) := Hang.congr fun x y => by rw [ed_many]; exact ed_congr hF
  rw [e]
  exact ⟨fun h => h.2, fun h => ⟨hnn, h⟩⟩
/-- what more_by says -/
def MoreIs (P : Int) (cs : List Cut) (most m : Int) : Prop := ∃ last, Top P cs most last ∧
  ((Hang (Ed P cs (Gj P cs most 0)) ∧ m = last + 1 - P) ∨ (¬ Hang (Ed P cs (Gj P cs most 0)) ∧ 1 ≤ m ∧ m ≤ P ∧ Hang (Ed P cs (Gj P cs most m)) ∧ ∀ j, 1 ≤ j → j < m → ¬ Hang (Ed P cs (Gj P cs most j))))
theorem gj_low {P most j : Int} {cs : List Cut} (h : j ≤ 0) : Hang (Ed P cs (Gj P cs most j)) ↔ Hang (Ed P cs (Gj P cs most 0)) := Hang.congr fun x y => ed_congr fun q => by
  unfold Gj
  constructor
  · rintro ⟨a, b, c⟩; exact ⟨a, b, .inl (by omega)⟩
  · rintro ⟨a, b, c⟩; exact ⟨a, b, .inl (by omega)⟩
theorem form_least {P most m n : Int} {cs : List Cut} (ok : CW P cs) (hne : cs ≠ []) (M : MoreIs P cs most m) (hn : 2 ≤ n) : IsLeast P (many cs n) (most * P * n + m) := by
  obtain ⟨last, T, hM⟩ := M
  have p1 := ok.p1
  have m1 := T.pos ok hne
  have l0 := T.l0
  have l1 := T.l1
  have hmn : 1 * 2 ≤ most * n := Int.mul_le_mul m1 hn (by omega) (by omega)
  have hmP : 2 * P ≤ most * P * n := by
    have : 2 * P ≤ (most * n) * P := Int.mul_le_mul_of_nonneg_right (by omega) (by omega)
    have e : most * P * n = most * n * P := by rw [Int.mul_assoc, Int.mul_comm P n, ← Int.mul_assoc]
    omega
  have low : ∀ e, 0 ≤ e → e < most * P * n + (last + 1 - P) → ¬ Let P (many cs n) e := fun e e0 e1 hL => by
    have hc := (covered_ok (p := P) (m := most * n) (l := last) (cov := cover P (many cs n)) p1 (fun r r0 r1 => by
      rw [cover_many, Int.mul_comm most n]
      exact Int.mul_le_mul_of_nonneg_left (T.max r r0 r1) (by omega)) (by omega) l0 l1 (by rw [cover_many, T.at_, Int.mul_comm]) fun r r0 r1 => by
        rw [cover_many, Int.mul_comm most n]
        intro z
        exact T.behind r r0 r1 (Int.eq_of_mul_eq_mul_left (by omega) z)).2
    have ee : most * P * n = most * n * P := by rw [Int.mul_assoc, Int.mul_comm P n, ← Int.mul_assoc]
    obtain ⟨q, q0, q1, h⟩ := hc e e0 (by rw [Int.sub_mul]; omega)
    have := hL.1 q q0 q1
    omega
  have hb : last + 1 - P ≤ m ∧ m ≤ P := by
    rcases hM with ⟨_, e⟩ | ⟨_, a, b, _⟩ <;> omega
  refine ⟨by omega, ?_, fun e e0 e1 hL => ?_⟩
  · rw [many_at ok T hn hb.1 hb.2]
    rcases hM with ⟨h, e⟩ | ⟨_, _, _, h, _⟩
    · exact (gj_low (by omega)).mpr h
    · exact h
  · by_cases hlt : e < most * P * n + (last + 1 - P)
    · exact low e e0 hlt hL
    · have ee : e = most * P * n + (e - most * P * n) := by omega
      rw [ee, many_at ok T hn (by omega) (by omega)] at hL
      rcases hM with ⟨_, hm⟩ | ⟨h, _, _, _, h2⟩
      · omega
      · by_cases hj : e - most * P * n ≤ 0
        · exact h ((gj_low hj).mp hL)
        · exact h2 _ (by omega) (by omega) hL
/-- all but one phase free: all hangs together -/
theorem hang_but {P last : Int} {cs : List Cut} {F : Int → Prop} (ok : CW P cs) (l0 : 0 ≤ last) (l1 : last < P) (h : ∀ q, 0 ≤ q → q < P → q ≠ last → F q) (hF : ∀ q, F q → 0 ≤ q ∧ q < P) : Hang (Ed P cs F) := by
  have p1 := ok.p1
  have st : ∀ n : Nat, (n : Int) + 1 < P → (n : Int) ≠ last → (CompR (Ed P cs F) n ↔ CompR (Ed P cs F) ((n + 1 : Nat) : Int)) := fun n h1 h2 => by
    have r : Ed P cs F n ((n + 1 : Nat) : Int) := .inr ⟨h n (by omega) (by omega) h2, (Int.emod_eq_of_lt (by omega) h1).symm⟩
    exact CompR.step r
  have up : ∀ n : Nat, (n : Int) ≤ last → CompR (Ed P cs F) n := fun n => by
    induction n with
    | zero => exact fun _ => CompR.zero
    | succ n ih => exact fun hn => (st n (by omega) (by omega)).mp (ih (by omega))
  have down : ∀ (k n : Nat), (n : Int) + k + 1 = P → last < n → CompR (Ed P cs F) n := fun k => by
    induction k with
    | zero =>
      intro n e hl
      have r : Ed P cs F n 0 := .inr ⟨h n (by omega) (by omega) (by omega), by
        have : (n : Int) + 1 = P := by omega
        rw [this, Int.emod_self]⟩
      exact (CompR.step r).mpr CompR.zero
    | succ k ih =>
      intro n e hl
      exact (st n (by omega) (by omega)).mpr (ih (n + 1) (by omega) (by omega))
  have all : ∀ q, 0 ≤ q → q < P → CompR (Ed P cs F) q := fun q q0 q1 => by
    by_cases hq : q ≤ last
    · have := up q.toNat (by omega)
      rwa [Int.toNat_of_nonneg q0] at this
    · have := down (P - 1 - q).toNat q.toNat (by omega) (by omega)
      rwa [Int.toNat_of_nonneg q0] at this
  intro x y r
  rcases r with ⟨c, hc, rfl, rfl⟩ | ⟨h, _⟩
  · obtain ⟨_, a, b, _⟩ := ok.ok c hc
    exact all _ a b
  · exact all _ (hF x h).1 (hF x h).2
theorem let_near {P most last : Int} {cs : List Cut} (ok : CW P cs) (T : Top P cs most last) : Let P cs (most * P + last) := by
  have p1 := ok.p1
  have l0 := T.l0
  have l1 := T.l1
  have hw : ∀ q, 0 ≤ q → q < P → wait P cs (most * P + last) q = most - cover P cs q + if q < last then 1 else 0 := fun q q0 q1 => by
    obtain ⟨d1, d2⟩ := div_of (p := P) (a := most) (l := last) l0 l1
    unfold wait free
    rw [d1, d2]; omega
  refine let_iff.mpr ⟨fun q q0 q1 => ?_, hang_but ok l0 l1 (fun q q0 q1 hq => ⟨q0, q1, ?_⟩) fun q h => ⟨h.1, h.2.1⟩⟩
  · rw [hw q q0 q1]
    have := T.max q q0 q1
    split <;> omega
  · rw [hw q q0 q1]
    have := T.max q q0 q1
    by_cases hl : q < last
    · rw [if_pos hl]; omega
    · have := T.behind q (by omega) q1
      rw [if_neg hl]; omega
theorem top_exists {P : Int} {cs : List Cut} (p1 : 1 ≤ P) : ∃ most last, Top P cs most last := by
  have key : ∀ n : Nat, (n : Int) < P → ∃ last : Int, 0 ≤ last ∧ last ≤ n ∧ (∀ q : Int, 0 ≤ q → q ≤ n → cover P cs q ≤ cover P cs last) ∧ ∀ q : Int, last < q → q ≤ n → cover P cs q ≠ cover P cs last := fun n => by
    induction n with
    | zero =>
      intro _
      refine ⟨0, Int.le_refl 0, Int.le_refl 0, fun q h1 h2 => ?_, fun q h1 h2 => ?_⟩
      · have : q = 0 := by omega
        rw [this]; exact Int.le_refl _
      · omega
    | succ n ih =>
      intro hn
      obtain ⟨l, a, b, c, d⟩ := ih (by omega)
      by_cases h : cover P cs l ≤ cover P cs ((n + 1 : Nat) : Int)
      · refine ⟨((n + 1 : Nat) : Int), by omega, Int.le_refl _, fun q h1 h2 => ?_, fun q h1 h2 => by omega⟩
        by_cases e : q = ((n + 1 : Nat) : Int)
        · rw [e]; exact Int.le_refl _
        · have := c q h1 (by omega); omega
      · refine ⟨l, a, by omega, fun q h1 h2 => ?_, fun q h1 h2 => ?_⟩
        · by_cases e : q = ((n + 1 : Nat) : Int)
          · rw [e]; omega
          · exact c q h1 (by omega)
        · by_cases e : q = ((n + 1 : Nat) : Int)
          · rw [e]; omega
          · exact d q h1 (by omega)
  obtain ⟨l, a, b, c, d⟩ := key (P - 1).toNat (by omega)
  exact ⟨cover P cs l, l, fun q h1 h2 => c q h1 (by omega), a, by omega, rfl, fun q h1 h2 => d q h1 (by omega)⟩
theorem Top.uniq {P m m' l l' : Int} {cs : List Cut} (T : Top P cs m l) (T' : Top P cs m' l') : m = m' ∧ l = l' := by
  have h1 := T.max l' T'.l0 T'.l1
  have h2 := T'.max l T.l0 T.l1
  rw [T'.at_] at h1
  rw [T.at_] at h2
  have e : m = m' := by omega
  subst e
  refine ⟨rfl, ?_⟩
  by_cases a : l < l'
  · exact absurd T'.at_ (T.behind l' a T'.l1)
  · by_cases b : l' < l
    · exact absurd T.at_ (T'.behind l b T.l1)
    · omega
/-- what a Form tells -/
structure IsForm (P : Int) (cs : List Cut) (first each more : Int) : Prop where
  nil : cs = [] → first = 0 ∧ each = 0 ∧ more = 0
  least : IsLeast P cs first
  most : cs ≠ [] → ∃ most, each = most * P ∧ MoreIs P cs most more
theorem IsForm.manyL {P f e m n : Int} {cs : List Cut} (F : IsForm P cs f e m) (ok : CW P cs) (hne : cs ≠ []) (hn : 2 ≤ n) : IsLeast P (many cs n) (e * n + m) := by
  obtain ⟨most, rfl, M⟩ := F.most hne
  exact form_least ok hne M hn
theorem IsForm.facts {P f e m : Int} {cs : List Cut} (F : IsForm P cs f e m) (ok : CW P cs) (hne : cs ≠ []) : 1 ≤ e ∧ f < e * 2 + m ∧ P ≤ e ∧ m ≤ P := by
  have p1 := ok.p1
  obtain ⟨most, he, last, T, hM⟩ := F.most hne
  have m1 := T.pos ok hne
  have h1 : f ≤ most * P + last := by
    have := T.l0
    refine (F.least.iff ok ?_).mp (let_near ok T)
    have : 0 ≤ most * P := Int.mul_nonneg (by omega) (by omega)
    omega
  have h2 : 1 * P ≤ most * P := Int.mul_le_mul_of_nonneg_right m1 (by omega)
  have hb : last + 1 - P ≤ m ∧ m ≤ P := by
    have := T.l1
    have := T.l0
    rcases hM with ⟨_, e⟩ | ⟨_, a, b, _⟩ <;> omega
  refine ⟨by omega, by omega, by omega, hb.2⟩
/-- the greatest number of copies -/
def Most (P : Int) (cs : List Cut) (e n : Int) : Prop := 0 ≤ n ∧ ∀ k, 1 ≤ k → (Let P (many cs k) e ↔ k ≤ n)
theorem Most.uniq {P e n n' : Int} {cs : List Cut} (h : Most P cs e n) (h' : Most P cs e n') : n = n' := by
  obtain ⟨a, b⟩ := h
  obtain ⟨a', b'⟩ := h'
  by_cases h1 : n < n'
  · have := (b n' (by omega)).mp ((b' n' (by omega)).mpr (Int.le_refl _)); omega
  · by_cases h2 : n' < n
    · have := (b' n (by omega)).mp ((b n (by omega)).mpr (Int.le_refl _)); omega
    · omega
theorem Most.of {P e n : Int} {cs : List Cut} (ok : CW P cs) (h0 : 0 ≤ n) (h1 : 1 ≤ n → Let P (many cs n) e) (h2 : ¬ Let P (many cs (n + 1)) e) : Most P cs e n :=
  ⟨h0, fun k hk => ⟨fun hL => by
    by_cases z : k ≤ n
    · exact z
    · exact absurd (hL.fewer ok (m := n + 1) (by omega) (by omega)) h2, fun hk2 => (h1 (by omega)).fewer ok hk hk2⟩⟩
/-- what copies_within tells -/
def within (f e m x : Int) : Int := if x < f then 0 else max 1 ((x - m) / e)
theorem IsForm.withinM {P f e m x : Int} {cs : List Cut} (F : IsForm P cs f e m) (ok : CW P cs) (hne : cs ≠ []) (x0 : 0 ≤ x) : Most P cs x (within f e m x) := by
  obtain ⟨e1, h12, _, _⟩ := F.facts ok hne
  have L : ∀ k, 1 ≤ k → ∀ l, IsLeast P (many cs k) l → (Let P (many cs k) x ↔ l ≤ x) := fun k hk l hl => hl.iff (ok.many hk) x0
  have L1 : Let P (many cs 1) x ↔ f ≤ x := L 1 (by omega) f (by rw [many_one]; exact F.least)
  have Ln : ∀ k, 2 ≤ k → (Let P (many cs k) x ↔ e * k + m ≤ x) := fun k hk => L k (by omega) _ (F.manyL ok hne hk)
  unfold within
  by_cases hx : x < f
  · rw [if_pos hx]
    refine Most.of ok (Int.le_refl 0) (fun h => by omega) ?_
    rw [Int.zero_add, L1]; omega
  · rw [if_neg hx]
    have hd := Int.emod_add_mul_ediv (x - m) e
    obtain ⟨z1, z2⟩ := emod_in (a := x - m) (P := e) (by omega)
    by_cases h2 : 2 ≤ (x - m) / e
    · have e3 : max 1 ((x - m) / e) = (x - m) / e := by omega
      rw [e3]
      refine Most.of ok (by omega) (fun _ => ?_) ?_
      · rw [Ln _ h2]; omega
      · rw [Ln _ (by omega), Int.mul_add]; omega
    · have e3 : max 1 ((x - m) / e) = 1 := by omega
      rw [e3]
      refine Most.of ok (by omega) (fun _ => L1.mpr (by omega)) ?_
      rw [show (1 : Int) + 1 = 2 from rfl, Ln 2 (by omega)]
      have : e * ((x - m) / e) ≤ e * 1 := Int.mul_le_mul_of_nonneg_left (by omega) (by omega)
      omega
theorem Most.at_least {P n L : Int} {cs : List Cut} (ok : CW P cs) {f e m : Int} (F : IsForm P cs f e m) (hne : cs ≠ []) (hn : 1 ≤ n) (h : IsLeast P (many cs n) L) : Most P cs L n ∧ (1 ≤ L → Most P cs (L - 1) (n - 1)) := by
  obtain ⟨e1, h12, _, _⟩ := F.facts ok hne
  have up : ∀ k, 1 ≤ k → ∀ l l', IsLeast P (many cs k) l → IsLeast P (many cs (k + 1)) l' → l < l' := fun k hk l l' a b => by
    by_cases k1 : k = 1
    · subst k1
      rw [many_one] at a
      have ea := a.uniq F.least
      have eb := b.uniq (F.manyL ok hne (n := 1 + 1) (by omega))
      rw [ea, eb]; exact h12
    · have ea := a.uniq (F.manyL ok hne (n := k) (by omega))
      have eb := b.uniq (F.manyL ok hne (n := k + 1) (by omega))
      rw [ea, eb, Int.mul_add]; omega
  have next := F.manyL ok hne (n := n + 1) (by omega)
  constructor
  · refine Most.of ok (by omega) (fun _ => h.2.1) fun hL => ?_
    have := (next.iff (ok.many (by omega)) h.1).mp hL
    have := up n hn _ _ h next
    omega
  · intro L1
    refine Most.of ok (by omega) (fun h1 => ?_) ?_
    · have prev : ∃ l, IsLeast P (many cs (n - 1)) l := by
        by_cases k1 : n - 1 = 1
        · exact ⟨f, by rw [k1, many_one]; exact F.least⟩
        · exact ⟨_, F.manyL ok hne (n := n - 1) (by omega)⟩
      obtain ⟨l, hl⟩ := prev
      refine (hl.iff (ok.many h1) (by omega)).mpr ?_
      have := up (n - 1) h1 l L hl (by rw [Int.sub_add_cancel]; exact h)
      omega
    · rw [Int.sub_add_cancel]
      exact h.2.2 _ (by omega) (by omega)
theorem Most.le {P n n' e e' : Int} {cs : List Cut} (ok : CW P cs) (e0 : 0 ≤ e) (h : Most P cs e n) (h' : Most P cs e' n') (he : e ≤ e') : n ≤ n' := by
  by_cases z : n ≤ 0
  · have := h'.1; omega
  · exact (h'.2 n (by omega)).mp (Let.mono (ok.many (by omega)) e0 ((h.2 n (by omega)).mpr (Int.le_refl _)) he)
end K90


namespace K90
open PySem PySem.Spec PyProof.Rows L2 DL
variable {P : Program} {w : World} {K : PySem.W.Frag} {mg : Str → Option Value} {base : Heap} {a : Ad}
/-! ### data compared (as V2 has it) -/
theorem py_ints : ∀ ns : List Int, pyL (ns.map D.int) = some (ns.map PyData.int)
  | [] => rfl
  | n :: ns => by
    rw [List.map_cons, List.map_cons]
    unfold pyL
    rw [py_ints ns]
    rfl
theorem eqv_ints : ∀ ns : List Int, PyData.eqvAll (ns.map PyData.int) (ns.map PyData.int) = true
  | [] => rfl
  | n :: ns => by
    rw [List.map_cons]
    unfold PyData.eqvAll
    rw [eqv_ints ns]
    simp [PyData.eqv]
theorem eqv_nil (xs : List PyData) : PyData.eqv (.list xs) (.list []) = xs.isEmpty := by
  cases xs with
  | nil => rfl
  | cons x xs => rfl
theorem dp_ints {H : Hp} : ∀ ns : List Int, DpAll K H (ns.map V.int) (ns.map PyData.int)
  | [] => .nil
  | _ :: ns => .cons (.int _) (dp_ints ns)
theorem lay_ints : ∀ ns : List Int, PyData.canLayAll0 (ns.map PyData.int) = true ∧ PyData.depthAll (ns.map PyData.int) = 0
  | [] => ⟨rfl, rfl⟩
  | n :: ns => by
    obtain ⟨h1, h2⟩ := lay_ints ns
    rw [List.map_cons]
    constructor
    · unfold PyData.canLayAll0
      rw [h1]
      simp [PyData.canLay0]
    · unfold PyData.depthAll
      rw [h2]
      rfl
theorem shaped_ints (ns : List Int) : SeqAt.shaped (.list (ns.map PyData.int)) = true := by
  obtain ⟨h1, h2⟩ := lay_ints ns
  unfold SeqAt.shaped
  have e1 : PyData.canLay0 (.list (ns.map PyData.int)) = true := by unfold PyData.canLay0; exact h1
  have e2 : PyData.depth (.list (ns.map PyData.int)) ≤ 64 := by unfold PyData.depth; omega
  rw [e1, decide_eq_true e2]
  rfl
/-- cuts compared -/
def Cut.p (c : Cut) : PyData := .tuple [.int c.long, .int c.phase, .int c.times]
theorem py_cuts : ∀ cs : List Cut, pyL (cs.map Cut.d) = some (cs.map Cut.p)
  | [] => rfl
  | c :: cs => by
    rw [List.map_cons, List.map_cons]
    unfold pyL
    rw [py_cuts cs]
    rfl
theorem lay_cuts : ∀ cs : List Cut, PyData.canLayAll0 (cs.map Cut.p) = true ∧ PyData.depthAll (cs.map Cut.p) ≤ 1
  | [] => ⟨rfl, Nat.zero_le _⟩
  | c :: cs => by
    obtain ⟨h1, h2⟩ := lay_cuts cs
    rw [List.map_cons]
    constructor
    · unfold PyData.canLayAll0
      rw [h1, Bool.and_true]
      simp [Cut.p, PyData.canLay0, PyData.canLayAll0]
    · unfold PyData.depthAll
      have : (Cut.p c).depth ≤ 1 := Nat.le_of_eq (by rfl)
      omega
theorem shaped_cuts (cs : List Cut) : SeqAt.shaped (.list (cs.map Cut.p)) = true := by
  obtain ⟨h1, h2⟩ := lay_cuts cs
  unfold SeqAt.shaped
  have e1 : PyData.canLay0 (.list (cs.map Cut.p)) = true := by unfold PyData.canLay0; exact h1
  have e2 : PyData.depth (.list (cs.map Cut.p)) ≤ 64 := by unfold PyData.depth; omega
  rw [e1, decide_eq_true e2]
  rfl
end K90


namespace K90
open PySem PySem.Spec PyProof.Rows L2 DL
variable {P : Program} {w : World} {K : PySem.W.Frag} {mg : Str → Option Value} {base : Heap} {a : Ad}
/-! ### Forms -/
def fd_hang : FD := FD.all (fun ls : List Link => [.lst (ls.map Link.d)]) (fun ls => ls.length ≤ 1000) fun ls d => ∃ b : Bool, d = .bl b ∧ (b = true ↔ ∀ l ∈ ls, Comp ls l.a)
def fd_more : FD := FD.all (fun i : Int × List Cut => [.int i.1, cutsT i.2, intsD (rng i.1 (cover i.1 i.2))]) (fun i => CutsOk i.1 i.2) fun i d => ∃ m most, d = .int m ∧ MoreIs i.1 i.2 most m
def formD (a : Ad) (f e m : Int) : D := .ins a.C_Form [("own_parts", .tup [.int f, .int e, .int m]), ("first", .int f), ("each", .int e), ("more", .int m)]
def fd_form_by (a : Ad) : FD := FD.all (fun i : Int × List Cut => [.int i.1, cutsT i.2]) (fun i => CutsOk i.1 i.2) fun i d => ∃ f e m, d = formD a f e m ∧ IsForm i.1 i.2 f e m
def fd_form (a : Ad) : FD := FD.all (fun i : Int × Bool × List Cut => [.int i.1, cutsE i.2.1 i.2.2]) (fun i => CutsOk i.1 i.2.2) fun i d => ∃ f e m, d = formD a f e m ∧ IsForm i.1 i.2.2 f e m
def fd_within : FD := FD.all (fun i : Int × Bool × List Cut × Int => [.int i.1, cutsE i.2.1 i.2.2.1, .int i.2.2.2]) (fun i => CutsOk i.1 i.2.2.1 ∧ i.2.2.1 ≠ [] ∧ 0 ≤ i.2.2.2 ∧ i.2.2.2 ≤ 10 ^ 30 ∧ total i.2.2.1 ≤ 10000000) fun i d => ∃ n, d = .int n ∧ Most i.1 i.2.2.1 i.2.2.2 n
theorem ok_hang_together (T : Tx P K mg a) : FnOk P w K mg base CX0 2 a.f_hang_together a.d_hang_together ["links"] (liftSp K fd_hang) := by
  refine def_ok T.F_hang_together sc_hang_together (fun ds Q h => ?_) fun cdv A outer s H E hr => ⟨_,
    (dss_cons (ds_set (i := 1) sc_hang_together.nd rfl (.inr rfl) (dv_d (de_ix (de_call (ok_grown_from T) (hr.mono (by decide)) (by rfl) T.m_grown_from T.F_grown_from.kp T.b_grown_from (da_cons (dv 0) da_nil)) de_int)))
    (dss_one (ds_ret (dn_bi cg_all (by rfl) T.m_all (by decide +kernel) (da_cons (dn_lc rfl sc_hang_together.nd (LcOk.mk (own := [("link", 2)]) (blkOk_by (N := ["links", "found", "link"]) (sc := defScope st_hang_together) (by decide +kernel)) (di_list (dv 0)) (fun _ _ _ _ _ => (dg_name (i := 2) sc_hang_together.nd rfl (.inl rfl))) (fun _ _ _ _ _ => dts_nil) (fun _ _ _ _ _ => (de_din (hu_of hr) (de_ix (dv 2) de_int) (dv 1))) (by decide)) s).de da_nil)).de))), ?_⟩
  · obtain ⟨i, rfl, _⟩ := h; rfl
  · intro ds Q h
    obtain ⟨ls, rfl, hll, q⟩ := h
    refine ⟨_, rfl, ls, rfl, hll, fun d hd => ?_⟩
    obtain ⟨ks, rows, rfl, hcl, h0, hsnd, hr, hk, _⟩ := hd
    refine ⟨_, _, _, .inr rfl, rfl, rfl, ?_⟩
    refine ⟨by rfl, _, rfl, _, rfl, ?_⟩
    have hln2 : (ls.map Link.d).length ≤ 100000 := by rw [List.length_map]; omega
    refine lc_map (bA ks) hln2 (fun y hy A hA => ?_) ?_
    · obtain ⟨l, hl', rfl⟩ := links_at hy
      have hA : A (.bl (decide (l.a ∈ ks))) _ := hA
      rw [← find_keys] at hA
      exact ⟨_, rfl, _, _, _, .inr rfl, rfl, rfl, _, rfl, _, .k _ (.inl l.a), hA⟩
    · have eb : D.lst ((ls.map Link.d).map (bA ks)) = blsD (ls.map fun l => decide (l.a ∈ ks)) := congrArg D.lst (bA_map ks _)
      refine ⟨_, congrArg (fun z => [z]) eb, q _ ⟨_, rfl, fun hh l hl' => ?_, fun hL => ?_⟩⟩
      · have := List.all_eq_true.mp hh (decide (l.a ∈ ks)) (List.mem_map.mpr ⟨l, hl', rfl⟩)
        exact hsnd _ (of_decide_eq_true this)
      · rw [List.all_eq_true]
        intro b hb
        obtain ⟨l, hl', rfl⟩ := List.mem_map.mp hb
        exact decide_eq_true (hL l hl' (fun x => x ∈ ks) h0 hcl)
/-- what hang_together says of links -/
theorem hang_of {p : Int} {cs : List Cut} {fr : List Int} {F : Int → Prop} (hF : ∀ q, q ∈ fr ↔ F q) : (∀ l ∈ cutLinks p cs ++ waitLinks p fr, Comp (cutLinks p cs ++ waitLinks p fr) l.a) ↔ Hang (Ed p cs F) := hang_iff fun x y => ed_links hF
theorem both_len {p : Int} (cs : List Cut) (fr : List Int) : (cutLinks p cs ++ waitLinks p fr).length = cs.length + fr.length := by
  unfold cutLinks waitLinks
  rw [List.length_append, List.length_map, List.length_map, List.length_zipIdx]
theorem mem_filter_rng {p : Int} {g : Int → Bool} {q : Int} : q ∈ (rng p id).filter g ↔ 0 ≤ q ∧ q < p ∧ g q = true := by
  rw [List.mem_filter, rng_mem]
  constructor
  · rintro ⟨⟨x, x0, x1, ex⟩, h⟩
    have ex : q = x := ex
    subst ex
    exact ⟨x0, x1, h⟩
  · rintro ⟨h0, h1, h2⟩
    exact ⟨⟨q, h0, h1, rfl⟩, h2⟩
theorem rng_id_mem {p q : Int} : q ∈ rng p id ↔ 0 ≤ q ∧ q < p := by
  rw [rng_mem]
  constructor
  · rintro ⟨x, x0, x1, ex⟩
    have ex : q = x := ex
    subst ex
    exact ⟨x0, x1⟩
  · rintro ⟨h0, h1⟩
    exact ⟨q, h0, h1, rfl⟩
def intP (g : Int → Bool) : D → Bool
  | .int i => g i
  | _ => false
theorem filt_intP (p : Int) (g : Int → Bool) : (((rng p id).map D.int).filter (intP g)).map id = ((rng p id).filter g).map D.int := by
  rw [List.map_id, List.filter_map]
  rfl
theorem ok_more_by (T : Tx P K mg a) : FnOk P w K mg base CX0 3 a.f_more_by a.d_more_by ["period", "cuts", "cover"] (liftSp K fd_more) := by
  refine def_ok T.F_more_by sc_more_by (fun ds Q h => ?_) fun cdv A outer s H E hr => ⟨_,
    (dss_cons (ds_set (i := 3) sc_more_by.nd rfl (.inr rfl) (dv_d (dn_bi cg_max (by rfl) T.m_max (by decide +kernel) (da_cons (dv 2) da_nil)).de))
    (dss_cons (ds_setLc (i := 4) (wr := vD) (fun _ _ _ _ z => wr_d z) wm_d rfl sc_more_by.nd rfl rfl (sw_true rfl rfl rfl (by decide +kernel)) (LcOk.mk (own := [("phase", 7)]) (blkOk_by (N := ["period", "cuts", "cover", "most", "free", "last", "more", "phase"]) (sc := defScope st_more_by) (by decide +kernel)) (di_range (by rfl) T.m_range (dv 0)) (fun _ _ _ _ _ => (dg_name (i := 7) sc_more_by.nd rfl (.inl rfl))) (fun _ _ _ _ _ => (dts_one (dt_cmp os_lt (de_ix (dv 2) (dv 7)) (dv 3)))) (fun _ _ _ _ _ => (dv 7)) (by decide)) s)
    (dss_cons (ds_set (i := 5) sc_more_by.nd rfl (.inl rfl) (dv_d (de_ix (dn_lc rfl sc_more_by.nd (LcOk.mk (own := [("phase", 7)]) (blkOk_by (N := ["period", "cuts", "cover", "most", "free", "last", "more", "phase"]) (sc := defScope st_more_by) (by decide +kernel)) (di_range (by rfl) T.m_range (dv 0)) (fun _ _ _ _ _ => (dg_name (i := 7) sc_more_by.nd rfl (.inl rfl))) (fun _ _ _ _ _ => (dts_one (dt_cmp (os_eq hr.units) (de_ix (dv 2) (dv 7)) (dv 3)))) (fun _ _ _ _ _ => (dv 7)) (by decide)) s).de (de_neg de_int))))
    (dss_cons (ds_if (dt_val (de_call (ok_hang_together T) (hr.mono (by decide)) (by rfl) T.m_hang_together T.F_hang_together.kp T.b_hang_together (da_cons (de_call (ok_links_by T) (hr.mono (by decide)) (by rfl) T.m_links_by T.F_links_by.kp T.b_links_by (da_cons (dv 0) (da_cons (dv 1) (da_cons (dv 4) da_nil)))) da_nil)))
      (dss_one (ds_ret (de_op os_sub (de_op os_add (dv 5) de_int) (dv 0))))
      dss_nil)
    (dss_cons (ds_set (i := 6) sc_more_by.nd rfl (.inl rfl) (dv_d de_int))
    (dss_cons (ds_while PassesOwn.never (dt_not (dt_val (de_call (ok_hang_together T) (hr.mono (by decide)) (by rfl) T.m_hang_together T.F_hang_together.kp T.b_hang_together (da_cons (de_call (ok_links_by T) (hr.mono (by decide)) (by rfl) T.m_links_by T.F_links_by.kp T.b_links_by (da_cons (dv 0) (da_cons (dv 1) (da_cons (dn_sortedSet rfl (by rfl) T.m_sorted (by rfl) T.m_set (dn_lst (da_star (dv 4) (da_star (dn_listRg rfl (by rfl) T.m_list (by rfl) T.m_range (dv 6)).de da_nil))).de).de da_nil)))) da_nil))))
      (dss_one (ds_set (i := 6) sc_more_by.nd rfl (.inl rfl) (dv_d (de_op os_add (dv 6) de_int)))))
    (dss_one (ds_ret (dv 6))))))))), ?_⟩
  · obtain ⟨i, rfl, _⟩ := h; rfl
  · intro ds Q h
    obtain ⟨⟨p, cs⟩, rfl, ok, q⟩ := h
    dsimp only at ok q
    obtain ⟨p1, p2, hok, hl⟩ := id ok
    have hln : ((rng p id).map D.int).length ≤ 100000 := by rw [List.length_map, rng_len]; omega
    refine ⟨_, rfl, _, rfl, by rw [rng_len]; show 0 < p.toNat; omega, fun m hm hmax => ?_⟩
    dsimp only at hm hmax
    refine ⟨by rfl, _, rfl, _, rfl, by omega, by omega, ?_⟩
    dsimp only
    rw [rgD]
    refine lc_fm (intP fun i => decide (cover p cs i < m)) id hln (fun y hy A B hA hB => ?_) ?_
    · obtain ⟨i, hi, rfl⟩ := List.mem_map.mp hy
      obtain ⟨h0, h1⟩ := rng_id_mem.mp hi
      refine ⟨_, rfl, _, rfl, _, _, _, .inl rfl, rfl, atI_ints h0 (rng_at h0 h1), _, rfl, _, _, rfl, rfl, _, rfl, ?_⟩
      exact if_b rfl (fun hh => ⟨_, rfl, hA hh⟩) fun hh => hB hh
    rw [filt_intP p fun i => decide (cover p cs i < m)]
    refine ⟨by rfl, _, rfl, _, rfl, by omega, by omega, ?_⟩
    dsimp only
    rw [rgD]
    refine lc_fm (intP fun i => decide (cover p cs i = m)) id hln (fun y hy A B hA hB => ?_) ?_
    · obtain ⟨i, hi, rfl⟩ := List.mem_map.mp hy
      obtain ⟨h0, h1⟩ := rng_id_mem.mp hi
      refine ⟨_, rfl, _, rfl, _, _, _, .inl rfl, rfl, atI_ints h0 (rng_at h0 h1), _, rfl, .inl ⟨_, _, rfl, rfl, _, rfl, ?_⟩⟩
      exact if_b rfl (fun hh => ⟨_, rfl, hA hh⟩) fun hh => hB hh
    obtain ⟨q0, q1, q2, hq0⟩ := rng_mem.mp hm
    have hlast : ∃ xs l, (((rng p id).map D.int).filter (intP fun i => decide (cover p cs i = m))).map id = xs ++ [.int l] ∧ 0 ≤ l ∧ l < p ∧ cover p cs l = m ∧ ∀ r, l < r → r < p → cover p cs r ≠ m := last_of p1 q1 q2 hq0.symm
    obtain ⟨xs, l, e, l0, l1, l2, l3⟩ := hlast
    rw [e]
    have T : Top p cs m l := ⟨fun r r0 r1 => hmax _ (rng_mem.mpr ⟨r, r0, r1, rfl⟩), l0, l1, l2, l3⟩
    refine ⟨_, rfl, _, _, _, .inl rfl, rfl, atI_last _ _, ?_⟩
    have hfl := filt_len p fun i => decide (cover p cs i < m)
    have hF0 : ∀ r, r ∈ (rng p id).filter (fun i => decide (cover p cs i < m)) ↔ Gj p cs m 0 r := fun r => by
      rw [mem_filter_rng]
      unfold Gj
      rw [decide_eq_true_iff]
      exact ⟨fun ⟨a, b, c⟩ => ⟨a, b, .inl c⟩, fun ⟨a, b, c⟩ => ⟨a, b, by omega⟩⟩
    refine ⟨_, rfl, _, rfl, _, rfl, _, ⟨p, cs, (rng p id).filter (fun i => decide (cover p cs i < m)), rfl, ok, by omega, rfl⟩, _, rfl, by show List.length _ ≤ 1000; rw [both_len]; omega, fun d hd => ?_⟩
    obtain ⟨b, rfl, hb⟩ := hd
    rw [hang_of hF0] at hb
    refine ⟨b, rfl, ?_⟩
    refine if_b rfl (fun hh => ?_) fun hh => ?_
    · exact ⟨_, rfl, _, _, rfl, rfl, _, rfl, _, _, rfl, rfl, q _ ⟨_, m, rfl, l, T, .inl ⟨hb.mp hh, rfl⟩⟩⟩
    · have hno : ¬ Hang (Ed p cs (Gj p cs m 0)) := fun z => by rw [hb.mpr z] at hh; cases hh
      refine ⟨fun n sl k => ∃ j : Int, sl = [.d (.int p), .d (cutsT cs), .d (intsD (rng p (cover p cs))), .d (.int m), .d (intsD ((rng p id).filter (fun i => decide (cover p cs i < m)))), .d (.int l), .d (.int j), .un] ∧ 1 ≤ j ∧ j ≤ p ∧ (∀ i, 1 ≤ i → i < j → ¬ Hang (Ed p cs (Gj p cs m i))) ∧ n = (p - j).toNat, ⟨_, 1, rfl, by omega, p1, fun i h0 h1 => by omega, rfl⟩, ?_⟩
      rintro n sl k ⟨j, rfl, j1, jp, hj, hn⟩
      have eL : D.lst (((rng p id).filter (fun i => decide (cover p cs i < m))).map D.int ++ ((rng j id).map D.int ++ [])) = intsD ((rng p id).filter (fun i => decide (cover p cs i < m)) ++ rng j id) := by
        unfold intsD
        rw [List.append_nil, List.map_append]
      refine ⟨_, rfl, _, rfl, _, rfl, _, .inl rfl, _, rfl, j, rfl, by omega, by omega, _, .inl rfl, ?_, (rng p id).filter (fun i => decide (cover p cs i < m)) ++ rng j id, .inl eL, ?_, ⟨rng p id, fun x hx => ?_, by rw [rng_len]; omega⟩, fun ns' srt mem => ?_⟩
      · show (((rng p id).filter (fun i => decide (cover p cs i < m))).map D.int ++ ((rng j id).map D.int ++ [])).length ≤ 100000
        rw [List.append_nil, List.length_append, List.length_map, List.length_map, rng_len]
        omega
      · rw [List.length_append, rng_len]; omega
      · rcases List.mem_append.mp hx with z | z
        · exact (List.mem_filter.mp z).1
        · have := rng_id_mem.mp z
          exact rng_id_mem.mpr ⟨this.1, by omega⟩
      · have hFj : ∀ r, r ∈ ns' ↔ Gj p cs m j r := fun r => by
          rw [mem r, List.mem_append, mem_filter_rng, rng_id_mem, decide_eq_true_iff]
          unfold Gj
          constructor
          · rintro (⟨a, b, c⟩ | ⟨a, b⟩)
            · exact ⟨a, b, .inl c⟩
            · exact ⟨a, by omega, .inr b⟩
          · rintro ⟨a, b, c | c⟩
            · exact .inl ⟨a, b, c⟩
            · exact .inr ⟨a, c⟩
        have hlen : ns'.length ≤ (rng p id).length := nodup_le (asc_nodup srt) fun x hx => by
          have := (hFj x).mp hx
          exact rng_id_mem.mpr ⟨this.1, this.2.1⟩
        rw [rng_len] at hlen
        refine ⟨_, ⟨p, cs, ns', rfl, ok, by omega, rfl⟩, _, rfl, by show List.length _ ≤ 1000; rw [both_len]; omega, fun d hd => ?_⟩
        obtain ⟨b, rfl, hb⟩ := hd
        rw [hang_of hFj] at hb
        refine ⟨b, rfl, ?_⟩
        cases b with
        | true => exact ⟨_, rfl, q _ ⟨j, m, rfl, l, T, .inr ⟨hno, j1, jp, hb.mp rfl, hj⟩⟩⟩
        | false =>
          have hnj : ¬ Hang (Ed p cs (Gj p cs m j)) := fun z => by have := hb.mpr z; cases this
          have hlt : j < p := by
            by_cases z : j = p
            · exfalso
              apply hnj
              rw [z]
              exact hang_but ok.cw (l0 := l0) (l1 := l1) (fun r r0 r1 _ => ⟨r0, r1, .inr r1⟩) fun r h => ⟨h.1, h.2.1⟩
            · omega
          refine ⟨_, rfl, _, _, rfl, rfl, _, ?_, j + 1, rfl, by omega, by omega, fun i h0 h1 => ?_, rfl⟩
          · omega
          · by_cases z : i = j
            · rw [z]; exact hnj
            · exact hj i h0 (by omega)
theorem ok_form_by (T : Tx P K mg a) : FnOk P w K mg base CX0 13 a.f_form_by a.d_form_by ["period", "cuts"] (liftSp K (fd_form_by a)) := by
  refine def_ok T.F_form_by sc_form_by (fun ds Q h => ?_) fun cdv A outer s H E hr => ⟨_,
    (dss_cons (ds_if (dt_not (dt_tru (dv 1)))
      (dss_one (ds_ret (de_make T.mk_Form (ok_Forminit T) (hr.mono (by decide)) (by rfl) T.mC_Form T.b_Forminit (da_cons de_int (da_cons de_int (da_cons de_int da_nil))))))
      dss_nil)
    (dss_cons (ds_set (i := 2) sc_form_by.nd rfl (.inl rfl) (dv_d (de_call (ok_taken_by T) (hr.mono (by decide)) (by rfl) T.m_taken_by T.F_taken_by.kp T.b_taken_by (da_cons (dv 0) (da_cons (dv 1) da_nil)))))
    (dss_one (ds_ret (de_make T.mk_Form (ok_Forminit T) (hr.mono (by decide)) (by rfl) T.mC_Form T.b_Forminit (da_cons (de_call (ok_least_by T) (hr.mono (by decide)) (by rfl) T.m_least_by T.F_least_by.kp T.b_least_by (da_cons (dv 0) (da_cons (dv 1) da_nil))) (da_cons (de_op os_mul (dn_bi cg_max (by rfl) T.m_max (by decide +kernel) (da_cons (dv 2) da_nil)).de (dv 0)) (da_cons (de_call (ok_more_by T) (hr.mono (by decide)) (by rfl) T.m_more_by T.F_more_by.kp T.b_more_by (da_cons (dv 0) (da_cons (dv 1) (da_cons (dv 2) da_nil)))) da_nil)))))))), ?_⟩
  · obtain ⟨i, rfl, _⟩ := h; rfl
  · intro ds Q h
    obtain ⟨⟨p, cs⟩, rfl, ok, q⟩ := h
    dsimp only at ok q
    obtain ⟨p1, p2, hok, hl⟩ := id ok
    refine ⟨_, rfl, _, rfl, ?_⟩
    cases cs with
    | nil =>
      refine ⟨_, ⟨_, _, _, rfl, trivial, trivial, trivial, rfl⟩, ?_⟩
      refine q _ ⟨0, 0, 0, rfl, fun _ => ⟨rfl, rfl, rfl⟩, ?_, fun z => absurd rfl z⟩
      obtain ⟨e, he⟩ := exists_least ok
      have h0 : Let p [] 0 := let_iff.mpr ⟨fun r r0 r1 => by
        unfold wait free cover
        rw [Int.zero_ediv, Int.zero_emod, if_neg (by omega)]
        exact Int.le_refl 0, fun x y r => by
          rcases r with ⟨c, hc, _⟩ | ⟨⟨x0, x1, h⟩, _⟩
          · cases hc
          · unfold wait free cover at h
            rw [Int.zero_ediv, Int.zero_emod, if_neg (by omega)] at h
            simp at h⟩
      exact ⟨Int.le_refl 0, h0, fun e' a b => by omega⟩
    | cons c cs' =>
      generalize hcs : c :: cs' = cs at *
      have hne : (!(!(cs.map Cut.d).isEmpty)) = false := by rw [← hcs]; rfl
      have hne2 : cs ≠ [] := by rw [← hcs]; exact fun z => by cases z
      refine if_b hne (fun z => by cases z) fun _ => ?_
      refine ⟨_, rfl, _, rfl, _, ⟨p, cs, rfl, ok, rfl⟩, ?_⟩
      refine ⟨_, rfl, _, rfl, (p, cs), rfl, ok, fun d hd => ?_⟩
      obtain ⟨f, rfl, hf⟩ := hd
      refine ⟨_, rfl, _, rfl, by rw [rng_len]; show 0 < p.toNat; omega, fun m hm hmax => ⟨_, rfl, _, _, rfl, rfl, .inr ⟨by show _ < p; omega, by show p < _; omega⟩, ?_⟩⟩
      refine ⟨_, rfl, _, rfl, _, rfl, (p, cs), rfl, ok, fun d hd => ?_⟩
      obtain ⟨mo, most, rfl, hmo⟩ := hd
      refine ⟨_, ⟨_, _, _, rfl, trivial, trivial, trivial, rfl⟩, ?_⟩
      have em : m = most := by
        obtain ⟨last, T, _⟩ := hmo
        obtain ⟨r, r0, r1, er⟩ := rng_mem.mp hm
        have h1 : cover p cs r ≤ most := T.max r r0 r1
        have er : m = cover p cs r := er
        have h2 : cover p cs last ≤ m := hmax (cover p cs last) (rng_mem.mpr ⟨last, T.l0, T.l1, rfl⟩)
        rw [T.at_] at h2
        omega
      subst em
      exact q _ ⟨f, m * p, mo, rfl, fun z => absurd z hne2, hf, fun _ => ⟨m, rfl, hmo⟩⟩
theorem ok_form (T : Tx P K mg a) : FnOk P w K mg base CX0 14 a.f_form a.d_form ["period", "cuts"] (liftSp K (fd_form a)) := by
  refine def_ok T.F_form sc_form (fun ds Q h => ?_) fun cdv A outer s H E hr => ⟨_,
    (dss_one (ds_ret (de_call (ok_form_by T) (hr.mono (by decide)) (by rfl) T.m_form_by T.F_form_by.kp T.b_form_by (da_cons (dv 0) (da_cons (de_call (ok_need_cuts T) (hr.mono (by decide)) (by rfl) T.m_need_cuts T.F_need_cuts.kp T.b_need_cuts (da_cons (dv 0) (da_cons (dv 1) da_nil))) da_nil))))), ?_⟩
  · obtain ⟨i, rfl, _⟩ := h; rfl
  · intro ds Q h
    obtain ⟨⟨p, b, cs⟩, rfl, ok, q⟩ := h
    dsimp only at ok q
    refine ⟨_, rfl, _, rfl, _, rfl, _, ⟨p, cs, ?_, ok, rfl⟩, (p, cs), rfl, ok, q⟩
    cases b with
    | true => exact .inr rfl
    | false => exact .inl rfl
theorem fld_form {K : PySem.W.Frag} (T : Tx P K mg a) : FldOk K a.C_Form "first" ∧ FldOk K a.C_Form "each" ∧ FldOk K a.C_Form "more" := ⟨⟨T.cl_Form, T.n_Form_first⟩, ⟨T.cl_Form, T.n_Form_each⟩, ⟨T.cl_Form, T.n_Form_more⟩⟩
theorem form_small {p f e m : Int} {cs : List Cut} (ok : CutsOk p cs) (hne : cs ≠ []) (F : IsForm p cs f e m) (ht : total cs ≤ 10000000) : 1 ≤ e ∧ e < 1073741824 := by
  refine ⟨(F.facts ok.cw hne).1, ?_⟩
  have p1 := ok.p1
  have p2 := ok.p2
  obtain ⟨most, rfl, last, T, _⟩ := F.most hne
  have h1 := cover_le p1 last ok.ok
  rw [T.at_] at h1
  have h2 : most * p ≤ 10000000 * p := Int.mul_le_mul_of_nonneg_right (by omega) (by omega)
  omega
theorem ok_copies_within (T : Tx P K mg a) : FnOk P w K mg base CX0 14 a.f_copies_within a.d_copies_within ["period", "cuts", "end"] (liftSp K fd_within) := by
  refine def_ok T.F_copies_within sc_copies_within (fun ds Q h => ?_) fun cdv A outer s H E hr => ⟨_,
    (dss_cons (ds_set (i := 3) sc_copies_within.nd rfl (.inl rfl) (dv_d (de_call (ok_need_cuts T) (hr.mono (by decide)) (by rfl) T.m_need_cuts T.F_need_cuts.kp T.b_need_cuts (da_cons (dv 0) (da_cons (dv 1) da_nil)))))
    (dss_cons (ds_expr (de_call (ok_need_number T) (hr.mono (by decide)) (by rfl) T.m_need_number T.F_need_number.kp T.b_need_number (da_cons de_str (da_cons (dv 2) (da_cons de_int (da_cons (de_globI (by rfl) T.c_MOST_END) da_nil))))))
    (dss_cons (ds_if (dt_not (dt_tru (dv 3)))
      (dss_one ds_never)
      dss_nil)
    (dss_cons (ds_set (i := 4) sc_copies_within.nd rfl (.inl rfl) (dv_d (de_call (ok_form_by T) (hr.mono (by decide)) (by rfl) T.m_form_by T.F_form_by.kp T.b_form_by (da_cons (dv 0) (da_cons (dv 3) da_nil)))))
    (dss_cons (ds_if (dt_cmp os_lt (dv 2) (de_fld (dv 4)))
      (dss_one (ds_ret de_int))
      dss_nil)
    (dss_one (ds_ret (dn_bi cg_max2 (by rfl) T.m_max (by decide +kernel) (da_cons de_int (da_cons (de_op os_div (de_op os_sub (dv 2) (de_fld (dv 4))) (de_fld (dv 4))) da_nil))).de))))))), ?_⟩
  · obtain ⟨i, rfl, _⟩ := h; rfl
  · intro ds Q h
    obtain ⟨⟨p, b, cs, x⟩, rfl, ⟨ok, hne, x0, x1, ht⟩, q⟩ := h
    dsimp only at ok hne x0 x1 ht q
    have hx1 : x ≤ 1000000000000000000000000000000 := x1
    refine ⟨_, rfl, _, rfl, _, ⟨p, cs, ?_, ok, rfl⟩, ?_⟩
    · cases b with
      | true => exact .inr rfl
      | false => exact .inl rfl
    refine ⟨_, rfl, _, ⟨_, _, _, _, rfl, x0, hx1, rfl⟩, ?_⟩
    have hne2 : (!(!(cs.map Cut.d).isEmpty)) = false := by
      cases cs with
      | nil => exact absurd rfl hne
      | cons c cs => rfl
    refine ⟨_, rfl, _, rfl, if_b hne2 (fun z => by cases z) fun _ => ?_⟩
    refine ⟨_, rfl, _, rfl, (p, cs), rfl, ok, fun d hd => ?_⟩
    obtain ⟨f, e, m, rfl, F⟩ := hd
    obtain ⟨e1, e2⟩ := form_small ok hne F ht
    have W := F.withinM ok.cw hne x0
    unfold within at W
    obtain ⟨F1, F2, F3⟩ := fld_form T
    refine ⟨_, rfl, _, rfl, _, _, _, rfl, F1, rfl, _, _, rfl, rfl, _, rfl, ?_⟩
    refine if_b rfl (fun hh => ?_) fun hh => ?_
    · rw [if_pos (of_decide_eq_true hh)] at W
      exact q _ ⟨_, rfl, W⟩
    · rw [if_neg (of_decide_eq_false hh)] at W
      exact ⟨_, rfl, _, rfl, _, _, _, rfl, F3, rfl, _, _, rfl, rfl, _, rfl, _, _, _, rfl, F2, rfl, _, _, rfl, rfl, ⟨e1, e2⟩, _, _, rfl, q _ ⟨_, rfl, W⟩⟩
end K90


namespace K90
open PySem PySem.Spec PyProof.Rows L2 DL
variable {P : Program} {w : World} {K : PySem.W.Frag} {mg : Str → Option Value} {base : Heap} {a : Ad}
theorem mixb {i x : Int} {k : Nat} (i0 : 0 ≤ i) (ik : i ≤ k) (hk : k ≤ 100000) (x0 : 0 ≤ x) (x1 : x < 2147483563) : (x * (4 * i + 23) + 10009 * i * i + 37).natAbs < 2 ^ 64 := by
  have h1 : x * (4 * i + 23) ≤ 2147483563 * (4 * i + 23) := Int.mul_le_mul_of_nonneg_right (by omega) (by omega)
  have h2 : 0 ≤ x * (4 * i + 23) := Int.mul_nonneg x0 (by omega)
  have h3 : 10009 * i * i ≤ 10009 * i * 100000 := Int.mul_le_mul_of_nonneg_left (by omega) (by omega)
  have h4 : 0 ≤ 10009 * i * i := Int.mul_nonneg (by omega) i0
  omega
theorem ok__law_draw (T : Tx P K mg a) : FnOk P w K mg base CX0 1 a.f__law_draw a.d__law_draw ["pen", "many"] (liftSpP K fp_draw) := by
  refine T.F__law_draw.ok sc__law_draw (fun vs H Q E h => ?_) fun cdv A outer s H vs Q E hr h => ?_
  · obtain ⟨A, ds, p, ws, k, pb, pn, rfl, _, _, _, r, m, rfl, _⟩ := h
    obtain ⟨v, w1, rfl, _, e⟩ := r
    have e : w1 = [] := e
    subst e
    rfl
  · obtain ⟨A', ds, p, ws, k, pb, pn, rfl, hA, hdom, hpen, r, m, rfl, m1, m2, hk, q⟩ := h
    obtain ⟨v, w1, rfl, rv, e⟩ := r
    have e : w1 = [] := e
    subst e
    have rv : v = .int m := rv
    subst rv
    refine ⟨_, (pss_cons (ps_if (pt_cmpR op_gt (pe_ix ix_list (pv 0) pe_int (fun _ _ => rfl)) pe_int (nomark _))
      (pss_cons (ps_set (i := 2) sc__law_draw.nd rfl (.inl rfl) (pe_op op_mod (pe_callTy call_int1 (by rfl) T.m_int (by decide +kernel) (pa_cons (pe_ix ix_list (pv 0) pe_int (fun _ _ => rfl)) pa_nil)) (pv 1)))
    (pss_cons (ps_asg (pe_op op_fdivW (pe_callTy call_int1 (by rfl) T.m_int (by decide +kernel) (pa_cons (pe_ix ix_list (pv 0) pe_int (fun _ _ => rfl)) pa_nil)) (pv 1)) (pg_sub (pv 0) pe_int set_list (by intro _; rfl)) rfl rfl rfl)
    (pss_one (ps_ret (pv 2)))))
      pss_nil)
    (pss_cons (ps_set (i := 3) sc__law_draw.nd rfl (.inl rfl) (pe_ix ix_list (pv 0) pe_int (fun _ _ => rfl)))
    (pss_cons (ps_asg (pe_op op_add (pv 3) pe_int) (pg_sub (pv 0) pe_int set_list (by intro _; rfl)) rfl rfl rfl)
    (pss_cons (ps_set (i := 4) sc__law_draw.nd rfl (.inl rfl) (pe_op op_add (pe_op op_mul pe_int (pv 3)) pe_int))
    (pss_cons (ps_if (pt_cmpR (op_neD hr.units) (pe_ix ix_list (pv 0) pe_int (fun _ _ => rfl)) (pe_lst pa_nil) (nomark _))
      (pss_one (ps_set (i := 4) sc__law_draw.nd rfl (.inl rfl) (pe_ix ix_list (pe_ix ix_list (pv 0) pe_int (fun _ _ => rfl)) (pe_op op_mod (pe_callTy call_int1 (by rfl) T.m_int (by decide +kernel) (pa_cons (pv 3) pa_nil)) (pe_callB call_len_seq (by rfl) T.m_len (by decide +kernel) (pa_cons (pe_ix ix_list (pv 0) pe_int (fun _ _ => rfl)) pa_nil))) (fun _ _ => rfl))))
      pss_nil)
    (pss_cons (ps_if (PW.pt (pw_and (pt_cmpR op_lt (pv 3) (pe_callB call_len_seq (by rfl) T.m_len (by decide +kernel) (pa_cons (pe_ix ix_list (pv 0) pe_int (fun _ _ => rfl)) pa_nil)) (nomark _)) (pw_and1 (pt_cmpR op_ge (pe_callB call_abs (by rfl) T.m_abs (by decide +kernel) (pa_cons (pv 4) pa_nil)) (pe_op op_pow pe_int pe_int) (nomark _)))))
      (pss_cons (ps_set (i := 5) sc__law_draw.nd rfl (.inl rfl) (pe_op op_add (pe_op op_mul pe_int (pe_op op_sub (pe_callB call_abs (by rfl) T.m_abs (by decide +kernel) (pa_cons (pv 4) pa_nil)) (pe_op op_pow pe_int pe_int))) (pe_callTy call_int1 (by rfl) T.m_int (by decide +kernel) (pa_cons (pe_cmpR op_lt (pv 4) pe_int (nomark _)) pa_nil))))
    (pss_cons (ps_asg (pe_op op_fdivW (pe_callTy call_int1 (by rfl) T.m_int (by decide +kernel) (pa_cons (pv 5) pa_nil)) (pv 1)) (pg_sub (pv 0) pe_int set_list (by intro _; rfl)) rfl rfl rfl)
    (pss_one (ps_ret (pe_op op_mod (pe_callTy call_int1 (by rfl) T.m_int (by decide +kernel) (pa_cons (pv 5) pa_nil)) (pv 1))))))
      pss_nil)
    (pss_cons (ps_set (i := 6) sc__law_draw.nd rfl (.inl rfl) (pe_op op_mod (pe_op op_pow (pe_callTy call_int1 (by rfl) T.m_int (by decide +kernel) (pa_cons (pe_op op_add (pe_op op_add (pe_op op_mod (pe_callTy call_int1 (by rfl) T.m_int (by decide +kernel) (pa_cons (pv 4) pa_nil)) pe_int) (pe_op op_mul pe_int (pv 3))) pe_int) pa_nil)) pe_int) pe_int))
    (pss_cons (ps_set (i := 6) sc__law_draw.nd rfl (.inl rfl) (pe_op op_mod (pe_op op_pow (pe_callTy call_int1 (by rfl) T.m_int (by decide +kernel) (pa_cons (pe_op op_add (pe_op op_add (pe_op op_mul (pv 6) (pe_op op_add (pe_op op_mul pe_int (pv 3)) pe_int)) (pe_op op_mul (pe_op op_mul pe_int (pv 3)) (pv 3))) pe_int) pa_nil)) pe_int) pe_int))
    (pss_one (ps_ret (pe_op op_mod (pe_callTy call_int1 (by rfl) T.m_int (by decide +kernel) (pa_cons (pe_op op_fdiv (pv 6) pe_int) pa_nil)) (pv 1)))))))))))), ?_⟩
    obtain ⟨i, l, hp, i0, ik, l0, ⟨hb, nb⟩, hlen⟩ := hpen
    have mlog : m.natAbs.log2 < 9000 := (wide_div (i := 0) (j := m) (b := 41) (by omega) (by omega) (by decide) (by decide)).2
    have sq : SqL K H p [.ref pb, .int i, .int l] := .inl (.inl hp)
    have npb : pb ≠ p := fun z => nb (z ▸ hA)
    have fin : ∀ (H' : Hp) (i' l' v : Int), 0 ≤ i' → i' ≤ k + 1 → 0 ≤ l' → 0 ≤ v → v < m → H' p = some (.lst [.ref pb, .int i', .int l']) → (∀ b o, b ≠ p → H b = some o → H' b = some o) → Q (.int v) H' := fun H' i' l' v h1 h2 h3 h4 h5 h6 h7 => by
      refine q v h4 h5 (.int v) H' (fun b o z => ?_) ⟨i', l', h6, h1, by omega, h3, ⟨h7 _ _ npb hb, nb⟩, hlen⟩ rfl
      by_cases e : b = p
      · subst e
        rw [hp] at z; cases z
        exact .inr ⟨rfl, trivial, _, h6, trivial⟩
      · exact .inl (h7 b o e z)
    refine ⟨_, rfl, p, _, 2, _, rfl, rfl, sq, rfl, _, _, rfl, rfl, _, rfl, ?_⟩
    refine if_b rfl (fun hh => ?_) fun hh => ?_
    · have hl : 0 < l := of_decide_eq_true hh
      refine ⟨_, rfl, p, _, 2, _, rfl, rfl, sq, rfl, .inl ⟨_, rfl, _, rfl, _, _, rfl, rfl, by omega, ?_⟩⟩
      refine ⟨_, rfl, p, _, 2, _, rfl, rfl, sq, rfl, .inl ⟨_, rfl, _, rfl, _, _, rfl, rfl, ⟨by omega, mlog⟩, ?_⟩⟩
      refine ⟨_, rfl, p, _, 2, 2, rfl, rfl, hp, rfl, _, rfl, ?_⟩
      obtain ⟨z1, z2⟩ := emod_in (a := l) (P := m) (by omega)
      exact fin _ i (l / m) (l % m) i0 (by omega) (Int.ediv_nonneg (by omega) (by omega)) z1 z2 upd_same fun b o nb e => by rw [upd_ne nb]; exact e
    · refine ⟨_, rfl, p, _, 1, _, rfl, rfl, sq, rfl, ?_⟩
      refine ⟨_, rfl, _, _, rfl, rfl, _, rfl, p, _, 1, 1, rfl, rfl, hp, rfl, ?_⟩
      have h1 : (upd H p (.lst [.ref pb, .int (i + 1), .int l])) p = some (.lst [.ref pb, .int (i + 1), .int l]) := upd_same
      have k1 : ∀ b o, b ≠ p → H b = some o → (upd H p (.lst [.ref pb, .int (i + 1), .int l])) b = some o := fun b o nb e => by rw [upd_ne nb]; exact e
      show tSeq _ _ _ _ (upd H p (.lst [.ref pb, .int (i + 1), .int l]))
      generalize upd H p (.lst [.ref pb, .int (i + 1), .int l]) = H1 at h1 k1
      have sq1 : SqL K H1 p [.ref pb, .int (i + 1), .int l] := .inl (.inl h1)
      have sb1 : SqL K H1 pb (pn.map V.int) := .inl (.inl (k1 _ _ npb hb))
      refine ⟨_, rfl, _, _, rfl, rfl, .inl ⟨by omega, by omega⟩, _, _, rfl, rfl, ?_⟩
      refine ⟨_, rfl, p, _, 0, _, rfl, rfl, sq1, rfl, Nat.zero_le _, fun e he => ?_⟩
      have k2 : ∀ b o, H1 b = some o → upd H1 e (.lst []) b = some o := fun b o z => by rw [upd_ne (ne_of_none z he)]; exact z
      have h2 := k2 _ _ h1
      have sb2 : SqL K (upd H1 e (.lst [])) pb (pn.map V.int) := .inl (.inl (k2 _ _ (k1 _ _ npb hb)))
      have kk : ∀ b o, b ≠ p → H b = some o → (upd H1 e (.lst [])) b = some o := fun b o nb z => k2 _ _ (k1 b o nb z)
      refine ⟨.list (pn.map PyData.int), .list [], .lst sb2 (dp_ints pn), .lst (.inl (.inl upd_same)) .nil, shaped_ints pn, rfl, _, rfl, ?_⟩
      generalize upd H1 e (.lst []) = H2 at h2 sb2 kk
      have sq2 : SqL K H2 p [.ref pb, .int (i + 1), .int l] := .inl (.inl h2)
      refine if_b rfl (fun hh => ?_) fun hh => ?_
      · have hpn : 0 < pn.length := by
          cases pn with
          | nil => cases hh
          | cons x xs => exact Nat.succ_pos _
        obtain ⟨z1, z2⟩ := emod_in (a := i) (P := pn.length) (by omega)
        obtain ⟨c, hc⟩ : ∃ c, pn[(i % pn.length).toNat]? = some c := ⟨_, List.getElem?_eq_getElem (by omega)⟩
        have hat : atI (pn.map V.int) (i % ((pn.map V.int).length : Nat)) = some (.int c) := by
          rw [List.length_map]
          unfold atI
          rw [List.length_map, ixN_nn z1 z2]
          show (pn.map V.int)[_]? = _
          rw [List.getElem?_map, hc]
          rfl
        refine ⟨_, rfl, p, _, 0, _, rfl, rfl, sq2, rfl, _, rfl, .inl ⟨_, rfl, _, rfl, p, _, 0, _, rfl, rfl, sq2, rfl, pb, _, rfl, .inl sb2, _, _, rfl, rfl, by rw [List.length_map]; omega, pb, _, _, _, rfl, rfl, sb2, hat, ?_⟩⟩
        refine ⟨_, rfl, _, rfl, p, _, 0, _, rfl, rfl, sq2, rfl, pb, _, rfl, .inl sb2, _, _, rfl, rfl, _, rfl, ?_⟩
        refine if_b rfl (fun ha => ?_) fun ha => ?_
        · refine ⟨_, rfl, _, rfl, _, _, rfl, rfl, ⟨by omega, by omega, by decide⟩, _, _, rfl, rfl, _, rfl, ?_⟩
          refine if_b rfl (fun hg => ?_) fun hg => ?_
          · have hg := of_decide_eq_true hg
            refine ⟨_, rfl, _, rfl, _, _, rfl, rfl, ⟨by omega, by omega, by decide⟩, _, _, rfl, rfl, _, _, rfl, rfl, .inl ⟨by omega, by omega⟩, _, rfl, _, _, rfl, rfl, .inr ⟨_, rfl, _, _, rfl, rfl, ?_⟩⟩
            refine ⟨_, rfl, .inl ⟨_, rfl, _, rfl, _, _, rfl, rfl, ⟨by omega, mlog⟩, _, rfl, p, _, 2, 2, rfl, rfl, h2, rfl, _, rfl, .inl ⟨_, rfl, _, rfl, _, _, rfl, rfl, by omega, ?_⟩⟩⟩
            have hG : 0 ≤ (2 * ((if c < 0 then -c else c) - 10 ^ Int.toNat 18) + (if decide (c < 0) = true then 1 else 0)) := by
              have hg1 : 0 ≤ 2 * ((if c < 0 then -c else c) - 10 ^ Int.toNat 18) := Int.mul_nonneg (by decide) (Int.sub_nonneg.mpr hg)
              refine Int.add_nonneg hg1 ?_
              split <;> decide
            obtain ⟨w1, w2⟩ := emod_in (a := (2 * ((if c < 0 then -c else c) - 10 ^ Int.toNat 18) + (if decide (c < 0) = true then 1 else 0))) (P := m) (by omega)
            exact fin _ (i + 1) ((2 * ((if c < 0 then -c else c) - 10 ^ Int.toNat 18) + (if decide (c < 0) = true then 1 else 0)) / m) ((2 * ((if c < 0 then -c else c) - 10 ^ Int.toNat 18) + (if decide (c < 0) = true then 1 else 0)) % m) (by omega) (by omega) (Int.ediv_nonneg hG (by omega)) w1 w2 upd_same (fun b o nb e => by rw [upd_ne nb]; exact kk b o nb e)
          · refine ⟨_, rfl, .inl ⟨_, rfl, _, _, rfl, rfl, by omega, _, rfl, _, _, rfl, rfl, .inl ⟨by omega, by omega⟩, _, _, rfl, rfl, _, _, rfl, rfl, .inl ⟨_, rfl, _, _, rfl, rfl, ⟨by omega, by omega, ?_⟩, _, _, rfl, rfl, by omega, ?_⟩⟩⟩
            have cm := emod_in (a := c) (P := 2147483543) (by omega)
            omega
            obtain ⟨x1, x2⟩ := emod_in (a := (c % 2147483543 + 60101 * i + 4099) ^ (5 : Nat)) (P := 2147483563) (by omega)
            refine ⟨_, rfl, _, rfl, _, _, rfl, rfl, .inl ⟨by omega, by omega⟩, _, _, rfl, rfl, _, _, rfl, rfl, .inr ⟨by omega, by omega⟩, _, rfl, _, _, rfl, rfl, .inl ⟨by omega, by omega⟩, _, rfl, _, _, rfl, rfl, .inr ⟨by omega, by omega⟩, _, _, rfl, rfl, _, _, rfl, rfl, .inl ⟨_, rfl, _, _, rfl, rfl, ⟨by omega, by omega, ?_⟩, _, _, rfl, rfl, by omega, ?_⟩⟩
            exact mixb i0 ik hk x1 x2
            obtain ⟨y1, y2⟩ := emod_in (a := ((c % 2147483543 + 60101 * i + 4099) ^ (5 : Nat) % 2147483563 * (4 * i + 23) + 10009 * i * i + 37) ^ (3 : Nat)) (P := 2147483587) (by omega)
            refine ⟨_, rfl, _, _, rfl, rfl, ⟨by omega, by omega⟩, .inl ⟨_, rfl, _, rfl, _, _, rfl, rfl, by omega, ?_⟩⟩
            obtain ⟨w1, w2⟩ := emod_in (a := ((c % 2147483543 + 60101 * i + 4099) ^ (5 : Nat) % 2147483563 * (4 * i + 23) + 10009 * i * i + 37) ^ (3 : Nat) % 2147483587 / 8) (P := m) (by omega)
            exact fin _ (i + 1) l _ (by omega) (by omega) l0 w1 w2 h2 kk
        · refine ⟨_, rfl, .inl ⟨_, rfl, _, _, rfl, rfl, by omega, _, rfl, _, _, rfl, rfl, .inl ⟨by omega, by omega⟩, _, _, rfl, rfl, _, _, rfl, rfl, .inl ⟨_, rfl, _, _, rfl, rfl, ⟨by omega, by omega, ?_⟩, _, _, rfl, rfl, by omega, ?_⟩⟩⟩
          have cm := emod_in (a := c) (P := 2147483543) (by omega)
          omega
          obtain ⟨x1, x2⟩ := emod_in (a := (c % 2147483543 + 60101 * i + 4099) ^ (5 : Nat)) (P := 2147483563) (by omega)
          refine ⟨_, rfl, _, rfl, _, _, rfl, rfl, .inl ⟨by omega, by omega⟩, _, _, rfl, rfl, _, _, rfl, rfl, .inr ⟨by omega, by omega⟩, _, rfl, _, _, rfl, rfl, .inl ⟨by omega, by omega⟩, _, rfl, _, _, rfl, rfl, .inr ⟨by omega, by omega⟩, _, _, rfl, rfl, _, _, rfl, rfl, .inl ⟨_, rfl, _, _, rfl, rfl, ⟨by omega, by omega, ?_⟩, _, _, rfl, rfl, by omega, ?_⟩⟩
          exact mixb i0 ik hk x1 x2
          obtain ⟨y1, y2⟩ := emod_in (a := ((c % 2147483543 + 60101 * i + 4099) ^ (5 : Nat) % 2147483563 * (4 * i + 23) + 10009 * i * i + 37) ^ (3 : Nat)) (P := 2147483587) (by omega)
          refine ⟨_, rfl, _, _, rfl, rfl, ⟨by omega, by omega⟩, .inl ⟨_, rfl, _, rfl, _, _, rfl, rfl, by omega, ?_⟩⟩
          obtain ⟨w1, w2⟩ := emod_in (a := ((c % 2147483543 + 60101 * i + 4099) ^ (5 : Nat) % 2147483563 * (4 * i + 23) + 10009 * i * i + 37) ^ (3 : Nat) % 2147483587 / 8) (P := m) (by omega)
          exact fin _ (i + 1) l _ (by omega) (by omega) l0 w1 w2 h2 kk
      · have hc : ∃ c, c = 60101 * i + 4099 := ⟨_, rfl⟩
        refine ⟨_, rfl, _, rfl, p, _, 0, _, rfl, rfl, sq2, rfl, pb, _, rfl, .inl sb2, _, _, rfl, rfl, _, rfl, ?_⟩
        refine if_b rfl (fun ha => ?_) fun ha => ?_
        · refine ⟨_, rfl, _, rfl, _, _, rfl, rfl, ⟨by omega, by omega, by decide⟩, _, _, rfl, rfl, _, rfl, ?_⟩
          refine if_b rfl (fun hg => ?_) fun hg => ?_
          · have hg := of_decide_eq_true hg
            refine ⟨_, rfl, _, rfl, _, _, rfl, rfl, ⟨by omega, by omega, by decide⟩, _, _, rfl, rfl, _, _, rfl, rfl, .inl ⟨by omega, by omega⟩, _, rfl, _, _, rfl, rfl, .inr ⟨_, rfl, _, _, rfl, rfl, ?_⟩⟩
            refine ⟨_, rfl, .inl ⟨_, rfl, _, rfl, _, _, rfl, rfl, ⟨by omega, mlog⟩, _, rfl, p, _, 2, 2, rfl, rfl, h2, rfl, _, rfl, .inl ⟨_, rfl, _, rfl, _, _, rfl, rfl, by omega, ?_⟩⟩⟩
            have hG : 0 ≤ (2 * ((if (60101 * i + 4099) < 0 then -(60101 * i + 4099) else (60101 * i + 4099)) - 10 ^ Int.toNat 18) + (if decide ((60101 * i + 4099) < 0) = true then 1 else 0)) := by
              have hg1 : 0 ≤ 2 * ((if (60101 * i + 4099) < 0 then -(60101 * i + 4099) else (60101 * i + 4099)) - 10 ^ Int.toNat 18) := Int.mul_nonneg (by decide) (Int.sub_nonneg.mpr hg)
              refine Int.add_nonneg hg1 ?_
              split <;> decide
            obtain ⟨w1, w2⟩ := emod_in (a := (2 * ((if (60101 * i + 4099) < 0 then -(60101 * i + 4099) else (60101 * i + 4099)) - 10 ^ Int.toNat 18) + (if decide ((60101 * i + 4099) < 0) = true then 1 else 0))) (P := m) (by omega)
            exact fin _ (i + 1) ((2 * ((if (60101 * i + 4099) < 0 then -(60101 * i + 4099) else (60101 * i + 4099)) - 10 ^ Int.toNat 18) + (if decide ((60101 * i + 4099) < 0) = true then 1 else 0)) / m) ((2 * ((if (60101 * i + 4099) < 0 then -(60101 * i + 4099) else (60101 * i + 4099)) - 10 ^ Int.toNat 18) + (if decide ((60101 * i + 4099) < 0) = true then 1 else 0)) % m) (by omega) (by omega) (Int.ediv_nonneg hG (by omega)) w1 w2 upd_same (fun b o nb e => by rw [upd_ne nb]; exact kk b o nb e)
          · refine ⟨_, rfl, .inl ⟨_, rfl, _, _, rfl, rfl, by omega, _, rfl, _, _, rfl, rfl, .inl ⟨by omega, by omega⟩, _, _, rfl, rfl, _, _, rfl, rfl, .inl ⟨_, rfl, _, _, rfl, rfl, ⟨by omega, by omega, ?_⟩, _, _, rfl, rfl, by omega, ?_⟩⟩⟩
            have cm := emod_in (a := (60101 * i + 4099)) (P := 2147483543) (by omega)
            omega
            obtain ⟨x1, x2⟩ := emod_in (a := ((60101 * i + 4099) % 2147483543 + 60101 * i + 4099) ^ (5 : Nat)) (P := 2147483563) (by omega)
            refine ⟨_, rfl, _, rfl, _, _, rfl, rfl, .inl ⟨by omega, by omega⟩, _, _, rfl, rfl, _, _, rfl, rfl, .inr ⟨by omega, by omega⟩, _, rfl, _, _, rfl, rfl, .inl ⟨by omega, by omega⟩, _, rfl, _, _, rfl, rfl, .inr ⟨by omega, by omega⟩, _, _, rfl, rfl, _, _, rfl, rfl, .inl ⟨_, rfl, _, _, rfl, rfl, ⟨by omega, by omega, ?_⟩, _, _, rfl, rfl, by omega, ?_⟩⟩
            exact mixb i0 ik hk x1 x2
            obtain ⟨y1, y2⟩ := emod_in (a := (((60101 * i + 4099) % 2147483543 + 60101 * i + 4099) ^ (5 : Nat) % 2147483563 * (4 * i + 23) + 10009 * i * i + 37) ^ (3 : Nat)) (P := 2147483587) (by omega)
            refine ⟨_, rfl, _, _, rfl, rfl, ⟨by omega, by omega⟩, .inl ⟨_, rfl, _, rfl, _, _, rfl, rfl, by omega, ?_⟩⟩
            obtain ⟨w1, w2⟩ := emod_in (a := (((60101 * i + 4099) % 2147483543 + 60101 * i + 4099) ^ (5 : Nat) % 2147483563 * (4 * i + 23) + 10009 * i * i + 37) ^ (3 : Nat) % 2147483587 / 8) (P := m) (by omega)
            exact fin _ (i + 1) l _ (by omega) (by omega) l0 w1 w2 h2 kk
        · refine ⟨_, rfl, .inl ⟨_, rfl, _, _, rfl, rfl, by omega, _, rfl, _, _, rfl, rfl, .inl ⟨by omega, by omega⟩, _, _, rfl, rfl, _, _, rfl, rfl, .inl ⟨_, rfl, _, _, rfl, rfl, ⟨by omega, by omega, ?_⟩, _, _, rfl, rfl, by omega, ?_⟩⟩⟩
          have cm := emod_in (a := (60101 * i + 4099)) (P := 2147483543) (by omega)
          omega
          obtain ⟨x1, x2⟩ := emod_in (a := ((60101 * i + 4099) % 2147483543 + 60101 * i + 4099) ^ (5 : Nat)) (P := 2147483563) (by omega)
          refine ⟨_, rfl, _, rfl, _, _, rfl, rfl, .inl ⟨by omega, by omega⟩, _, _, rfl, rfl, _, _, rfl, rfl, .inr ⟨by omega, by omega⟩, _, rfl, _, _, rfl, rfl, .inl ⟨by omega, by omega⟩, _, rfl, _, _, rfl, rfl, .inr ⟨by omega, by omega⟩, _, _, rfl, rfl, _, _, rfl, rfl, .inl ⟨_, rfl, _, _, rfl, rfl, ⟨by omega, by omega, ?_⟩, _, _, rfl, rfl, by omega, ?_⟩⟩
          exact mixb i0 ik hk x1 x2
          obtain ⟨y1, y2⟩ := emod_in (a := (((60101 * i + 4099) % 2147483543 + 60101 * i + 4099) ^ (5 : Nat) % 2147483563 * (4 * i + 23) + 10009 * i * i + 37) ^ (3 : Nat)) (P := 2147483587) (by omega)
          refine ⟨_, rfl, _, _, rfl, rfl, ⟨by omega, by omega⟩, .inl ⟨_, rfl, _, rfl, _, _, rfl, rfl, by omega, ?_⟩⟩
          obtain ⟨w1, w2⟩ := emod_in (a := (((60101 * i + 4099) % 2147483543 + 60101 * i + 4099) ^ (5 : Nat) % 2147483563 * (4 * i + 23) + 10009 * i * i + 37) ^ (3 : Nat) % 2147483587 / 8) (P := m) (by omega)
          exact fin _ (i + 1) l _ (by omega) (by omega) l0 w1 w2 h2 kk
end K90


namespace K90
open PySem PySem.Spec PyProof.Rows L2 DL
variable {P : Program} {w : World} {K : PySem.W.Frag} {mg : Str → Option Value} {base : Heap} {a : Ad}
theorem exists_leastW {p : Int} {cs : List Cut} (ok : CW p cs) : ∃ e, IsLeast p cs e := by
  have p1 := ok.p1
  obtain ⟨most, last, T⟩ := top_exists (cs := cs) p1
  have hL := let_near ok T
  have m0 : 0 ≤ most := by rw [← T.at_]; exact cover_nnW ok last
  have h0 : 0 ≤ most * p + last := by have := T.l0; have : 0 ≤ most * p := Int.mul_nonneg m0 (by omega); omega
  obtain ⟨m, h1, h2⟩ := least_of (R := fun n => Let p cs (n : Int)) (most * p + last).toNat (by show Let p cs _; rw [Int.toNat_of_nonneg h0]; exact hL)
  refine ⟨m, by omega, h1, fun e' h0 hlt hL' => h2 e'.toNat (by omega) ?_⟩
  show Let p cs _
  rw [Int.toNat_of_nonneg h0]
  exact hL'
theorem exists_form {p : Int} {cs : List Cut} (ok : CW p cs) (hne : cs ≠ []) : ∃ f e m, IsForm p cs f e m := by
  have p1 := ok.p1
  obtain ⟨f, hf⟩ := exists_leastW ok
  obtain ⟨most, last, T⟩ := top_exists (cs := cs) p1
  by_cases h : Hang (Ed p cs (Gj p cs most 0))
  · exact ⟨f, most * p, last + 1 - p, fun z => absurd z hne, hf, fun _ => ⟨most, rfl, last, T, .inl ⟨h, rfl⟩⟩⟩
  · have hP : Hang (Ed p cs (Gj p cs most p)) := hang_but ok T.l0 T.l1 (fun r r0 r1 _ => ⟨r0, r1, .inr r1⟩) fun r h => ⟨h.1, h.2.1⟩
    obtain ⟨m, h1, h2⟩ := least_of (R := fun n => Hang (Ed p cs (Gj p cs most n))) p.toNat (by show Hang (Ed p cs (Gj p cs most _)); rw [Int.toNat_of_nonneg (by omega)]; exact hP)
    have hm : (m : Int) ≤ p := by
      by_cases z : (m : Int) ≤ p
      · exact z
      · exact absurd (by show Hang (Ed p cs (Gj p cs most _)); rw [Int.toNat_of_nonneg (by omega)]; exact hP) (h2 p.toNat (by omega))
    have hm1 : 1 ≤ m := by
      by_cases z : m = 0
      · subst z; exact absurd h1 h
      · omega
    refine ⟨f, most * p, m, fun z => absurd z hne, hf, fun _ => ⟨most, rfl, last, T, .inr ⟨h, by omega, hm, h1, fun j j1 j2 hj => h2 j.toNat (by omega) ?_⟩⟩⟩
    show Hang (Ed p cs (Gj p cs most _))
    rw [Int.toNat_of_nonneg (by omega)]
    exact hj
def np : Slot → Bool
  | .pen => false
  | _ => true
theorem np_d {d : D} : np (.d d) = true := rfl
theorem np_un : np .un = true := rfl
theorem onePen_cons {sl : SL} (h : sl.all np = true) : onePen (.pen :: sl) 0 = true := by
  unfold onePen
  rw [List.all_eq_true]
  rintro ⟨s, i⟩ hm
  rw [List.mem_zipIdx_iff_getElem?] at hm
  match i, hm with
  | 0, hm => cases hm; rfl
  | i + 1, hm =>
    have hm : sl[i]? = some s := hm
    have := List.all_eq_true.mp h s (List.mem_of_getElem? hm)
    cases s with
    | pen => cases this
    | _ => rfl
def spPen (K : PySem.W.Frag) : Sp := fun vs H Q _ => ∃ (x : Addr) (ns : List Int), vs = [.ref x] ∧ SqL K H x (ns.map V.int) ∧ ns.length ≤ 63 ∧ ∀ H' p b, (∀ c o, H c = some o → H' c = some o) → H p = none → H b = none → H' p = some (.lst [.ref b, .int 0, .int 0]) → H' b = some (.lst (ns.map V.int)) → Q (.ref p) H'
theorem un_upd {H : Hp} {p c : Addr} {o : HO} (h : upd H p o c = none) : c ≠ p ∧ H c = none := by
  have n : c ≠ p := fun z => by subst z; rw [upd_same] at h; cases h
  exact ⟨n, by rw [upd_ne n] at h; exact h⟩
theorem ok__law_pen (T : Tx P K mg a) : FnOk P w K mg base CX0 1 a.f__law_pen a.d__law_pen ["script"] (spPen K) := by
  refine T.F__law_pen.ok sc__law_pen (fun vs H Q E h => ?_) fun cdv A outer s H vs Q E hr h => ?_
  · obtain ⟨x, ns, rfl, _⟩ := h; rfl
  · obtain ⟨x, ns, rfl, sq, hl, q⟩ := h
    refine ⟨_, pss_one (ps_ret (pe_lst (pa_cons (pe_callTy call_list_of (by rfl) T.m_list (by decide +kernel) (pa_cons (pe_slice sl_list (pv 0) po_none (po_some pe_int)) pa_nil)) (pa_cons pe_int (pa_cons pe_int pa_nil))))), ?_⟩
    have ec : cutV (ns.map V.int) none (some 63) = ns.map V.int := by
      have hl' : (ns.map V.int).length ≤ 63 := by rw [List.length_map]; exact hl
      unfold cutV
      have e1 : HT.sIx (ns.map V.int).length 0 none = 0 := rfl
      have e2 : HT.sIx (ns.map V.int).length (ns.map V.int).length (some 63) = (ns.map V.int).length := by
        unfold HT.sIx
        simp
        simp at hl'
        omega
      rw [e1, e2, List.drop_zero, Nat.sub_zero, List.take_length]
    refine ⟨.ref x, rfl, 63, rfl, x, _, rfl, sq, fun p1 hp1 => ⟨p1, _, rfl, .inl (.inl (.inl upd_same)), fun l hl' => ⟨Nat.le_of_ble_eq_true rfl, fun p2 hp2 => ?_⟩⟩⟩
    rw [ec] at hl' hp2 ⊢
    obtain ⟨n1, m1⟩ := un_upd hl'
    obtain ⟨n2, m2⟩ := un_upd hp2
    obtain ⟨n3, m3⟩ := un_upd m2
    refine q _ p2 l (fun c o e => ?_) m3 m1 upd_same ?_
    · rw [upd_ne (ne_of_none e m3), upd_ne (ne_of_none e m1), upd_ne (ne_of_none e hp1)]; exact e
    · rw [upd_ne (Ne.symm n2)]; exact upd_same
def spLaw (K : PySem.W.Frag) : Sp := fun vs H Q _ => ∃ (a : Addr) (ns : List Int), vs = [.ref a] ∧ SqL K H a (ns.map V.int) ∧ ns.length ≤ 63 ∧ ∀ H', Q (.bl true) H'
/-- the slots behind `pen = _law_pen(script)` -/
theorem pen_own {n i : Nat} {s : Slot} (h : (Slot.un :: Slot.pen :: List.replicate n Slot.un)[i]? = some s) (o : ownS s) : i = 1 ∧ s = .pen := by
  match i, h with
  | 0, h => cases h; exact o.elim
  | 1, h => cases h; exact ⟨rfl, rfl⟩
  | i + 2, h =>
    have : (List.replicate n Slot.un)[i]? = some s := h
    rw [List.getElem?_replicate] at this
    split at this
    · cases this; exact o.elim
    · cases this
theorem pen_env {n : Nat} {H H1 : Hp} {p b : Addr} {ns : List Int} {x0 : Option V} {σ : L2.St} (hs : σ.length = n) (hl : ns.length ≤ 63) (hk : ∀ c o, H c = some o → H1 c = some o) (hp : H p = none) (h1 : H1 p = some (.lst [.ref b, .int 0, .int 0])) (h2 : H1 b = some (.lst (ns.map V.int))) :
    EnvOk K ⟨fun _ => False, fun _ => False, H, b, ns, p⟩ (.un :: .pen :: List.replicate n .un) 0 (x0 :: some (.ref p) :: σ) H1 := by
  have hpb : b ≠ p := fun z => by rw [z, h1] at h2; cases ns <;> cases h2
  refine ⟨by simp [hs], fun i d e => ?_, fun i d e => ?_, fun i e => ?_, fun i j s t c e1 e2 o1 o2 _ _ => ?_, LeA.same hk, fun _ z => z.elim, fun _ z => z.elim, fun i c e1 e2 => ?_⟩
  · match i, e with
    | 0, e => cases e
    | 1, e => cases e
    | i + 2, e =>
      have : (List.replicate n Slot.un)[i]? = some (.d d) := e
      rw [List.getElem?_replicate] at this
      split at this <;> cases this
  · have := (pen_own e trivial).2
    cases this
  · obtain ⟨rfl, _⟩ := pen_own e trivial
    refine ⟨p, rfl, ⟨0, 0, h1, by omega, by omega, by omega, ⟨h2, fun z => ?_⟩, hl⟩, .inr ⟨fun z => z.elim, hp⟩⟩
    rcases z with z | ⟨i, s, z1, z2, z3⟩
    · exact z.elim
    · obtain ⟨rfl, _⟩ := pen_own z1 z2
      have z4 : V.ref p = V.ref b := Option.some.inj (Option.some.inj z3)
      injection z4 with z5
      exact hpb z5.symm
  · rw [(pen_own e1 o1).1, (pen_own e2 o2).1]
  · obtain ⟨rfl, _⟩ := pen_own e1 trivial
    cases e2
    rfl
def lawEnds : EndsD := ⟨fun _ _ => False, fun d _ _ => d = .bl true, fun _ _ => False, fun _ _ => False⟩
theorem lawLk {g : G} {D : Ends} (q : ∀ H', D.rt (.bl true) H') : Lk K g D lawEnds :=
  ⟨fun _ _ _ _ _ z => z.elim, fun d v sl k σ H' e r z => by have z : d = .bl true := z; subst z; rw [show v = .bl true from r]; exact q H', fun _ _ _ _ _ z => z.elim, fun _ _ _ _ _ z => z.elim⟩
def fp_rgt : FP := ⟨fun k ds Q => ds = [] ∧ k ≤ 1000 ∧ ∀ k', k' ≤ k + 100 → Q (.bl true) k', fun k ds P Q h ⟨a, b, q⟩ => ⟨a, b, fun k' x => h _ _ (q k' x)⟩⟩
end K90


namespace K90
open PySem PySem.Spec PyProof.Rows L2 DL
variable {P : Program} {w : World} {K : PySem.W.Frag} {mg : Str → Option Value} {base : Heap} {a : Ad}
theorem first_ix {ns : List Int} {m : Int} (h : m ∈ ns) : ∃ j : Nat, ns[j]? = some m ∧ ∀ (i : Nat) (z : Int), i < j → ns[i]? = some z → z ≠ m := by
  obtain ⟨n, hn⟩ := List.getElem?_of_mem h
  obtain ⟨j, h1, h2⟩ := least_of (R := fun n => ns[n]? = some m) n hn
  exact ⟨j, h1, fun i z hi hz e => h2 i hi (by rw [hz, e])⟩
def lA (L : Int → Int) : D → D
  | .int i => .int (L i)
  | y => y
theorem ok_best_begin (T : Tx P K mg a) : FnOk P w K mg base CX0 13 a.f_best_begin a.d_best_begin ["period", "cuts"] (liftSp K fd_best_begin) := by
  refine def_ok T.F_best_begin sc_best_begin (fun ds Q h => ?_) fun cdv A outer s H E hr => ⟨_,
    (dss_cons (ds_set (i := 2) sc_best_begin.nd rfl (.inr rfl) (dv_d (de_call (ok_need_cuts T) (hr.mono (by decide)) (by rfl) T.m_need_cuts T.F_need_cuts.kp T.b_need_cuts (da_cons (dv 0) (da_cons (dv 1) da_nil)))))
    (dss_cons (ds_setLc (i := 3) (wr := vD) (fun _ _ _ _ z => wr_d z) wm_d rfl sc_best_begin.nd rfl rfl (sw_true rfl rfl rfl (by decide +kernel)) (LcOk.mk (own := [("begin", 4)]) (blkOk_by (N := ["period", "cuts", "told", "ends", "begin"]) (sc := defScope st_best_begin) (by decide +kernel)) (di_range (by rfl) T.m_range (dv 0)) (fun _ _ _ _ _ => (dg_name (i := 4) sc_best_begin.nd rfl (.inl rfl))) (fun _ _ _ _ _ => dts_nil) (fun _ _ _ _ _ => (de_call (ok_least_by T) (hr.mono (by decide)) (by rfl) T.m_least_by T.F_least_by.kp T.b_least_by (da_cons (dv 0) (da_cons (de_call (ok_turned_by T) (hr.mono (by decide)) (by rfl) T.m_turned_by T.F_turned_by.kp T.b_turned_by (da_cons (dv 0) (da_cons (dv 2) (da_cons (dv 4) da_nil)))) da_nil)))) (by decide)) s)
    (dss_one (ds_ret (de_tup (da_cons (de_index (dv 3) (dn_bi cg_min (by rfl) T.m_min (by decide +kernel) (da_cons (dv 3) da_nil)).de) (da_cons (dn_bi cg_min (by rfl) T.m_min (by decide +kernel) (da_cons (dv 3) da_nil)).de da_nil))))))), ?_⟩
  · obtain ⟨i, rfl, _⟩ := h; rfl
  · intro ds Q h
    obtain ⟨⟨p, b, cs⟩, rfl, ok, q⟩ := h
    dsimp only at ok q
    obtain ⟨p1, p2, hok, hl⟩ := id ok
    have hL : ∃ L : Int → Int, ∀ t, IsLeast p (turned p cs t) (L t) := Classical.axiomOfChoice fun t => exists_least (turned_ok ok)
    obtain ⟨L, hL⟩ := hL
    refine ⟨_, rfl, _, rfl, _, ⟨p, cs, ?_, ok, rfl⟩, ?_⟩
    · cases b with
      | true => exact .inr rfl
      | false => exact .inl rfl
    have hln : ((rng p id).map D.int).length ≤ 100000 := by rw [List.length_map, rng_len]; omega
    refine ⟨by rfl, _, rfl, _, rfl, by omega, by omega, ?_⟩
    dsimp only
    rw [rgD]
    refine lc_map (lA L) hln (fun y hy A hA => ?_) ?_
    · obtain ⟨i, hi, rfl⟩ := List.mem_map.mp hy
      refine ⟨_, rfl, _, rfl, _, rfl, _, rfl, _, ⟨p, cs, i, rfl, ok, rfl⟩, (p, turned p cs i), rfl, turned_ok ok, fun d hd => ?_⟩
      obtain ⟨e, rfl, he⟩ := hd
      have : e = L i := he.uniq (hL i)
      subst this
      exact hA
    · have es : D.lst (((rng p id).map D.int).map (lA L)) = intsD (rng p L) := by
        unfold intsD rng
        rw [List.map_map, List.map_map, List.map_map]
        rfl
      rw [es]
      have hpos : 0 < (rng p L).length := by rw [rng_len]; omega
      refine ⟨_, rfl, rng p L, rfl, _, rfl, rng p L, rfl, hpos, fun m hm hmin => ?_⟩
      obtain ⟨j, hj, hfst⟩ := first_ix hm
      refine ⟨j, m, rfl, hj, fun i z hi hz => hfst i z hi hz, _, rfl, rng p L, rfl, hpos, fun m' hm' hmin' => ⟨Nat.le_of_ble_eq_true rfl, ?_⟩⟩
      have em : m' = m := by
        have h1 := hmin m' hm'
        have h2 := hmin' m hm
        omega
      subst em
      refine q _ ⟨rng p L, j, m', ⟨rng_len p L, fun i e he => ?_, hj, fun i e he => hmin e (List.mem_of_getElem? he), hfst⟩, rfl⟩
      have hi : (i : Int) < p := by
        have := (List.getElem?_eq_some_iff.mp he).1
        rw [rng_len] at this
        omega
      have := rng_at (P := p) (f := L) (i := i) (by omega) hi
      rw [Int.toNat_natCast, he] at this
      have this : e = L i := Option.some.inj this
      rw [this]
      exact hL i
end K90


namespace K90
open PySem PySem.Spec PyProof.Rows L2 DL
/-! ### a walk along all edges (Euler) -/
section
variable {ε : Type} {src dst : ε → Int}
def TrailE (src dst : ε → Int) : Int → List ε → Int → Prop
  | a, [], b => a = b
  | a, e :: es, b => src e = a ∧ TrailE src dst (dst e) es b
theorem TrailE.append : ∀ {T U : List ε} {a b c : Int}, TrailE src dst a T b → TrailE src dst b U c → TrailE src dst a (T ++ U) c
  | [], _, _, _, _, h, h' => by have h : _ = _ := h; subst h; exact h'
  | _ :: _, _, _, _, _, ⟨h1, h2⟩, h' => ⟨h1, h2.append h'⟩
def deg (f : ε → Int) (E : List ε) (x : Int) : Int := (E.countP fun e => decide (f e = x) : Nat)
theorem deg_cons (f : ε → Int) (e : ε) (E : List ε) (x : Int) : deg f (e :: E) x = deg f E x + if f e = x then 1 else 0 := by
  unfold deg
  rw [List.countP_cons]
  by_cases h : f e = x <;> simp [h]
theorem deg_append (f : ε → Int) (E F : List ε) (x : Int) : deg f (E ++ F) x = deg f E x + deg f F x := by
  unfold deg
  rw [List.countP_append]
  omega
theorem deg_perm {f : ε → Int} {E F : List ε} (h : E.Perm F) (x : Int) : deg f E x = deg f F x := by
  unfold deg
  rw [h.countP_eq]
theorem deg_nn (f : ε → Int) (E : List ε) (x : Int) : 0 ≤ deg f E x := by unfold deg; omega
theorem deg_pos {f : ε → Int} {E : List ε} {x : Int} : 0 < deg f E x ↔ ∃ e ∈ E, f e = x := by
  unfold deg
  constructor
  · intro h
    have h : 0 < E.countP fun e => decide (f e = x) := by omega
    obtain ⟨e, h1, h2⟩ := List.countP_pos_iff.mp h
    exact ⟨e, h1, of_decide_eq_true h2⟩
  · rintro ⟨e, h1, h2⟩
    have : 0 < E.countP fun e => decide (f e = x) := List.countP_pos_iff.mpr ⟨e, h1, decide_eq_true h2⟩
    omega
theorem bal_trail : ∀ {T : List ε} {a b : Int}, TrailE src dst a T b → ∀ x, deg src T x - deg dst T x = (if a = x then 1 else 0) - (if b = x then 1 else 0)
  | [], a, b, h, x => by
    have h : a = b := h
    subst h
    show (0 : Int) - 0 = _
    omega
  | e :: T, a, b, ⟨h1, h2⟩, x => by
    have i := bal_trail h2 x
    rw [deg_cons, deg_cons]
    subst h1
    omega
theorem greedy : ∀ (n : Nat) (E : List ε), E.length = n → ∀ u : Int, ∃ T R v, TrailE src dst u T v ∧ (T ++ R).Perm E ∧ ∀ e ∈ R, src e ≠ v := fun n => by
  induction n with
  | zero =>
    intro E hE u
    have : E = [] := List.length_eq_zero_iff.mp hE
    subst this
    exact ⟨[], [], u, rfl, List.Perm.refl _, fun e he => by cases he⟩
  | succ n ih =>
    intro E hE u
    by_cases h : ∃ e ∈ E, src e = u
    · obtain ⟨e, he, hu⟩ := h
      obtain ⟨s, t, rfl⟩ := List.append_of_mem he
      have hp : (e :: (s ++ t)).Perm (s ++ e :: t) := List.perm_middle.symm
      obtain ⟨T, R, v, h1, h2, h3⟩ := ih (s ++ t) (by have := hp.length_eq; rw [List.length_cons] at this; omega) (dst e)
      exact ⟨e :: T, R, v, ⟨hu, h1⟩, (h2.cons e).trans hp, h3⟩
    · exact ⟨[], E, u, rfl, List.Perm.refl _, fun e he z => h ⟨e, he, z⟩⟩
/-- from a balanced lot: back where it began -/
theorem greedy_to {E : List ε} {a b : Int} (hb : ∀ x, deg src E x - deg dst E x = (if a = x then 1 else 0) - (if b = x then 1 else 0)) : ∃ T R, TrailE src dst a T b ∧ (T ++ R).Perm E ∧ (∀ x, deg src R x = deg dst R x) ∧ ∀ e ∈ R, src e ≠ b := by
  obtain ⟨T, R, v, h1, h2, h3⟩ := greedy (src := src) (dst := dst) E.length E rfl a
  have bt := bal_trail h1
  have sp : ∀ x, deg src E x = deg src T x + deg src R x ∧ deg dst E x = deg dst T x + deg dst R x := fun x => ⟨by rw [← deg_perm h2, deg_append], by rw [← deg_perm h2, deg_append]⟩
  have hv : deg src R v = 0 := by
    have n := deg_nn src R v
    by_cases z : 0 < deg src R v
    · obtain ⟨e, he, ev⟩ := deg_pos.mp z
      exact absurd ev (h3 e he)
    · omega
  have e : v = b := by
    have h4 := hb v
    have h5 := bt v
    obtain ⟨s1, s2⟩ := sp v
    have n := deg_nn dst R v
    rw [if_pos rfl] at h5
    by_cases z : b = v
    · exact z.symm
    · rw [if_neg z] at h4
      omega
  subst e
  refine ⟨T, R, h1, h2, fun x => ?_, h3⟩
  have h4 := hb x
  have h5 := bt x
  obtain ⟨s1, s2⟩ := sp x
  omega
/-- the nodes of a walk -/
theorem TrailE.split : ∀ {T : List ε} {a b u : Int}, TrailE src dst a T b → (u = a ∨ ∃ e ∈ T, src e = u ∨ dst e = u) → ∃ T1 T2, T = T1 ++ T2 ∧ TrailE src dst a T1 u ∧ TrailE src dst u T2 b
  | [], a, b, u, h, hu => by
    rcases hu with rfl | ⟨e, he, _⟩
    · exact ⟨[], [], rfl, rfl, h⟩
    · cases he
  | e :: T, a, b, u, ⟨h1, h2⟩, hu => by
    by_cases z : u = a
    · subst z
      exact ⟨[], e :: T, rfl, rfl, h1, h2⟩
    · have hu2 : u = dst e ∨ ∃ e' ∈ T, src e' = u ∨ dst e' = u := by
        rcases hu with rfl | ⟨e', he', hh⟩
        · exact absurd rfl z
        · rcases List.mem_cons.mp he' with rfl | he'
          · rcases hh with hh | hh
            · exact absurd (hh.symm.trans h1) z
            · exact .inl hh.symm
          · exact .inr ⟨e', he', hh⟩
      obtain ⟨T1, T2, e1, t1, t2⟩ := h2.split hu2
      exact ⟨e :: T1, T2, by rw [e1]; rfl, ⟨h1, t1⟩, t2⟩
theorem euler_more {a b : Int} : ∀ (n : Nat) (T R E : List ε), R.length ≤ n → TrailE src dst a T b → (T ++ R).Perm E → (∀ x, deg src R x = deg dst R x) →
    (∀ S : Int → Prop, S a → (∀ e ∈ E, S (src e) ↔ S (dst e)) → ∀ e ∈ E, S (src e)) → ∃ T', TrailE src dst a T' b ∧ T'.Perm E := fun n => by
  induction n with
  | zero =>
    intro T R E hn ht hp hb hc
    have : R = [] := List.length_eq_zero_iff.mp (by omega)
    subst this
    rw [List.append_nil] at hp
    exact ⟨T, ht, hp⟩
  | succ n ih =>
    intro T R E hn ht hp hb hc
    cases R with
    | nil =>
      rw [List.append_nil] at hp
      exact ⟨T, ht, hp⟩
    | cons r0 R0 =>
      generalize hR : r0 :: R0 = R at *
      have hr0 : r0 ∈ R := by rw [← hR]; exact List.mem_cons_self
      have key : ∃ u, (u = a ∨ ∃ e ∈ T, src e = u ∨ dst e = u) ∧ ∃ e ∈ R, src e = u := by
        refine Classical.byContradiction fun hno => ?_
        have no : ∀ u, (u = a ∨ ∃ e ∈ T, src e = u ∨ dst e = u) → ∀ e ∈ R, src e ≠ u ∧ dst e ≠ u := fun u hu e he => by
          have h1 : ∀ e ∈ R, src e ≠ u := fun e he z => hno ⟨u, hu, e, he, z⟩
          refine ⟨h1 e he, fun z => ?_⟩
          have hd : 0 < deg dst R u := deg_pos.mpr ⟨e, he, z⟩
          rw [← hb u] at hd
          obtain ⟨e', he', z'⟩ := deg_pos.mp hd
          exact h1 e' he' z'
        have hcl := hc (fun u => u = a ∨ ∃ e ∈ T, src e = u ∨ dst e = u) (.inl rfl) fun e he => by
          rcases List.mem_append.mp (hp.mem_iff.mpr he) with h | h
          · exact ⟨fun _ => .inr ⟨e, h, .inr rfl⟩, fun _ => .inr ⟨e, h, .inl rfl⟩⟩
          · exact ⟨fun z => absurd rfl (no _ z e h).1, fun z => absurd rfl (no _ z e h).2⟩
        exact (no _ (hcl r0 (hp.mem_iff.mp (List.mem_append_right T hr0))) r0 hr0).1 rfl
      obtain ⟨u, hu, e, he, eu⟩ := key
      obtain ⟨T1, T2, eT, t1, t2⟩ := ht.split hu
      obtain ⟨U, R', hU, pU, bU, lU⟩ := greedy_to (src := src) (dst := dst) (E := R) (a := u) (b := u) fun x => by rw [hb x]; omega
      have hlen : R'.length ≤ n := by
        have l1 := pU.length_eq
        rw [List.length_append] at l1
        have : U ≠ [] := fun z => by
          subst z
          exact lU e (pU.mem_iff.mpr he) eu
        have : 0 < U.length := List.length_pos_iff.mpr this
        omega
      refine ih (T1 ++ (U ++ T2)) R' E hlen (t1.append (hU.append t2)) ?_ bU hc
      subst eT
      refine List.Perm.trans ?_ hp
      have e1 : T1 ++ (U ++ T2) ++ R' = T1 ++ (U ++ (T2 ++ R')) := by simp
      have e2 : T1 ++ T2 ++ R = T1 ++ (T2 ++ R) := by simp
      rw [e1, e2]
      refine List.Perm.append_left T1 ?_
      have p1 : (U ++ (T2 ++ R')).Perm (T2 ++ (U ++ R')) := by
        rw [← List.append_assoc, ← List.append_assoc]
        exact List.Perm.append_right R' List.perm_append_comm
      exact p1.trans (List.Perm.append_left T2 pU)
theorem euler {E : List ε} {a b : Int} (hb : ∀ x, deg src E x - deg dst E x = (if a = x then 1 else 0) - (if b = x then 1 else 0)) (hc : ∀ S : Int → Prop, S a → (∀ e ∈ E, S (src e) ↔ S (dst e)) → ∀ e ∈ E, S (src e)) :
    ∃ T, TrailE src dst a T b ∧ T.Perm E := by
  obtain ⟨T, R, h1, h2, h3, _⟩ := greedy_to hb
  exact euler_more R.length T R E (Nat.le_refl _) h1 h2 h3 hc
end
end K90


namespace K90
open PySem PySem.Spec PyProof.Rows L2 DL
/-! ### orders, and what can be laid -/
def Rows (P : Int) (cs : List Cut) : Int → Int → List (Int × Nat) → Prop
  | x, e, [] => x ≤ e
  | x, e, (b, i) :: r => ∃ c, cs[i]? = some c ∧ x ≤ b ∧ b % P = c.phase ∧ Rows P cs (b + c.long) e r
def Uses (cs : List Cut) (r : List (Int × Nat)) : Prop := ∀ i c, cs[i]? = some c → ((r.countP fun y => decide (y.2 = i) : Nat) : Int) = c.times
def Lay (P : Int) (cs : List Cut) (e : Int) : Prop := ∃ r, Rows P cs 0 e r ∧ Uses cs r
/-- steps with the rest q ahead of e -/
def st (P e q : Int) : Int := e / P + if q < e % P then 1 else 0
theorem wait_st {P : Int} {cs : List Cut} {e q : Int} : wait P cs e q = st P e q - cover P cs q := rfl
theorem st_next {P e q : Int} (p1 : 1 ≤ P) (q0 : 0 ≤ q) (q1 : q < P) : st P (e + 1) q = st P e q + if q = e % P then 1 else 0 := by
  have := free_next (P := P) (cov := fun _ => 0) (e := e) p1 q0 q1
  unfold free at this
  unfold st
  omega
theorem st_mono {P x y q : Int} (p1 : 1 ≤ P) (q0 : 0 ≤ q) (q1 : q < P) (h : x ≤ y) : st P x q ≤ st P y q := by
  have : ∀ n : Nat, st P x q ≤ st P (x + n) q := fun n => by
    induction n with
    | zero => simp
    | succ n ih =>
      have e : x + ((n + 1 : Nat) : Int) = x + n + 1 := by omega
      rw [e, st_next p1 q0 q1]
      split <;> omega
  have h2 := this (y - x).toNat
  have e : x + (((y - x).toNat : Nat) : Int) = y := by omega
  rwa [e] at h2
theorem st_gap {P x y z q : Int} (p1 : 1 ≤ P) (h1 : x ≤ z) (h2 : z < y) (e : z % P = q) : st P x q < st P y q := by
  obtain ⟨q0, q1⟩ := emod_in (a := z) (P := P) (by omega)
  rw [e] at q0 q1
  have a := st_mono p1 q0 q1 h1
  have b := st_mono (x := z + 1) p1 q0 q1 (show z + 1 ≤ y by omega)
  rw [st_next p1 q0 q1, if_pos e.symm] at b
  omega
theorem st_ofgap {P x q : Int} (p1 : 1 ≤ P) (q0 : 0 ≤ q) (q1 : q < P) : ∀ n : Nat, st P x q < st P (x + n) q → ∃ z, x ≤ z ∧ z < x + n ∧ z % P = q
  | 0, h => by simp at h
  | n + 1, h => by
    have e : x + ((n + 1 : Nat) : Int) = x + n + 1 := by omega
    rw [e, st_next p1 q0 q1] at h
    by_cases hz : q = (x + n) % P
    · exact ⟨x + n, by omega, by omega, hz.symm⟩
    · rw [if_neg hz, Int.add_zero] at h
      obtain ⟨z, a, b, c⟩ := st_ofgap p1 q0 q1 n h
      exact ⟨z, a, by omega, c⟩
theorem st_ofgap2 {P x y q : Int} (p1 : 1 ≤ P) (q0 : 0 ≤ q) (q1 : q < P) (hxy : x ≤ y) (h : st P x q < st P y q) : ∃ z, x ≤ z ∧ z < y ∧ z % P = q := by
  have e : x + (((y - x).toNat : Nat) : Int) = y := by omega
  obtain ⟨z, a, b, c⟩ := st_ofgap (x := x) p1 q0 q1 (y - x).toNat (by rw [e]; exact h)
  exact ⟨z, a, by omega, c⟩
theorem st_len {P b q : Int} {c : Cut} (p1 : 1 ≤ P) (q0 : 0 ≤ q) (q1 : q < P) (h : b % P = c.phase) : st P (b + c.long) q - st P b q = cnt P c q := by
  obtain ⟨x1, x2⟩ := emod_in (a := c.long) (P := P) (by omega)
  obtain ⟨y1, y2⟩ := emod_in (a := b) (P := P) (by omega)
  have hb := Int.emod_add_mul_ediv b P
  have hl := Int.emod_add_mul_ediv c.long P
  have eq : (q - c.phase) % P = if c.phase ≤ q then q - c.phase else q - c.phase + P := by
    split
    · exact Int.emod_eq_of_lt (by omega) (by omega)
    · have : (q - c.phase) % P = (q - c.phase + P) % P := by rw [Int.add_emod_right]
      rw [this, Int.emod_eq_of_lt (by omega) (by omega)]
  unfold cnt st
  rw [eq, ← h]
  by_cases hz : b % P + c.long % P < P
  · have e : b + c.long = (b / P + c.long / P) * P + (b % P + c.long % P) := by rw [Int.add_mul, Int.mul_comm, Int.mul_comm (c.long / P)]; omega
    obtain ⟨d1, d2⟩ := div_of (p := P) (a := b / P + c.long / P) (l := b % P + c.long % P) (by omega) hz
    rw [e, d1, d2]
    by_cases h1 : b % P ≤ q
    · rw [if_pos h1, if_neg (show ¬ q < b % P by omega)]
      split <;> split <;> omega
    · rw [if_neg h1, if_pos (show q < b % P by omega)]
      split <;> split <;> omega
  · have e : b + c.long = (b / P + c.long / P + 1) * P + (b % P + c.long % P - P) := by rw [Int.add_mul, Int.add_mul, Int.mul_comm, Int.mul_comm (c.long / P)]; omega
    obtain ⟨d1, d2⟩ := div_of (p := P) (a := b / P + c.long / P + 1) (l := b % P + c.long % P - P) (by omega) (by omega)
    rw [e, d1, d2]
    by_cases h1 : b % P ≤ q
    · rw [if_pos h1, if_neg (show ¬ q < b % P by omega)]
      split <;> split <;> omega
    · rw [if_neg h1, if_pos (show q < b % P by omega)]
      split <;> split <;> omega
/-- what rows take of a phase -/
def took (P : Int) (cs : List Cut) (q : Int) : List (Int × Nat) → Int
  | [] => 0
  | (_, i) :: r => (match cs[i]? with | some c => cnt P c q | none => 0) + took P cs q r
theorem rows_le {P : Int} {cs : List Cut} (ok : CW P cs) : ∀ {r : List (Int × Nat)} {x e : Int}, Rows P cs x e r → x ≤ e
  | [], _, _, h => h
  | (b, i) :: r, x, e, ⟨c, hc, h1, _, h3⟩ => by
    have := rows_le ok h3
    have := (ok.ok c (List.mem_of_getElem? hc)).1
    omega
/-- the free steps of rows: each gap's -/
theorem rows_free {P : Int} {cs : List Cut} (ok : CW P cs) {q : Int} (q0 : 0 ≤ q) (q1 : q < P) : ∀ {r : List (Int × Nat)} {x e : Int}, Rows P cs x e r → took P cs q r ≤ st P e q - st P x q
  | [], x, e, h => by
    have := st_mono ok.p1 q0 q1 h
    show (0 : Int) ≤ _
    omega
  | (b, i) :: r, x, e, ⟨c, hc, h1, h2, h3⟩ => by
    have i1 := rows_free ok q0 q1 h3
    have a := st_mono ok.p1 q0 q1 h1
    have l := st_len (c := c) ok.p1 q0 q1 h2
    unfold took
    rw [hc]
    show cnt P c q + _ ≤ _
    omega
theorem took_uses {P : Int} {cs : List Cut} {q : Int} : ∀ {r : List (Int × Nat)}, (∀ y ∈ r, y.2 < cs.length) → took P cs q r = ((cs.zipIdx).map fun p => ((r.countP fun y => decide (y.2 = p.2) : Nat) : Int) * cnt P p.1 q).sum
  | [], _ => by
    have : ∀ l : List (Cut × Nat), (l.map fun p => (([] : List (Int × Nat)).countP (fun y => decide (y.2 = p.2)) : Int) * cnt P p.1 q).sum = 0 := fun l => by
      induction l with
      | nil => rfl
      | cons p l ih => rw [List.map_cons, List.sum_cons, ih]; simp
    rw [this]
    rfl
  | (b, i) :: r, h => by
    have ih := took_uses (P := P) (cs := cs) (q := q) (r := r) fun y hy => h y (List.mem_cons_of_mem _ hy)
    have hi : i < cs.length := h (b, i) List.mem_cons_self
    unfold took
    rw [ih, List.getElem?_eq_getElem hi]
    show cnt P cs[i] q + _ = _
    have cp : ∀ n : Nat, ((b, i) :: r).countP (fun y => decide (y.2 = n)) = r.countP (fun y => decide (y.2 = n)) + if i = n then 1 else 0 := fun n => by
      rw [List.countP_cons]
      by_cases h : i = n <;> simp [h]
    have key : ∀ (l : List Cut) (k : Nat), (((l.zipIdx k).map fun p => ((((b, i) :: r).countP fun y => decide (y.2 = p.2) : Nat) : Int) * cnt P p.1 q).sum) = ((l.zipIdx k).map fun p => ((r.countP fun y => decide (y.2 = p.2) : Nat) : Int) * cnt P p.1 q).sum + (if k ≤ i then (match l[i - k]? with | some c => cnt P c q | none => 0) else 0) := fun l => by
      induction l with
      | nil => intro k; simp
      | cons c l ih =>
        intro k
        rw [List.zipIdx_cons, List.map_cons, List.sum_cons, List.map_cons, List.sum_cons, ih (k + 1)]
        show ((((b, i) :: r).countP fun y => decide (y.2 = k) : Nat) : Int) * cnt P c q + _ = ((r.countP fun y => decide (y.2 = k) : Nat) : Int) * cnt P c q + _ + _
        rw [cp k]
        by_cases hk : i = k
        · subst hk
          rw [if_pos rfl, if_neg (show ¬ i + 1 ≤ i by omega), if_pos (Nat.le_refl _), Nat.sub_self]
          show (((r.countP fun y => decide (y.2 = i)) + 1 : Nat) : Int) * cnt P c q + _ = _ + _ + cnt P c q
          rw [Int.natCast_add, Int.add_mul]
          omega
        · by_cases hle : k ≤ i
          · have e1 : i - k = (i - (k + 1)) + 1 := by omega
            rw [if_neg hk, if_pos (show k + 1 ≤ i by omega), if_pos hle, e1, List.getElem?_cons_succ, Nat.add_zero]
            omega
          · rw [if_neg hk, if_neg (show ¬ k + 1 ≤ i by omega), if_neg hle, Nat.add_zero]
            omega
    have := key cs 0
    rw [if_pos (Nat.zero_le _), Nat.sub_zero, List.getElem?_eq_getElem hi] at this
    rw [this]
    show cnt P cs[i] q + _ = _ + cnt P cs[i] q
    omega
theorem cover_zip (P : Int) (cs : List Cut) (q : Int) : cover P cs q = (cs.zipIdx.map fun p => p.1.times * cnt P p.1 q).sum := by
  unfold cover
  have : ∀ k, (cs.zipIdx k).map (fun p => p.1.times * cnt P p.1 q) = cs.map fun c => c.times * cnt P c q := fun k => by
    induction cs generalizing k with
    | nil => rfl
    | cons c cs ih => rw [List.zipIdx_cons, List.map_cons, List.map_cons, ih]
  rw [this]
theorem rows_ix {P : Int} {cs : List Cut} : ∀ {r : List (Int × Nat)} {x e : Int}, Rows P cs x e r → ∀ y ∈ r, y.2 < cs.length
  | [], _, _, _ => fun y hy => by cases hy
  | (b, i) :: r, _, _, ⟨c, hc, _, _, h⟩ => fun y hy => by
    rcases List.mem_cons.mp hy with rfl | hy
    · exact (List.getElem?_eq_some_iff.mp hc).1
    · exact rows_ix h y hy
theorem took_cover {P : Int} {cs : List Cut} {q x e : Int} {r : List (Int × Nat)} (h : Rows P cs x e r) (u : Uses cs r) : took P cs q r = cover P cs q := by
  rw [took_uses (rows_ix h), cover_zip]
  congr 1
  apply List.map_congr_left
  intro p hp
  obtain ⟨c, i⟩ := p
  rw [List.mem_zipIdx_iff_getElem?] at hp
  rw [u i c hp]
/-- along the lane all hangs together -/
theorem rows_hang {P : Int} {cs : List Cut} (ok : CW P cs) {F S : Int → Prop} (hS : ∀ x y, Ed P cs F x y → (S x ↔ S y)) : ∀ {r : List (Int × Nat)} {x e : Int}, Rows P cs x e r →
    (∀ q, 0 ≤ q → q < P → took P cs q r < st P e q - st P x q → F q) → S (x % P) → (∀ y ∈ r, ∀ c, cs[y.2]? = some c → S c.phase) ∧ (∀ q, 0 ≤ q → q < P → took P cs q r < st P e q - st P x q → S q) := fun {r} => by
  have p1 := ok.p1
  have walk : ∀ (x : Int) (n : Nat), (∀ z, x ≤ z → z < x + n → F (z % P)) → S (x % P) → ∀ z, x ≤ z → z ≤ x + n → S (z % P) := fun x n => by
    induction n with
    | zero =>
      intro _ h z h1 h2
      have : z = x := by simp at h2; omega
      rw [this]; exact h
    | succ n ih =>
      intro hF h z h1 h2
      have i := ih (fun z a b => hF z a (by omega)) h
      by_cases hz : z ≤ x + n
      · exact i z h1 hz
      · have ez : z = (x + n) + 1 := by omega
        have hs := i (x + n) (by omega) (by omega)
        have r : Ed P cs F ((x + n) % P) (z % P) := .inr ⟨hF (x + n) (by omega) (by omega), by rw [ez, Int.emod_add_emod]⟩
        exact (hS _ _ r).mp hs
  induction r with
  | nil =>
    intro x e h hF hx
    have h : x ≤ e := h
    refine ⟨fun y hy => (by cases hy), fun q q0 q1 hq => ?_⟩
    have hq : (0 : Int) < st P e q - st P x q := hq
    obtain ⟨z, z1, z2, z3⟩ := st_ofgap2 (x := x) (y := e) p1 q0 q1 h (by omega)
    have := walk x (e - x).toNat (fun z a b => by
      obtain ⟨w1, w2⟩ := emod_in (a := z) (P := P) (by omega)
      refine hF _ w1 w2 ?_
      have := st_gap (x := x) (y := e) p1 a (by omega) (rfl : z % P = z % P)
      show (0 : Int) < _
      omega) hx z z1 (by omega)
    rw [z3] at this
    exact this
  | cons y r ih =>
    obtain ⟨b, i⟩ := y
    rintro x e ⟨c, hc, h1, h2, h3⟩ hF hx
    have hcm := List.mem_of_getElem? hc
    have tk : ∀ q, took P cs q ((b, i) :: r) = cnt P c q + took P cs q r := fun q => by
      show (match cs[i]? with | some c => cnt P c q | none => 0) + took P cs q r = _
      rw [hc]
    have gap : ∀ z, x ≤ z → z < x + (b - x).toNat → F (z % P) := fun z a d => by
      obtain ⟨w1, w2⟩ := emod_in (a := z) (P := P) (by omega)
      refine hF _ w1 w2 ?_
      have g := st_gap (x := x) (y := b) p1 a (by omega) (rfl : z % P = z % P)
      have l := st_len (c := c) p1 w1 w2 h2
      have f := rows_free ok w1 w2 h3
      rw [tk]
      omega
    have w := walk x (b - x).toNat gap hx
    have hb : S c.phase := by
      have := w b h1 (by omega)
      rwa [h2] at this
    have hb2 : S ((b + c.long) % P) := by
      have : Ed P cs F c.phase ((b + c.long) % P) := .inl ⟨c, hcm, rfl, by rw [← h2, Int.add_emod_emod, Int.add_comm]⟩
      exact (hS _ _ this).mp hb
    have i2 := ih h3 (fun q q0 q1 hq => hF q q0 q1 (by
      have l := st_len (c := c) p1 q0 q1 h2
      have m := st_mono p1 q0 q1 h1
      rw [tk]; omega)) hb2
    refine ⟨fun y hy c' hc' => ?_, fun q q0 q1 hq => ?_⟩
    · rcases List.mem_cons.mp hy with rfl | hy
      · rw [hc] at hc'; cases hc'; exact hb
      · exact i2.1 y hy c' hc'
    · rw [tk] at hq
      have l := st_len (c := c) p1 q0 q1 h2
      by_cases hg : st P x q < st P b q
      · obtain ⟨z, z1, z2, z3⟩ := st_ofgap2 (x := x) (y := b) p1 q0 q1 h1 hg
        have := w z z1 (by omega)
        rw [z3] at this
        exact this
      · exact i2.2 q q0 q1 (by omega)
theorem Lay.let {P : Int} {cs : List Cut} {e : Int} (ok : CW P cs) (h : Lay P cs e) : Let P cs e := by
  obtain ⟨r, hr, hu⟩ := h
  have p1 := ok.p1
  have s0 : ∀ q, 0 ≤ q → st P 0 q = 0 := fun q q0 => by
    unfold st
    rw [Int.zero_ediv, Int.zero_emod, if_neg (by omega)]
    rfl
  have hw : ∀ q, 0 ≤ q → wait P cs e q = st P e q - st P 0 q - took P cs q r := fun q q0 => by
    rw [wait_st, s0 q q0, took_cover hr hu]; omega
  refine let_iff.mpr ⟨fun q q0 q1 => ?_, fun x y re S h0 hS => ?_⟩
  · rw [hw q q0]
    have := rows_free ok q0 q1 hr
    omega
  · have := rows_hang ok hS hr (fun q q0 q1 hq => ⟨q0, q1, by rw [hw q q0]; omega⟩) (by rw [Int.zero_emod]; exact h0)
    rcases re with ⟨c, hc, rfl, _⟩ | ⟨⟨x0, x1, x2⟩, _⟩
    · obtain ⟨i, hi⟩ := List.getElem?_of_mem hc
      have hcount := hu i c hi
      have ht := (ok.ok c hc).2.2.2
      have hpos : 0 < r.countP fun y => decide (y.2 = i) := by omega
      obtain ⟨y, hy, hyi⟩ := List.countP_pos_iff.mp hpos
      have hyi : y.2 = i := of_decide_eq_true hyi
      exact this.1 y hy c (by rw [hyi]; exact hi)
    · refine this.2 x x0 x1 ?_
      rw [hw x x0] at x2
      omega
/-! back: by a walk along all edges -/
inductive Eg where
  | cut (i : Nat) (c : Cut)
  | wt (q : Int)
def Eg.src : Eg → Int
  | .cut _ c => c.phase
  | .wt q => q
def Eg.dst (P : Int) : Eg → Int
  | .cut _ c => (c.long + c.phase) % P
  | .wt q => (q + 1) % P
def Eg.len : Eg → Int
  | .cut _ c => c.long
  | .wt _ => 1
def allEg (P : Int) (cs : List Cut) (e : Int) : List Eg := (cs.zipIdx.flatMap fun p => List.replicate p.1.times.toNat (.cut p.2 p.1)) ++ ((rng P id).flatMap fun q => List.replicate (wait P cs e q).toNat (.wt q))
theorem deg_rep {ε : Type} (f : ε → Int) (n : Nat) (e : ε) (x : Int) : deg f (List.replicate n e) x = n * if f e = x then 1 else 0 := by
  unfold deg
  rw [List.countP_replicate]
  by_cases h : f e = x <;> simp [h]
theorem deg_flat {ε α : Type} (f : ε → Int) (g : α → List ε) (x : Int) : ∀ l : List α, deg f (l.flatMap g) x = (l.map fun y => deg f (g y) x).sum
  | [] => rfl
  | y :: l => by rw [List.flatMap_cons, deg_append, deg_flat f g x l, List.map_cons, List.sum_cons]
theorem sum_ring {P : Int} {f : Int → Int} {x : Int} (h0 : 0 ≤ x) (h1 : x < P) : ((rng P id).map fun q => f q * if q = x then 1 else 0).sum = f x := by
  have key : ∀ n : Nat, (((List.range n).map fun (m : Nat) => f (m : Int) * if (m : Int) = x then 1 else 0)).sum = if x < n then f x else 0 := fun n => by
    induction n with
    | zero => rw [if_neg (by omega)]; rfl
    | succ n ih =>
      rw [List.range_succ, List.map_append, List.sum_append, ih]
      simp only [List.map_cons, List.map_nil, List.sum_cons, List.sum_nil, Int.add_zero]
      by_cases hx : (n : Int) = x
      · rw [if_neg (by omega), if_pos hx, if_pos (by omega), hx]; omega
      · rw [if_neg hx, Int.mul_zero, Int.add_zero]
        by_cases hy : x < n
        · rw [if_pos hy, if_pos (by omega)]
        · rw [if_neg hy, if_neg (by omega)]
  have := key P.toNat
  rw [if_pos (by omega)] at this
  rw [← this]
  unfold rng
  rw [List.map_map]
  rfl
theorem sum_ring0 {P : Int} {f : Int → Int} {g : Int → Int} {x : Int} (h : ∀ q, 0 ≤ q → q < P → g q ≠ x) : ((rng P id).map fun q => f q * if g q = x then 1 else 0).sum = 0 := by
  have : ∀ l : List Int, (∀ q ∈ l, g q ≠ x) → (l.map fun q => f q * if g q = x then 1 else 0).sum = 0 := fun l => by
    induction l with
    | nil => exact fun _ => rfl
    | cons q l ih =>
      intro h
      rw [List.map_cons, List.sum_cons, ih fun y hy => h y (List.mem_cons_of_mem q hy), if_neg (h q List.mem_cons_self)]
      simp
  exact this _ fun q hq => by
    obtain ⟨y, y0, y1, ey⟩ := rng_mem.mp hq
    have ey : q = y := ey
    subst ey
    exact h q y0 y1
/-- a cut's share of a phase, and of the one ahead -/
theorem cnt_step {P : Int} {c : Cut} {x : Int} (p1 : 1 ≤ P) (h0 : 0 ≤ c.phase) (h1 : c.phase < P) (x0 : 0 ≤ x) (x1 : x < P) :
    cnt P c x - cnt P c ((x - 1) % P) = (if c.phase = x then 1 else 0) - if (c.long + c.phase) % P = x then 1 else 0 := by
  obtain ⟨r1, r2⟩ := emod_in (a := c.long) (P := P) (by omega)
  have ex : (x - c.phase) % P = if c.phase ≤ x then x - c.phase else x - c.phase + P := by
    split
    · exact Int.emod_eq_of_lt (by omega) (by omega)
    · have : (x - c.phase) % P = (x - c.phase + P) % P := by rw [Int.add_emod_right]
      rw [this, Int.emod_eq_of_lt (by omega) (by omega)]
  have ey : ((x - 1) % P - c.phase) % P = if c.phase ≤ x - 1 then x - 1 - c.phase else x - 1 - c.phase + P := by
    rw [Int.emod_sub_emod]
    split
    · exact Int.emod_eq_of_lt (by omega) (by omega)
    · have : (x - 1 - c.phase) % P = (x - 1 - c.phase + P) % P := by rw [Int.add_emod_right]
      rw [this, Int.emod_eq_of_lt (by omega) (by omega)]
  have ez : (c.long + c.phase) % P = if c.long % P + c.phase < P then c.long % P + c.phase else c.long % P + c.phase - P := by
    rw [← Int.emod_add_emod]
    split
    · exact Int.emod_eq_of_lt (by omega) (by omega)
    · have : (c.long % P + c.phase) % P = (c.long % P + c.phase - P) % P := by rw [Int.sub_emod_right]
      rw [this, Int.emod_eq_of_lt (by omega) (by omega)]
  unfold cnt
  rw [ex, ey, ez]
  by_cases a1 : c.phase ≤ x
  · rw [if_pos a1]
    by_cases a2 : c.phase ≤ x - 1
    · rw [if_pos a2, if_neg (show ¬ c.phase = x by omega)]
      split <;> split <;> split <;> split <;> omega
    · rw [if_neg a2, if_pos (show c.phase = x by omega)]
      split <;> split <;> split <;> split <;> omega
  · rw [if_neg a1, if_neg (show ¬ c.phase ≤ x - 1 by omega), if_neg (show ¬ c.phase = x by omega)]
    split <;> split <;> split <;> split <;> omega
theorem cover_step {P : Int} {x : Int} (x0 : 0 ≤ x) (x1 : x < P) : ∀ {cs : List Cut}, CW P cs → cover P cs x - cover P cs ((x - 1) % P) = (cs.map fun c => c.times * if c.phase = x then 1 else 0).sum - (cs.map fun c => c.times * if (c.long + c.phase) % P = x then 1 else 0).sum
  | [], _ => rfl
  | c :: cs, ok => by
    have i := cover_step x0 x1 (cs := cs) ⟨ok.p1, fun y hy => ok.ok y (List.mem_cons_of_mem c hy)⟩
    obtain ⟨_, g2, g3, _⟩ := ok.ok c List.mem_cons_self
    have s := cnt_step (c := c) ok.p1 g2 g3 x0 x1
    unfold cover at i ⊢
    simp only [List.map_cons, List.sum_cons]
    have s2 : c.times * cnt P c x - c.times * cnt P c ((x - 1) % P) = c.times * (if c.phase = x then 1 else 0) - c.times * if (c.long + c.phase) % P = x then 1 else 0 := by
      rw [← Int.mul_sub, s, Int.mul_sub]
    omega
theorem st_step {P e x : Int} (p1 : 1 ≤ P) (x0 : 0 ≤ x) (x1 : x < P) : st P e x - st P e ((x - 1) % P) = (if 0 = x then 1 else 0) - if e % P = x then 1 else 0 := by
  obtain ⟨z1, z2⟩ := emod_in (a := e) (P := P) (by omega)
  have ex : (x - 1) % P = if 1 ≤ x then x - 1 else P - 1 := by
    split
    · exact Int.emod_eq_of_lt (by omega) (by omega)
    · have : x = 0 := by omega
      subst this
      have : ((0 : Int) - 1) % P = (0 - 1 + P) % P := by rw [Int.add_emod_right]
      rw [this, Int.emod_eq_of_lt (by omega) (by omega)]
      omega
  unfold st
  rw [ex]
  by_cases h : 1 ≤ x
  · rw [if_pos h, if_neg (show ¬ (0 : Int) = x by omega)]
    split <;> split <;> split <;> omega
  · rw [if_neg h, if_pos (show (0 : Int) = x by omega)]
    split <;> split <;> split <;> omega
theorem zip_sum {f : Cut → Int} (cs : List Cut) : (cs.zipIdx.map fun p => f p.1).sum = (cs.map f).sum := by
  have : ∀ k, (cs.zipIdx k).map (fun p => f p.1) = cs.map f := fun k => by
    induction cs generalizing k with
    | nil => rfl
    | cons c cs ih => rw [List.zipIdx_cons, List.map_cons, List.map_cons, ih]
  rw [this]
theorem bal_all {P : Int} {cs : List Cut} {e : Int} (ok : CW P cs) (hn : ∀ q, 0 ≤ q → q < P → 0 ≤ wait P cs e q) (x : Int) :
    deg Eg.src (allEg P cs e) x - deg (Eg.dst P) (allEg P cs e) x = (if 0 = x then 1 else 0) - if e % P = x then 1 else 0 := by
  have p1 := ok.p1
  obtain ⟨z1, z2⟩ := emod_in (a := e) (P := P) (by omega)
  have d1 : deg Eg.src (cs.zipIdx.flatMap fun p => List.replicate p.1.times.toNat (Eg.cut p.2 p.1)) x = (cs.map fun c => c.times * if c.phase = x then 1 else 0).sum := by
    rw [deg_flat, ← zip_sum]
    congr 1
    apply List.map_congr_left
    intro p hp
    obtain ⟨c, i⟩ := p
    rw [List.mem_zipIdx_iff_getElem?] at hp
    have := (ok.ok c (List.mem_of_getElem? hp)).2.2.2
    rw [deg_rep]
    show ((c.times.toNat : Nat) : Int) * _ = _
    rw [Int.toNat_of_nonneg (by omega)]
    rfl
  have d2 : deg (Eg.dst P) (cs.zipIdx.flatMap fun p => List.replicate p.1.times.toNat (Eg.cut p.2 p.1)) x = (cs.map fun c => c.times * if (c.long + c.phase) % P = x then 1 else 0).sum := by
    rw [deg_flat, ← zip_sum]
    congr 1
    apply List.map_congr_left
    intro p hp
    obtain ⟨c, i⟩ := p
    rw [List.mem_zipIdx_iff_getElem?] at hp
    have := (ok.ok c (List.mem_of_getElem? hp)).2.2.2
    rw [deg_rep]
    show ((c.times.toNat : Nat) : Int) * _ = _
    rw [Int.toNat_of_nonneg (by omega)]
    rfl
  have wn : ∀ q ∈ rng P id, ((wait P cs e q).toNat : Int) = wait P cs e q := fun q hq => by
    obtain ⟨y, y0, y1, ey⟩ := rng_mem.mp hq
    have ey : q = y := ey
    subst ey
    exact Int.toNat_of_nonneg (hn q y0 y1)
  have d3 : deg Eg.src ((rng P id).flatMap fun q => List.replicate (wait P cs e q).toNat (Eg.wt q)) x = ((rng P id).map fun q => wait P cs e q * if q = x then 1 else 0).sum := by
    rw [deg_flat]
    congr 1
    apply List.map_congr_left
    intro q hq
    rw [deg_rep, wn q hq]
    rfl
  have d4 : deg (Eg.dst P) ((rng P id).flatMap fun q => List.replicate (wait P cs e q).toNat (Eg.wt q)) x = ((rng P id).map fun q => wait P cs e q * if (q + 1) % P = x then 1 else 0).sum := by
    rw [deg_flat]
    congr 1
    apply List.map_congr_left
    intro q hq
    rw [deg_rep, wn q hq]
    rfl
  unfold allEg
  rw [deg_append, deg_append, d1, d2, d3, d4]
  by_cases hx : 0 ≤ x ∧ x < P
  · obtain ⟨x0, x1⟩ := hx
    obtain ⟨y0, y1⟩ := emod_in (a := x - 1) (P := P) (by omega)
    have e4 : ((rng P id).map fun q => wait P cs e q * if (q + 1) % P = x then 1 else 0) = (rng P id).map fun q => wait P cs e q * if q = (x - 1) % P then 1 else 0 := by
      apply List.map_congr_left
      intro q hq
      obtain ⟨y, w0, w1, ey⟩ := rng_mem.mp hq
      have ey : q = y := ey
      subst ey
      have : ((q + 1) % P = x) ↔ (q = (x - 1) % P) := by
        constructor
        · intro h
          rw [← h, Int.emod_sub_emod]
          have : q + 1 - 1 = q := by omega
          rw [this, Int.emod_eq_of_lt w0 w1]
        · intro h
          rw [h, Int.emod_add_emod]
          have : x - 1 + 1 = x := by omega
          rw [this, Int.emod_eq_of_lt x0 x1]
      by_cases h : (q + 1) % P = x
      · rw [if_pos h, if_pos (this.mp h)]
      · rw [if_neg h, if_neg fun z => h (this.mpr z)]
    rw [e4, sum_ring x0 x1, sum_ring y0 y1]
    have c1 := cover_step x0 x1 ok
    have c2 := st_step (e := e) p1 x0 x1
    rw [wait_st, wait_st]
    omega
  · have o1 : (cs.map fun c => c.times * if c.phase = x then 1 else 0).sum = 0 := by
      have : ∀ l : List Cut, (∀ c ∈ l, c.phase ≠ x) → (l.map fun c => c.times * if c.phase = x then 1 else 0).sum = 0 := fun l => by
        induction l with
        | nil => exact fun _ => rfl
        | cons c l ih =>
          intro h
          rw [List.map_cons, List.sum_cons, ih fun y hy => h y (List.mem_cons_of_mem c hy), if_neg (h c List.mem_cons_self)]
          simp
      exact this cs fun c hc z => by obtain ⟨_, a, b, _⟩ := ok.ok c hc; omega
    have o2 : (cs.map fun c => c.times * if (c.long + c.phase) % P = x then 1 else 0).sum = 0 := by
      have : ∀ l : List Cut, (l.map fun c => c.times * if (c.long + c.phase) % P = x then 1 else 0).sum = 0 := fun l => by
        induction l with
        | nil => rfl
        | cons c l ih =>
          obtain ⟨w1, w2⟩ := emod_in (a := c.long + c.phase) (P := P) (by omega)
          rw [List.map_cons, List.sum_cons, ih, if_neg (by omega)]
          simp
      exact this cs
    have o3 : ((rng P id).map fun q => wait P cs e q * if q = x then 1 else 0).sum = 0 := sum_ring0 (g := fun q => q) fun q q0 q1 z => hx ⟨by omega, by omega⟩
    have o4 : ((rng P id).map fun q => wait P cs e q * if (q + 1) % P = x then 1 else 0).sum = 0 := sum_ring0 (g := fun q => (q + 1) % P) fun q q0 q1 z => by
      obtain ⟨w1, w2⟩ := emod_in (a := q + 1) (P := P) (by omega)
      exact hx ⟨by omega, by omega⟩
    rw [o1, o2, o3, o4, if_neg (by omega), if_neg (by omega)]
    rfl
/-- the rows of a walk -/
def walkRows : Int → List Eg → List (Int × Nat)
  | _, [] => []
  | x, .cut i c :: T => (x, i) :: walkRows (x + c.long) T
  | x, .wt _ :: T => walkRows (x + 1) T
def walkLen (T : List Eg) : Int := (T.map Eg.len).sum
theorem walk_rows {P : Int} {cs : List Cut} (p1 : 1 ≤ P) : ∀ {T : List Eg} {x b : Int}, TrailE Eg.src (Eg.dst P) (x % P) T b → (∀ i c, Eg.cut i c ∈ T → cs[i]? = some c) → Rows P cs x (x + walkLen T) (walkRows x T)
  | [], x, b, _, _ => by
    show x ≤ x + 0
    omega
  | .cut i c :: T, x, b, ⟨h1, h2⟩, hT => by
    have hc := hT i c List.mem_cons_self
    have h1 : c.phase = x % P := h1
    have e1 : Eg.dst P (.cut i c) = (x + c.long) % P := by
      show (c.long + c.phase) % P = _
      rw [h1, Int.add_emod_emod, Int.add_comm]
    rw [e1] at h2
    have i2 := walk_rows p1 (cs := cs) h2 fun i c h => hT i c (List.mem_cons_of_mem _ h)
    refine ⟨c, hc, Int.le_refl x, h1.symm, ?_⟩
    have e2 : x + walkLen (.cut i c :: T) = x + c.long + walkLen T := by
      unfold walkLen
      rw [List.map_cons, List.sum_cons]
      show x + (c.long + _) = _
      omega
    rw [e2]
    exact i2
  | .wt q :: T, x, b, ⟨h1, h2⟩, hT => by
    have h1 : q = x % P := h1
    have e1 : Eg.dst P (.wt q) = (x + 1) % P := by
      show (q + 1) % P = _
      rw [h1, Int.emod_add_emod]
    rw [e1] at h2
    have i2 := walk_rows p1 (cs := cs) h2 fun i c h => hT i c (List.mem_cons_of_mem _ h)
    have e2 : x + walkLen (.wt q :: T) = x + 1 + walkLen T := by
      unfold walkLen
      rw [List.map_cons, List.sum_cons]
      show x + (1 + _) = _
      omega
    rw [e2]
    show Rows P cs x _ (walkRows (x + 1) T)
    have low : ∀ {r : List (Int × Nat)} {x y e : Int}, x ≤ y → Rows P cs y e r → Rows P cs x e r := fun {r x y e} hxy h => by
      cases r with
      | nil => exact Int.le_trans hxy h
      | cons z r =>
        obtain ⟨b, i⟩ := z
        obtain ⟨c, a1, a2, a3⟩ := h
        exact ⟨c, a1, Int.le_trans hxy a2, a3⟩
    exact low (by omega) i2
theorem Rows.low {P : Int} {cs : List Cut} {r : List (Int × Nat)} {x y e : Int} (hxy : x ≤ y) (h : Rows P cs y e r) : Rows P cs x e r := by
  cases r with
  | nil => exact Int.le_trans hxy h
  | cons z r =>
    obtain ⟨b, i⟩ := z
    obtain ⟨c, a1, a2, a3⟩ := h
    exact ⟨c, a1, Int.le_trans hxy a2, a3⟩
theorem walk_count (i : Nat) : ∀ (T : List Eg) (x : Int), (walkRows x T).countP (fun y => decide (y.2 = i)) = T.countP fun g => match g with | .cut j _ => decide (j = i) | .wt _ => false
  | [], _ => rfl
  | .cut j c :: T, x => by
    show ((x, j) :: walkRows (x + c.long) T).countP _ = _
    rw [List.countP_cons, List.countP_cons, walk_count i T]
  | .wt q :: T, x => by
    show (walkRows (x + 1) T).countP _ = _
    rw [List.countP_cons, walk_count i T]
    simp
theorem sum_cntW {P : Int} {c : Cut} (p1 : 1 ≤ P) (h0 : 0 ≤ c.phase) (h1 : c.phase < P) : sN P.toNat (cnt P c) = c.long := by
  obtain ⟨z1, z2⟩ := emod_in (a := c.long) (P := P) (by omega)
  have e : sN P.toNat (cnt P c) = sN P.toNat (fun _ => c.long / P) + sN P.toNat (fun q => if (q - c.phase) % P < c.long % P then 1 else 0) := by
    rw [← sN_add]; rfl
  rw [e, sN_const, sN_ring h0 h1 z1 (by omega) P.toNat (by omega), Int.toNat_of_nonneg (by omega)]
  have := Int.emod_add_mul_ediv c.long P
  omega
theorem sum_coverW {P : Int} : ∀ {cs : List Cut}, CW P cs → sN P.toNat (cover P cs) = (cs.map fun c => c.times * c.long).sum
  | [], ok => by
    have : sN P.toNat (cover P []) = sN P.toNat (fun _ => 0) := sN_congr fun _ _ => rfl
    rw [this, sN_const]
    show _ * 0 = (0 : Int)
    rw [Int.mul_zero]
  | c :: cs, ok => by
    have i := sum_coverW (cs := cs) ⟨ok.p1, fun y hy => ok.ok y (List.mem_cons_of_mem c hy)⟩
    obtain ⟨_, g2, g3, _⟩ := ok.ok c List.mem_cons_self
    have e : sN P.toNat (cover P (c :: cs)) = sN P.toNat (fun q => c.times * cnt P c q + cover P cs q) := sN_congr fun q _ => by
      unfold cover
      rw [List.map_cons, List.sum_cons]
    rw [e, sN_add, sN_mul, sum_cntW ok.p1 g2 g3, i, List.map_cons, List.sum_cons]
theorem sum_st {P e : Int} (p1 : 1 ≤ P) : sN P.toNat (st P e) = e := by
  obtain ⟨z1, z2⟩ := emod_in (a := e) (P := P) (by omega)
  have h : sN P.toNat (st P e) = sN P.toNat (fun _ => e / P) + sN P.toNat (fun q => if q < e % P then 1 else 0) := by rw [← sN_add]; rfl
  rw [h, sN_const, sN_lt _ _ z1, Int.toNat_of_nonneg (by omega)]
  have := Int.emod_add_mul_ediv e P
  omega
theorem sum_wait {P : Int} {cs : List Cut} {e : Int} (ok : CW P cs) : sN P.toNat (wait P cs e) + (cs.map fun c => c.times * c.long).sum = e := by
  rw [← sum_coverW ok, ← sN_add]
  have : sN P.toNat (fun q => wait P cs e q + cover P cs q) = sN P.toNat (st P e) := sN_congr fun q _ => by rw [wait_st]; omega
  rw [this, sum_st ok.p1]
theorem len_all {P : Int} {cs : List Cut} {e : Int} (ok : CW P cs) (e0 : 0 ≤ e) (hn : ∀ q, 0 ≤ q → q < P → 0 ≤ wait P cs e q) : walkLen (allEg P cs e) = e := by
  have p1 := ok.p1
  have c1 : ∀ l : List (Cut × Nat), (∀ p ∈ l, 1 ≤ p.1.times) → ((l.flatMap fun p => List.replicate p.1.times.toNat (Eg.cut p.2 p.1)).map Eg.len).sum = (l.map fun p => p.1.times * p.1.long).sum := fun l => by
    induction l with
    | nil => exact fun _ => rfl
    | cons p l ih =>
      intro h
      rw [List.flatMap_cons, List.map_append, List.sum_append, ih fun y hy => h y (List.mem_cons_of_mem p hy), List.map_cons, List.sum_cons, List.map_replicate]
      have hp1 := h p List.mem_cons_self
      have rep : ∀ (n : Nat) (x : Int), (List.replicate n x).sum = n * x := fun n x => by
        induction n with
        | zero => simp
        | succ n ih => rw [List.replicate_succ, List.sum_cons, ih, Int.natCast_add, Int.add_mul]; omega
      rw [rep]
      show ((p.1.times.toNat : Nat) : Int) * p.1.long + _ = _
      rw [Int.toNat_of_nonneg (by omega)]
  have c2 : (((rng P id).flatMap fun q => List.replicate (wait P cs e q).toNat (Eg.wt q)).map Eg.len).sum = sN P.toNat (wait P cs e) := by
    have : ∀ l : List Int, (∀ q ∈ l, 0 ≤ wait P cs e q) → ((l.flatMap fun q => List.replicate (wait P cs e q).toNat (Eg.wt q)).map Eg.len).sum = (l.map fun q => wait P cs e q).sum := fun l => by
      induction l with
      | nil => exact fun _ => rfl
      | cons q l ih =>
        intro h
        rw [List.flatMap_cons, List.map_append, List.sum_append, ih fun y hy => h y (List.mem_cons_of_mem q hy), List.map_cons, List.sum_cons, List.map_replicate]
        have hq := h q List.mem_cons_self
        have rep : ∀ n : Nat, (List.replicate n (1 : Int)).sum = n := fun n => by
          induction n with
          | zero => rfl
          | succ n ih => rw [List.replicate_succ, List.sum_cons, ih]; omega
        show (List.replicate (wait P cs e q).toNat (1 : Int)).sum + _ = _
        rw [rep]
        omega
    rw [this _ fun q hq => by
      obtain ⟨y, y0, y1, ey⟩ := rng_mem.mp hq
      have ey : q = y := ey
      subst ey
      exact hn q y0 y1]
    unfold rng sN
    rw [List.map_map]
    rfl
  unfold walkLen allEg
  rw [List.map_append, List.sum_append, c1 _ fun p hp => by
    obtain ⟨c, i⟩ := p
    rw [List.mem_zipIdx_iff_getElem?] at hp
    exact (ok.ok c (List.mem_of_getElem? hp)).2.2.2, c2, zip_sum (f := fun c => c.times * c.long)]
  have := sum_wait (e := e) ok
  omega
theorem Let.lay {P : Int} {cs : List Cut} {e : Int} (ok : CW P cs) (e0 : 0 ≤ e) (h : Let P cs e) : Lay P cs e := by
  have p1 := ok.p1
  obtain ⟨hn, hh⟩ := let_iff.mp h
  have mem1 : ∀ i c, Eg.cut i c ∈ allEg P cs e → cs[i]? = some c := fun i c hm => by
    unfold allEg at hm
    rcases List.mem_append.mp hm with z | z
    · obtain ⟨p, hp, z⟩ := List.mem_flatMap.mp z
      obtain ⟨c', i'⟩ := p
      have z := (List.mem_replicate.mp z).2
      cases z
      rw [List.mem_zipIdx_iff_getElem?] at hp
      exact hp
    · obtain ⟨q, hq, z⟩ := List.mem_flatMap.mp z
      have z := (List.mem_replicate.mp z).2
      cases z
  have mem2 : ∀ q, Eg.wt q ∈ allEg P cs e → Fr P cs e q := fun q hm => by
    unfold allEg at hm
    rcases List.mem_append.mp hm with z | z
    · obtain ⟨p, hp, z⟩ := List.mem_flatMap.mp z
      have z := (List.mem_replicate.mp z).2
      cases z
    · obtain ⟨q', hq, z⟩ := List.mem_flatMap.mp z
      obtain ⟨z1, z2⟩ := List.mem_replicate.mp z
      cases z2
      obtain ⟨y, y0, y1, ey⟩ := rng_mem.mp hq
      have ey : q = y := ey
      subst ey
      exact ⟨y0, y1, by omega⟩
  have ed : ∀ g ∈ allEg P cs e, Ed P cs (Fr P cs e) g.src (g.dst P) := fun g hg => by
    cases g with
    | cut i c => exact .inl ⟨c, List.mem_of_getElem? (mem1 i c hg), rfl, rfl⟩
    | wt q => exact .inr ⟨mem2 q hg, rfl⟩
  have back : ∀ x y, Ed P cs (Fr P cs e) x y → ∃ g ∈ allEg P cs e, g.src = x ∧ g.dst P = y := fun x y r => by
    unfold allEg
    rcases r with ⟨c, hc, rfl, rfl⟩ | ⟨⟨x0, x1, x2⟩, rfl⟩
    · obtain ⟨i, hi⟩ := List.getElem?_of_mem hc
      refine ⟨.cut i c, List.mem_append_left _ (List.mem_flatMap.mpr ⟨(c, i), List.mem_zipIdx_iff_getElem?.mpr hi, List.mem_replicate.mpr ⟨?_, rfl⟩⟩), rfl, rfl⟩
      have := (ok.ok c hc).2.2.2
      show c.times.toNat ≠ 0
      omega
    · exact ⟨.wt x, List.mem_append_right _ (List.mem_flatMap.mpr ⟨x, rng_mem.mpr ⟨x, x0, x1, rfl⟩, List.mem_replicate.mpr ⟨by omega, rfl⟩⟩), rfl, rfl⟩
  obtain ⟨T, hT, hp⟩ := euler (src := Eg.src) (dst := Eg.dst P) (E := allEg P cs e) (a := 0) (b := e % P) (bal_all ok hn) fun S h0 hS g hg => by
    refine hh _ _ (ed g hg) S h0 fun x y r => ?_
    obtain ⟨g', hg', rfl, rfl⟩ := back x y r
    exact hS g' hg'
  have hT0 : TrailE Eg.src (Eg.dst P) ((0 : Int) % P) T (e % P) := by rw [Int.zero_emod]; exact hT
  have hr := walk_rows p1 (cs := cs) hT0 fun i c hm => mem1 i c (hp.mem_iff.mp hm)
  have hu : Uses cs (walkRows 0 T) := fun i c hi => by
    rw [walk_count, hp.countP_eq]
    have hcm := List.mem_of_getElem? hi
    have ht := (ok.ok c hcm).2.2.2
    unfold allEg
    rw [List.countP_append]
    have z2 : ((rng P id).flatMap fun q => List.replicate (wait P cs e q).toNat (Eg.wt q)).countP (fun g => match g with | .cut j _ => decide (j = i) | .wt _ => false) = 0 := by
      rw [List.countP_eq_zero]
      intro g hg
      obtain ⟨q', hq, z⟩ := List.mem_flatMap.mp hg
      rw [(List.mem_replicate.mp z).2]
      simp
    rw [z2]
    have z1 : ∀ (l : List Cut) (k : Nat), ((l.zipIdx k).flatMap fun p => List.replicate p.1.times.toNat (Eg.cut p.2 p.1)).countP (fun g => match g with | .cut j _ => decide (j = i) | .wt _ => false) = if k ≤ i then (match l[i - k]? with | some c => c.times.toNat | none => 0) else 0 := fun l => by
      induction l with
      | nil => intro k; simp
      | cons d l ih =>
        intro k
        rw [List.zipIdx_cons, List.flatMap_cons, List.countP_append, ih (k + 1), List.countP_replicate]
        by_cases hk : k = i
        · subst hk
          rw [if_neg (show ¬ k + 1 ≤ k by omega), if_pos (Nat.le_refl _), Nat.sub_self]
          simp
        · have e0 : (if (match (Eg.cut k d) with | .cut j _ => decide (j = i) | .wt _ => false) = true then d.times.toNat else 0) = 0 := if_neg (by simp [hk])
          have e0' : (if (match (Eg.cut (d, k).2 (d, k).1) with | .cut j _ => decide (j = i) | .wt _ => false) = true then (d, k).1.times.toNat else 0) = 0 := e0
          rw [e0', Nat.zero_add]
          by_cases hle : k ≤ i
          · have e1 : i - k = (i - (k + 1)) + 1 := by omega
            rw [if_pos (show k + 1 ≤ i by omega), if_pos hle, e1, List.getElem?_cons_succ]
          · rw [if_neg (show ¬ k + 1 ≤ i by omega), if_neg hle]
    rw [z1 cs 0, if_pos (Nat.zero_le _), Nat.sub_zero, hi]
    show ((c.times.toNat + 0 : Nat) : Int) = c.times
    omega
  have lsum : walkLen T = walkLen (allEg P cs e) := perm_sumI (hp.map _)
  rw [lsum, len_all ok e0 hn, Int.zero_add] at hr
  exact ⟨walkRows 0 T, hr, hu⟩
end K90


namespace K90
open PySem PySem.Spec PyProof.Rows L2 DL
/-! ### lanes changed: scaled, one behind another, parted, coarser -/
theorem lay_iff {P : Int} {cs : List Cut} {e : Int} (ok : CW P cs) (e0 : 0 ≤ e) : Let P cs e ↔ Lay P cs e := ⟨fun h => h.lay ok e0, fun h => h.let ok⟩
theorem IsLeast.lay {P : Int} {cs : List Cut} {L : Int} (ok : CW P cs) (h0 : 0 ≤ L) (h1 : Lay P cs L) (h2 : ∀ e, 0 ≤ e → e < L → ¬ Lay P cs e) : IsLeast P cs L := ⟨h0, h1.let ok, fun e a b z => h2 e a b (z.lay ok a)⟩
theorem IsLeast.le {P : Int} {cs : List Cut} {L e : Int} (ok : CW P cs) (h : IsLeast P cs L) (e0 : 0 ≤ e) (hl : Lay P cs e) : L ≤ e := (h.iff ok e0).mp (hl.let ok)
/-- rows carried to other cuts -/
theorem Rows.map {P P' : Int} {cs cs' : List Cut} {f : Int → Int} (hm : ∀ x y, x ≤ y → f x ≤ f y) (hc : ∀ (i : Nat) (c : Cut) (b : Int), cs[i]? = some c → b % P = c.phase → ∃ c' : Cut, cs'[i]? = some c' ∧ (f b) % P' = c'.phase ∧ f b + c'.long ≤ f (b + c.long)) :
    ∀ {r : List (Int × Nat)} {x y e : Int}, y ≤ f x → Rows P cs x e r → Rows P' cs' y (f e) (r.map fun z => (f z.1, z.2))
  | [], x, y, e, hy, h => Int.le_trans hy (hm _ _ h)
  | (b, i) :: r, x, y, e, hy, ⟨c, h1, h2, h3, h4⟩ => by
    obtain ⟨c', g1, g2, g3⟩ := hc i c b h1 h3
    exact ⟨c', g1, Int.le_trans hy (hm _ _ h2), g2, Rows.map hm hc g3 h4⟩
theorem uses_map {cs cs' : List Cut} {f : Int → Int} {r : List (Int × Nat)} (hc : ∀ (i : Nat) (c' : Cut), cs'[i]? = some c' → ∃ c : Cut, cs[i]? = some c ∧ c.times = c'.times) (u : Uses cs r) : Uses cs' (r.map fun z => (f z.1, z.2)) := fun i c' h => by
  obtain ⟨c, h1, h2⟩ := hc i c' h
  rw [List.countP_map, ← h2, ← u i c h1]
  rfl
theorem Rows.append {P : Int} {cs : List Cut} : ∀ {r s : List (Int × Nat)} {x y e : Int}, Rows P cs x y r → Rows P cs y e s → Rows P cs x e (r ++ s)
  | [], s, x, y, e, h, h' => h'.low h
  | (b, i) :: r, s, x, y, e, ⟨c, h1, h2, h3, h4⟩, h' => ⟨c, h1, h2, h3, h4.append h'⟩
theorem Rows.up {P : Int} {cs : List Cut} : ∀ {r : List (Int × Nat)} {x e f : Int}, e ≤ f → Rows P cs x e r → Rows P cs x f r
  | [], x, e, f, hf, h => Int.le_trans h hf
  | (b, i) :: r, x, e, f, hf, ⟨c, h1, h2, h3, h4⟩ => ⟨c, h1, h2, h3, h4.up hf⟩
/-! a lane of so many times as fine steps -/
def wide (s : Int) (cs : List Cut) : List Cut := cs.map fun c => ⟨c.long * s, c.phase * s, c.times⟩
theorem wide_at {s : Int} {cs : List Cut} {i : Nat} {c : Cut} (h : cs[i]? = some c) : (wide s cs)[i]? = some ⟨c.long * s, c.phase * s, c.times⟩ := by
  unfold wide
  rw [List.getElem?_map, h]
  rfl
theorem at_wide {s : Int} {cs : List Cut} {i : Nat} {c' : Cut} (h : (wide s cs)[i]? = some c') : ∃ c, cs[i]? = some c ∧ c' = ⟨c.long * s, c.phase * s, c.times⟩ := by
  unfold wide at h
  rw [List.getElem?_map] at h
  cases e : cs[i]? with
  | none => rw [e] at h; cases h
  | some c => rw [e] at h; cases h; exact ⟨c, rfl, rfl⟩
theorem CW.wide {P s : Int} {cs : List Cut} (ok : CW P cs) (hs : 1 ≤ s) : CW (P * s) (wide s cs) := by
  have p1 := ok.p1
  refine ⟨?_, fun c hc => ?_⟩
  · have : 1 * 1 ≤ P * s := Int.mul_le_mul p1 hs (by omega) (by omega)
    omega
  · obtain ⟨d, hd, rfl⟩ := List.mem_map.mp hc
    obtain ⟨a, b, c, e⟩ := ok.ok d hd
    have h1 : 1 * 1 ≤ d.long * s := Int.mul_le_mul a hs (by omega) (by omega)
    have h2 : 0 ≤ d.phase * s := Int.mul_nonneg b (by omega)
    have h3 : (d.phase + 1) * s ≤ P * s := Int.mul_le_mul_of_nonneg_right (by omega) (by omega)
    rw [Int.add_mul] at h3
    exact ⟨by show 1 ≤ d.long * s; omega, h2, by show d.phase * s < P * s; omega, e⟩
theorem mul_emod {b s P : Int} (hs : 1 ≤ s) : (b * s) % (P * s) = (b % P) * s := by
  rw [Int.mul_comm b, Int.mul_comm P, Int.mul_emod_mul_of_pos _ _ (show 0 < s by omega), Int.mul_comm]
theorem lay_wide {P s e : Int} {cs : List Cut} (hs : 1 ≤ s) (h : Lay P cs e) : Lay (P * s) (wide s cs) (e * s) := by
  obtain ⟨r, hr, hu⟩ := h
  refine ⟨r.map fun z => (z.1 * s, z.2), Rows.map (f := fun x => x * s) (fun x y h => Int.mul_le_mul_of_nonneg_right h (by omega)) (fun i c b hc hb => ⟨_, wide_at hc, by rw [mul_emod hs, hb], by show b * s + c.long * s ≤ (b + c.long) * s; rw [Int.add_mul]; omega⟩) (by omega) hr, uses_map (f := fun x => x * s) (fun i c' h => ?_) hu⟩
  obtain ⟨c, h1, rfl⟩ := at_wide h
  exact ⟨c, h1, rfl⟩
theorem emod_mul {b s P q : Int} (hs : 1 ≤ s) (h : b % (P * s) = q * s) : b = (b / s) * s ∧ (b / s) % P = q := by
  have e1 : b % s = 0 := by
    have hd := Int.emod_add_mul_ediv b (P * s)
    rw [h] at hd
    have : b = (q + P * (b / (P * s))) * s := by
      rw [Int.add_mul, Int.mul_assoc, Int.mul_comm (b / (P * s)) s, ← Int.mul_assoc]
      omega
    rw [this, Int.mul_emod_left]
  have e2 : b = (b / s) * s := by
    have := Int.emod_add_mul_ediv b s
    rw [Int.mul_comm] at this
    omega
  refine ⟨e2, ?_⟩
  rw [e2, mul_emod hs] at h
  have hne : s ≠ 0 := by omega
  exact Int.eq_of_mul_eq_mul_right hne h
theorem wide_lay {P s e : Int} {cs : List Cut} (hs : 1 ≤ s) (h : Lay (P * s) (wide s cs) e) : Lay P cs (e / s) := by
  obtain ⟨r, hr, hu⟩ := h
  have mono : ∀ x y : Int, x ≤ y → x / s ≤ y / s := fun x y h => Int.ediv_le_ediv (by omega) h
  refine ⟨r.map fun z => (z.1 / s, z.2), Rows.map (f := fun x => x / s) mono (fun i c' b hc hb => ?_) (by show (0 : Int) ≤ 0 / s; rw [Int.zero_ediv]; omega) hr, uses_map (f := fun x => x / s) (fun i c h => ⟨_, wide_at h, rfl⟩) hu⟩
  obtain ⟨c, h1, rfl⟩ := at_wide hc
  obtain ⟨e1, e2⟩ := emod_mul hs hb
  refine ⟨c, h1, e2, ?_⟩
  show b / s + c.long ≤ (b + c.long * s) / s
  rw [Int.add_mul_ediv_right _ _ (by omega)]
  omega
theorem wide_least {P s L : Int} {cs : List Cut} (ok : CW P cs) (hs : 1 ≤ s) (h : IsLeast P cs L) : IsLeast (P * s) (wide s cs) (L * s) := by
  refine IsLeast.lay (ok.wide hs) (Int.mul_nonneg h.1 (by omega)) (lay_wide hs (h.2.1.lay ok h.1)) fun e e0 e1 hl => ?_
  have h1 := h.le ok (Int.ediv_nonneg e0 (by omega)) (wide_lay hs hl)
  have hd := Int.emod_add_mul_ediv e s
  obtain ⟨z1, z2⟩ := emod_in (a := e) (P := s) (by omega)
  have : L * s ≤ (e / s) * s := Int.mul_le_mul_of_nonneg_right h1 (by omega)
  rw [Int.mul_comm (e / s)] at this
  omega
theorem wide_many (s n : Int) (cs : List Cut) : wide s (many cs n) = many (wide s cs) n := by
  unfold wide many
  rw [List.map_map, List.map_map]
  rfl
theorem wide_turned {P s t : Int} {cs : List Cut} (hs : 1 ≤ s) : turned (P * s) (wide s cs) (t * s) = wide s (turned P cs t) := by
  unfold wide turned
  rw [List.map_map, List.map_map]
  apply List.map_congr_left
  intro c _
  show (⟨c.long * s, (c.phase * s - t * s) % (P * s), c.times⟩ : Cut) = ⟨c.long * s, ((c.phase - t) % P) * s, c.times⟩
  rw [← Int.sub_mul, mul_emod hs]
theorem CW.turned {P t : Int} {cs : List Cut} (ok : CW P cs) : CW P (turned P cs t) := ⟨ok.p1, fun c hc => by
  obtain ⟨d, hd, rfl⟩ := List.mem_map.mp hc
  obtain ⟨a, _, _, e⟩ := ok.ok d hd
  have p1 := ok.p1
  obtain ⟨z1, z2⟩ := emod_in (a := d.phase - t) (P := P) (by omega)
  exact ⟨a, z1, z2, e⟩⟩
theorem form_scaled {P s f e m f' e' m' : Int} {cs : List Cut} (ok : CW P cs) (hs : 1 ≤ s) (F : IsForm P cs f e m) (F' : IsForm (P * s) (wide s cs) f' e' m') : f' = s * f ∧ e' = s * e ∧ m' = s * m := by
  have hf := F'.least.uniq (wide_least ok hs F.least)
  by_cases hne : cs = []
  · obtain ⟨rfl, rfl, rfl⟩ := F.nil hne
    obtain ⟨a, b, c⟩ := F'.nil (by rw [hne]; rfl)
    exact ⟨by rw [a, Int.mul_zero], by rw [b, Int.mul_zero], by rw [c, Int.mul_zero]⟩
  · have hne' : wide s cs ≠ [] := fun z => hne (by cases cs with | nil => rfl | cons c cs => cases z)
    have L : ∀ n, 2 ≤ n → e' * n + m' = (e * n + m) * s := fun n hn => by
      have h1 := F'.manyL (ok.wide hs) hne' hn
      rw [← wide_many] at h1
      exact h1.uniq (wide_least (ok.many (by omega)) hs (F.manyL ok hne hn))
    have h2 := L 2 (by omega)
    have h3 := L 3 (by omega)
    rw [Int.add_mul] at h2 h3
    have e2 : e * 2 * s = 2 * (s * e) := by rw [Int.mul_comm e 2, Int.mul_assoc, Int.mul_comm e s]
    have e3 : e * 3 * s = 3 * (s * e) := by rw [Int.mul_comm e 3, Int.mul_assoc, Int.mul_comm e s]
    rw [e2, Int.mul_comm m] at h2
    rw [e3, Int.mul_comm m] at h3
    refine ⟨by rw [hf, Int.mul_comm], by omega, by omega⟩
/-- seen from a place where nothing can begin at once: the first steps wait -/
theorem lay_first {P d e : Int} {cs : List Cut} (ok : CW P cs) (hne : cs ≠ []) (d0 : 0 ≤ d) (hd : ∀ c ∈ cs, ∀ b, 0 ≤ b → b % P = c.phase → d ≤ b) (h : Lay P cs e) : d ≤ e ∧ Lay P (turned P cs d) (e - d) := by
  have p1 := ok.p1
  obtain ⟨r, hr, hu⟩ := h
  cases r with
  | nil =>
    cases cs with
    | nil => exact absurd rfl hne
    | cons c cs =>
      have := hu 0 c rfl
      have h2 := (ok.ok c List.mem_cons_self).2.2.2
      have : (0 : Int) = c.times := this
      omega
  | cons y r =>
    obtain ⟨b, i⟩ := y
    obtain ⟨c, h1, h2, h3, h4⟩ := id hr
    have hb := hd c (List.mem_of_getElem? h1) b h2 h3
    have hr' : Rows P cs d e ((b, i) :: r) := ⟨c, h1, hb, h3, h4⟩
    have hle := rows_le ok hr'
    refine ⟨hle, ((b, i) :: r).map fun z => (z.1 - d, z.2), Rows.map (f := fun x => x - d) (fun x y h => by omega) (fun j c' b' hc hb' => ?_) (by omega) hr', uses_map (f := fun x => x - d) (fun j c' h => ?_) hu⟩
    · refine ⟨⟨c'.long, (c'.phase - d) % P, c'.times⟩, by unfold turned; rw [List.getElem?_map, hc]; rfl, ?_, by show b' - d + c'.long ≤ b' + c'.long - d; omega⟩
      show (b' - d) % P = (c'.phase - d) % P
      rw [← hb', Int.emod_sub_emod]
    · unfold turned at h
      rw [List.getElem?_map] at h
      cases e : cs[j]? with
      | none => rw [e] at h; cases h
      | some c'' => rw [e] at h; cases h; exact ⟨c'', rfl, rfl⟩
theorem turned_add {P t d : Int} {cs : List Cut} : turned P (turned P cs t) d = turned P cs (t + d) := by
  unfold turned
  rw [List.map_map]
  apply List.map_congr_left
  intro c _
  show (⟨c.long, ((c.phase - t) % P - d) % P, c.times⟩ : Cut) = ⟨c.long, (c.phase - (t + d)) % P, c.times⟩
  rw [Int.emod_sub_emod, Int.sub_sub]
theorem turned_emod {P t : Int} {cs : List Cut} : turned P cs (t % P) = turned P cs t := by
  unfold turned
  apply List.map_congr_left
  intro c _
  show (⟨c.long, (c.phase - t % P) % P, c.times⟩ : Cut) = _
  rw [Int.sub_emod_emod]
/-- the least end seen from within a step that was made wide -/
theorem wide_within {P s t r L L' : Int} {cs : List Cut} (ok : CW P cs) (hs : 1 ≤ s) (hne : cs ≠ []) (r0 : 0 < r) (r1 : r < s) (h : IsLeast (P * s) (turned (P * s) (wide s cs) (t * s + r)) L') (hL : IsLeast P (turned P cs (t + 1)) L) : L * s ≤ L' := by
  have p1 := ok.p1
  have okw := ok.wide hs
  have q1 := okw.p1
  have key : turned (P * s) (turned (P * s) (wide s cs) (t * s + r)) (s - r) = wide s (turned P cs (t + 1)) := by
    rw [turned_add, ← wide_turned hs]
    congr 1
    rw [Int.add_mul]
    omega
  have ne2 : turned (P * s) (wide s cs) (t * s + r) ≠ [] := by
    cases cs with
    | nil => exact absurd rfl hne
    | cons c cs => exact fun z => by cases z
  obtain ⟨h1, h2⟩ := lay_first okw.turned ne2 (d := s - r) (by omega) (fun c hc b b0 hb => by
    obtain ⟨c1, hc1, rfl⟩ := List.mem_map.mp hc
    obtain ⟨c2, hc2, rfl⟩ := List.mem_map.mp hc1
    have hb : b % (P * s) = (c2.phase * s - (t * s + r)) % (P * s) := hb
    have hb2 : (b + r) % (P * s) = ((c2.phase - t) % P) * s := by
      rw [← Int.emod_add_emod, hb, Int.emod_add_emod, ← mul_emod hs, Int.sub_mul]
      congr 1
      omega
    obtain ⟨e1, _⟩ := emod_mul hs hb2
    have : 1 ≤ (b + r) / s := by
      by_cases z : 1 ≤ (b + r) / s
      · exact z
      · have h0 : (b + r) / s * s ≤ 0 * s := Int.mul_le_mul_of_nonneg_right (by omega) (by omega)
        omega
    have : 1 * s ≤ (b + r) / s * s := Int.mul_le_mul_of_nonneg_right this (by omega)
    omega) (h.2.1.lay okw.turned h.1)
  rw [key] at h2
  have := (wide_least ok.turned hs hL).le (ok.turned.wide hs) (by omega) h2
  omega
/-- the cover of a step that was made wide -/
theorem cnt_wide {P s a : Int} {c : Cut} (hs : 1 ≤ s) (p1 : 1 ≤ P) : cnt (P * s) ⟨c.long * s, c.phase * s, c.times⟩ (a * s) = cnt P c a := by
  unfold cnt
  show (c.long * s) / (P * s) + (if (a * s - c.phase * s) % (P * s) < (c.long * s) % (P * s) then 1 else 0) = _
  rw [← Int.sub_mul, mul_emod hs, mul_emod hs, Int.mul_ediv_mul_of_pos_left _ _ (by omega)]
  by_cases h : (a - c.phase) % P < c.long % P
  · rw [if_pos h, if_pos (Int.mul_lt_mul_of_pos_right h (by omega))]
  · rw [if_neg h, if_neg (fun z => h (Int.lt_of_mul_lt_mul_right z (by omega)))]
theorem cover_wide {P s a : Int} {cs : List Cut} (hs : 1 ≤ s) (p1 : 1 ≤ P) : cover (P * s) (wide s cs) (a * s) = cover P cs a := by
  unfold cover wide
  rw [List.map_map]
  congr 1
  apply List.map_congr_left
  intro c _
  show c.times * cnt (P * s) ⟨c.long * s, c.phase * s, c.times⟩ (a * s) = _
  rw [cnt_wide hs p1]
/-! two lots one behind another -/
theorem lots_behind {P L M : Int} {as bs : List Cut} (ok : CW P as) (ok' : CW P bs) (h : IsLeast P as L) (h' : IsLeast P (turned P bs L) M) : Lay P (as ++ bs) (L + M) := by
  have p1 := ok.p1
  obtain ⟨r, hr, hu⟩ := h.2.1.lay ok h.1
  obtain ⟨s, hs, hv⟩ := h'.2.1.lay ok'.turned h'.1
  have g1 : Rows P (as ++ bs) 0 L (r.map fun z => (id z.1, z.2)) := Rows.map (f := id) (fun x y h => h) (fun i c b hc hb => ⟨c, by rw [List.getElem?_append_left (List.getElem?_eq_some_iff.mp hc).1]; exact hc, hb, Int.le_refl _⟩) (Int.le_refl _) hr
  have e1 : (r.map fun z => (id z.1, z.2)) = r := by simp
  rw [e1] at g1
  have shift : ∀ {q : List (Int × Nat)} {x y e : Int}, y ≤ x + L → Rows P (turned P bs L) x e q → Rows P (as ++ bs) y (e + L) (q.map fun z => (z.1 + L, z.2 + as.length)) := fun {q} => by
    induction q with
    | nil => intro x y e hy h; have h : x ≤ e := h; show y ≤ e + L; omega
    | cons z q ih =>
      obtain ⟨b, i⟩ := z
      rintro x y e hy ⟨c, h1, h2, h3, h4⟩
      unfold turned at h1
      rw [List.getElem?_map] at h1
      cases ec : bs[i]? with
      | none => rw [ec] at h1; cases h1
      | some d =>
        rw [ec] at h1
        cases h1
        obtain ⟨_, d0, d1, _⟩ := ok'.ok d (List.mem_of_getElem? ec)
        refine ⟨d, ?_, by show y ≤ b + L; omega, ?_, ih (by show b + L + d.long ≤ b + d.long + L; omega) h4⟩
        · show (as ++ bs)[i + as.length]? = _
          rw [List.getElem?_append_right (by omega)]
          have : i + as.length - as.length = i := by omega
          rw [this]; exact ec
        · have h3 : b % P = (d.phase - L) % P := h3
          show (b + L) % P = d.phase
          rw [← Int.emod_add_emod, h3, Int.emod_add_emod, Int.sub_add_cancel, Int.emod_eq_of_lt d0 d1]
  have g2 := shift (x := 0) (y := L) (by omega) hs
  rw [Int.add_comm M L] at g2
  refine ⟨r ++ s.map fun z => (z.1 + L, z.2 + as.length), g1.append g2, fun i c hc => ?_⟩
  rw [List.countP_append, List.countP_map]
  have ri := rows_ix hr
  by_cases hi : i < as.length
  · rw [List.getElem?_append_left hi] at hc
    have z : s.countP ((fun y => decide (y.2 = i)) ∘ fun z => (z.1 + L, z.2 + as.length)) = 0 := by
      rw [List.countP_eq_zero]
      intro y _
      simp
      omega
    rw [z, Nat.add_zero]
    exact hu i c hc
  · rw [List.getElem?_append_right (by omega)] at hc
    have z : r.countP (fun y => decide (y.2 = i)) = 0 := by
      rw [List.countP_eq_zero]
      intro y hy
      have := ri y hy
      simp
      omega
    rw [z, Nat.zero_add]
    have := hv (i - as.length) ⟨c.long, (c.phase - L) % P, c.times⟩ (by unfold turned; rw [List.getElem?_map, hc]; rfl)
    have e : s.countP ((fun y => decide (y.2 = i)) ∘ fun z => (z.1 + L, z.2 + as.length)) = s.countP (fun y => decide (y.2 = i - as.length)) := by
      congr 1
      funext y
      show decide (y.2 + as.length = i) = decide (y.2 = i - as.length)
      exact decide_eq_decide.mpr (by omega)
    rw [e]
    exact this
/-! a coarser period -/
theorem lay_coarser {P m e : Int} {cs fs : List Cut} (h : ∀ (i : Nat) (c : Cut), cs[i]? = some c → ∃ f : Cut, fs[i]? = some f ∧ f.times = c.times) (h' : ∀ (i : Nat) (f : Cut), fs[i]? = some f → ∃ c : Cut, cs[i]? = some c ∧ c.long = f.long ∧ f.phase % P = c.phase) (hl : Lay (P * m) fs e) : Lay P cs e := by
  obtain ⟨r, hr, hu⟩ := hl
  have g : Rows P cs 0 (id e) (r.map fun z => (id z.1, z.2)) := Rows.map (f := id) (fun x y h => h) (fun i f b hf hb => by
    obtain ⟨c, h1, h2, h3⟩ := h' i f hf
    refine ⟨c, h1, ?_, by show b + c.long ≤ b + f.long; omega⟩
    show b % P = c.phase
    rw [← h3, ← hb, Int.emod_emod_of_dvd b (Int.dvd_mul_right P m)]) (Int.le_refl _) hr
  refine ⟨_, g, uses_map (f := id) (fun i c hc => ?_) hu⟩
  obtain ⟨f, h1, h2⟩ := h i c hc
  exact ⟨f, h1, h2⟩
/-! pieces cut in two -/
def partC (P : Int) (c : Cut) (x : Int) : List Cut := if 0 < x then [⟨x, c.phase, c.times⟩, ⟨c.long - x, (c.phase + x) % P, c.times⟩] else [c]
structure Parted (P : Int) (cs fs : List Cut) : Prop where
  cov : ∀ q, 0 ≤ q → q < P → cover P fs q = cover P cs q
  a : ∀ f ∈ fs, (∃ c ∈ cs, f.phase = c.phase) ∨ ∃ g ∈ fs, (∃ c ∈ cs, g.phase = c.phase) ∧ f.phase = (g.long + g.phase) % P
  b : ∀ c ∈ cs, (∃ f ∈ fs, f.phase = c.phase ∧ (f.long + f.phase) % P = (c.long + c.phase) % P) ∨ ∃ f ∈ fs, ∃ g ∈ fs, f.phase = c.phase ∧ g.phase = (f.long + f.phase) % P ∧ (g.long + g.phase) % P = (c.long + c.phase) % P
  ok : CW P fs
theorem Parted.nil {P : Int} (p1 : 1 ≤ P) : Parted P [] [] := ⟨fun _ _ _ => rfl, fun _ h => (by cases h), fun _ h => (by cases h), ⟨p1, fun _ h => (by cases h)⟩⟩
theorem Parted.snoc {P x : Int} {cs fs : List Cut} {c : Cut} (h : Parted P cs fs) (hc : 1 ≤ c.long ∧ 0 ≤ c.phase ∧ c.phase < P ∧ 1 ≤ c.times) (x0 : 0 ≤ x) (x1 : x < c.long) : Parted P (cs ++ [c]) (fs ++ partC P c x) := by
  have p1 := h.ok.p1
  obtain ⟨g1, g2, g3, g4⟩ := hc
  have emid : (c.long - x + (c.phase + x) % P) % P = (c.long + c.phase) % P := by
    rw [Int.add_emod_emod]
    congr 1
    omega
  unfold partC
  by_cases hx : 0 < x
  · rw [if_pos hx]
    obtain ⟨z1, z2⟩ := emod_in (a := c.phase + x) (P := P) (by omega)
    refine ⟨fun q q0 q1 => ?_, fun f hf => ?_, fun d hd => ?_, ⟨p1, fun f hf => ?_⟩⟩
    · rw [cover_append, cover_append, h.cov q q0 q1]
      unfold cover
      simp only [List.map_cons, List.map_nil, List.sum_cons, List.sum_nil, Int.add_zero]
      have hb : c.phase % P = c.phase := Int.emod_eq_of_lt g2 g3
      have s1 := st_len (b := c.phase) (c := ⟨x, c.phase, c.times⟩) p1 q0 q1 hb
      have s2 := st_len (b := c.phase + x) (c := ⟨c.long - x, (c.phase + x) % P, c.times⟩) p1 q0 q1 rfl
      have s3 := st_len (b := c.phase) (c := c) p1 q0 q1 hb
      have s1 : st P (c.phase + x) q - st P c.phase q = _ := s1
      have s2 : st P (c.phase + x + (c.long - x)) q - st P (c.phase + x) q = _ := s2
      have e : c.phase + x + (c.long - x) = c.phase + c.long := by omega
      rw [e] at s2
      rw [← s1, ← s2, ← s3, Int.mul_sub, Int.mul_sub, Int.mul_sub]
      show _ + (c.times * _ - c.times * _ + (c.times * _ - c.times * _)) = _
      omega
    · rcases List.mem_append.mp hf with hf | hf
      · rcases h.a f hf with ⟨d, hd, e⟩ | ⟨g, hg, ⟨d, hd, e⟩, e2⟩
        · exact .inl ⟨d, List.mem_append_left _ hd, e⟩
        · exact .inr ⟨g, List.mem_append_left _ hg, ⟨d, List.mem_append_left _ hd, e⟩, e2⟩
      · simp only [List.mem_cons, List.not_mem_nil, or_false] at hf
        rcases hf with rfl | rfl
        · exact .inl ⟨c, List.mem_append_right _ (List.mem_singleton.mpr rfl), rfl⟩
        · exact .inr ⟨⟨x, c.phase, c.times⟩, List.mem_append_right _ List.mem_cons_self, ⟨c, List.mem_append_right _ (List.mem_singleton.mpr rfl), rfl⟩, by show (c.phase + x) % P = (x + c.phase) % P; rw [Int.add_comm]⟩
    · rcases List.mem_append.mp hd with hd | hd
      · rcases h.b d hd with ⟨f, hf, e⟩ | ⟨f, hf, g, hg, e⟩
        · exact .inl ⟨f, List.mem_append_left _ hf, e⟩
        · exact .inr ⟨f, List.mem_append_left _ hf, g, List.mem_append_left _ hg, e⟩
      · rw [List.mem_singleton] at hd
        subst hd
        exact .inr ⟨⟨x, d.phase, d.times⟩, List.mem_append_right _ List.mem_cons_self, ⟨d.long - x, (d.phase + x) % P, d.times⟩, List.mem_append_right _ (List.mem_cons_of_mem _ List.mem_cons_self), rfl, by show (d.phase + x) % P = (x + d.phase) % P; rw [Int.add_comm], emid⟩
    · rcases List.mem_append.mp hf with hf | hf
      · exact h.ok.ok f hf
      · simp only [List.mem_cons, List.not_mem_nil, or_false] at hf
        rcases hf with rfl | rfl
        · exact ⟨by show 1 ≤ x; omega, g2, g3, g4⟩
        · exact ⟨by show 1 ≤ c.long - x; omega, z1, z2, g4⟩
  · rw [if_neg hx]
    refine ⟨fun q q0 q1 => by rw [cover_append, cover_append, h.cov q q0 q1], fun f hf => ?_, fun d hd => ?_, ⟨p1, fun f hf => ?_⟩⟩
    · rcases List.mem_append.mp hf with hf | hf
      · rcases h.a f hf with ⟨d, hd, e⟩ | ⟨g, hg, ⟨d, hd, e⟩, e2⟩
        · exact .inl ⟨d, List.mem_append_left _ hd, e⟩
        · exact .inr ⟨g, List.mem_append_left _ hg, ⟨d, List.mem_append_left _ hd, e⟩, e2⟩
      · rw [List.mem_singleton] at hf
        subst hf
        exact .inl ⟨f, List.mem_append_right _ (List.mem_singleton.mpr rfl), rfl⟩
    · rcases List.mem_append.mp hd with hd | hd
      · rcases h.b d hd with ⟨f, hf, e⟩ | ⟨f, hf, g, hg, e⟩
        · exact .inl ⟨f, List.mem_append_left _ hf, e⟩
        · exact .inr ⟨f, List.mem_append_left _ hf, g, List.mem_append_left _ hg, e⟩
      · rw [List.mem_singleton] at hd
        subst hd
        exact .inl ⟨d, List.mem_append_right _ (List.mem_singleton.mpr rfl), rfl, rfl⟩
    · rcases List.mem_append.mp hf with hf | hf
      · exact h.ok.ok f hf
      · rw [List.mem_singleton] at hf
        subst hf
        exact ⟨g1, g2, g3, g4⟩
theorem Parted.let {P e : Int} {cs fs : List Cut} (h : Parted P cs fs) (hl : Let P cs e) : Let P fs e := by
  obtain ⟨hn, hh⟩ := let_iff.mp hl
  have hw : ∀ q, 0 ≤ q → q < P → wait P fs e q = wait P cs e q := fun q a b => by unfold wait free; rw [h.cov q a b]
  have edge : ∀ {S : Int → Prop}, (∀ x y, Ed P fs (Fr P fs e) x y → (S x ↔ S y)) → ∀ x y, Ed P cs (Fr P cs e) x y → (S x ↔ S y) := fun {S} hS x y r => by
    rcases r with ⟨c, hc, rfl, rfl⟩ | ⟨⟨a, b, w⟩, ey⟩
    · rcases h.b c hc with ⟨f, hf, e1, e2⟩ | ⟨f, hf, g, hg, e1, e2, e3⟩
      · have := hS _ _ (.inl ⟨f, hf, rfl, rfl⟩)
        rwa [e2, e1] at this
      · have h1 := hS _ _ (.inl ⟨f, hf, rfl, rfl⟩)
        have h2 := hS _ _ (.inl ⟨g, hg, rfl, rfl⟩)
        rw [e3] at h2
        rw [← e2, e1] at h1
        exact h1.trans h2
    · exact hS x y (.inr ⟨⟨a, b, by rw [hw x a b]; exact w⟩, ey⟩)
  refine let_iff.mpr ⟨fun q a b => by rw [hw q a b]; exact hn q a b, fun x y r S h0 hS => ?_⟩
  have hc := edge hS
  rcases r with ⟨f, hf, rfl, rfl⟩ | ⟨⟨a, b, w⟩, ey⟩
  · rcases h.a f hf with ⟨c, hc', e1⟩ | ⟨g, hg, ⟨c, hc', e1⟩, e2⟩
    · rw [e1]
      exact hh _ _ (.inl ⟨c, hc', rfl, rfl⟩) S h0 hc
    · have h1 : S c.phase := hh _ _ (.inl ⟨c, hc', rfl, rfl⟩) S h0 hc
      rw [← e1] at h1
      rw [e2]
      exact (hS _ _ (.inl ⟨g, hg, rfl, rfl⟩)).mp h1
  · exact hh x y (.inr ⟨⟨a, b, by rw [← hw x a b]; exact w⟩, ey⟩) S h0 hc
/-- Forms of cuts in another order -/
theorem form_alike {P f e m f' e' m' : Int} {as bs : List Cut} (ok : CW P as) (ok' : CW P bs) (h : as.Perm bs) (F : IsForm P as f e m) (F' : IsForm P bs f' e' m') : f = f' ∧ e = e' ∧ m = m' := by
  have hf := ((perm_alike (P := P) h).least F.least).uniq F'.least
  by_cases hne : as = []
  · have hne' : bs = [] := by rw [hne] at h; exact List.nil_perm.mp h
    obtain ⟨a, b, c⟩ := F.nil hne
    obtain ⟨a', b', c'⟩ := F'.nil hne'
    exact ⟨hf, by omega, by omega⟩
  · have hne' : bs ≠ [] := fun z => hne (by rw [z] at h; exact List.perm_nil.mp h)
    have L : ∀ n, 2 ≤ n → e * n + m = e' * n + m' := fun n hn =>
      ((perm_alike (P := P) (show (many as n).Perm (many bs n) from h.map _)).least (F.manyL ok hne hn)).uniq (F'.manyL ok' hne' hn)
    have h2 := L 2 (by omega)
    have h3 := L 3 (by omega)
    exact ⟨hf, by omega, by omega⟩
end K90


namespace K90
open PySem PySem.Spec PyProof.Rows L2 DL
/-! ### going along with what is left -/
def UsesN (ns : List Int) (r : List (Int × Nat)) : Prop := ∀ (i : Nat) (n : Int), ns[i]? = some n → ((r.countP fun y => decide (y.2 = i) : Nat) : Int) = n
def Can (P : Int) (cs : List Cut) (e x : Int) (ns : List Int) : Prop := ∃ r, Rows P cs x e r ∧ UsesN ns r
def nxt (P x ph : Int) : Int := x + (ph - x) % P
def dec1 (ns : List Int) (i : Nat) : List Int := ns.zipIdx.map fun p => p.1 - if p.2 = i then 1 else 0
theorem nxt_ge {P x ph : Int} (p1 : 1 ≤ P) : x ≤ nxt P x ph := by
  have := Int.emod_nonneg (ph - x) (show P ≠ 0 by omega)
  unfold nxt; omega
theorem nxt_mod {P x ph : Int} (p1 : 1 ≤ P) (h0 : 0 ≤ ph) (h1 : ph < P) : nxt P x ph % P = ph := by
  unfold nxt
  rw [Int.add_emod, Int.emod_emod, ← Int.add_emod, show x + (ph - x) = ph by omega, Int.emod_eq_of_lt h0 h1]
theorem nxt_le {P x ph b : Int} (p1 : 1 ≤ P) (hx : x ≤ b) (hb : b % P = ph) : nxt P x ph ≤ b := by
  unfold nxt
  have e : (ph - x) % P = (b - x) % P := by rw [← hb, Int.sub_emod, Int.emod_emod, ← Int.sub_emod]
  rw [e]
  have := Int.emod_nonneg (b - x) (show P ≠ 0 by omega)
  have h2 : (b - x) % P ≤ b - x := by
    have q := Int.emod_add_mul_ediv (b - x) P
    have : 0 ≤ P * ((b - x) / P) := Int.mul_nonneg (by omega) (Int.ediv_nonneg (by omega) (by omega))
    omega
  omega
theorem dec1_len (ns : List Int) (i : Nat) : (dec1 ns i).length = ns.length := by unfold dec1; rw [List.length_map, List.length_zipIdx]
theorem dec1_get (ns : List Int) (i j : Nat) : (dec1 ns i)[j]? = ns[j]?.map fun n => n - if j = i then 1 else 0 := by
  unfold dec1
  rw [List.getElem?_map, List.getElem?_zipIdx]
  cases ns[j]? <;> simp
theorem usesN_cons {ns : List Int} {r : List (Int × Nat)} {b : Int} {i : Nat} (h : UsesN ns ((b, i) :: r)) : UsesN (dec1 ns i) r := fun j n hj => by
  rw [dec1_get] at hj
  cases e : ns[j]? with
  | none => rw [e] at hj; cases hj
  | some m =>
    rw [e] at hj
    have hj : m - (if j = i then 1 else 0) = n := by simpa using hj
    have := h j m e
    rw [List.countP_cons] at this
    by_cases c : j = i
    · subst c; simp at this hj; omega
    · have c2 : ¬ i = j := fun z => c z.symm
      rw [if_neg c] at hj
      simp [c2] at this; omega
theorem usesN_back {ns : List Int} {r : List (Int × Nat)} {b : Int} {i : Nat} (h : UsesN (dec1 ns i) r) : UsesN ns ((b, i) :: r) := fun j n hj => by
  have := h j (n - if j = i then 1 else 0) (by rw [dec1_get, hj]; rfl)
  rw [List.countP_cons]
  by_cases c : j = i
  · subst c; simp at this ⊢; omega
  · have c2 : ¬ i = j := fun z => c z.symm
    rw [if_neg c] at this
    simp [c2]; omega
theorem can_done {P e x : Int} {cs : List Cut} {ns : List Int} (hx : x ≤ e) (h : ∀ n ∈ ns, n = 0) : Can P cs e x ns := ⟨[], hx, fun i n hi => by
  rw [h n (List.mem_of_getElem? hi)]; rfl⟩
theorem can_back {P e x : Int} {cs : List Cut} {ns : List Int} {c : Cut} {i : Nat} (p1 : 1 ≤ P) (hc : cs[i]? = some c) (h0 : 0 ≤ c.phase) (h1 : c.phase < P) (h : Can P cs e (nxt P x c.phase + c.long) (dec1 ns i)) : Can P cs e x ns := by
  obtain ⟨r, hr, hu⟩ := h
  exact ⟨(nxt P x c.phase, i) :: r, ⟨c, hc, nxt_ge p1, nxt_mod p1 h0 h1, hr⟩, usesN_back hu⟩
theorem lay_can {P e : Int} {cs : List Cut} : Lay P cs e ↔ Can P cs e 0 (cs.map Cut.times) := by
  unfold Lay Can
  have : ∀ r, Uses cs r ↔ UsesN (cs.map Cut.times) r := fun r => ⟨fun h i n hi => by
    rw [List.getElem?_map] at hi
    cases e : cs[i]? with
    | none => rw [e] at hi; cases hi
    | some c => rw [e] at hi; cases hi; exact h i c e, fun h i c hi => h i c.times (by rw [List.getElem?_map, hi]; rfl)⟩
  exact ⟨fun ⟨r, a, b⟩ => ⟨r, a, (this r).mp b⟩, fun ⟨r, a, b⟩ => ⟨r, a, (this r).mpr b⟩⟩
/-- where all that is known is closed and none is done, nothing can be laid -/
theorem closed_no {P e : Int} {cs : List Cut} (ok : CW P cs) (S : Int → List Int → Prop) (hS : ∀ x ns, S x ns → (∃ n ∈ ns, 0 < n) ∧ ns.length = cs.length ∧ ∀ (i : Nat) (c : Cut) (n : Int), cs[i]? = some c → ns[i]? = some n → 0 < n → nxt P x c.phase + c.long ≤ e → S (nxt P x c.phase + c.long) (dec1 ns i)) :
    ∀ {r : List (Int × Nat)} {x : Int} {ns : List Int}, Rows P cs x e r → UsesN ns r → ¬ S x ns
  | [], x, ns, _, hu, s => by
    obtain ⟨⟨n, hn, h0⟩, _⟩ := hS x ns s
    obtain ⟨i, hi⟩ := List.getElem?_of_mem hn
    have := hu i n hi
    simp at this
    omega
  | (b, i) :: r, x, ns, ⟨c, hc, h1, h2, h3⟩, hu, s => by
    obtain ⟨_, hl, hcl⟩ := hS x ns s
    have hil := (List.getElem?_eq_some_iff.mp hc).1
    have hi : ns[i]? = some ns[i] := List.getElem?_eq_getElem (by omega)
    have hn := hu i _ hi
    rw [List.countP_cons] at hn
    have e1 := nxt_le ok.p1 h1 h2
    have e2 := rows_le ok h3
    refine closed_no ok S hS (Rows.low (by omega) h3) (usesN_cons hu) (hcl i c _ hc hi ?_ (by omega))
    simp at hn
    omega
/-! how many states at most -/
def wt (n : Nat) : Nat → Nat
  | 0 => 0
  | r + 1 => n * (wt n r + 1)
def left (ns : List Int) : Nat := ns.sum.toNat
theorem dec1_sum : ∀ {ns : List Int} {i : Nat} {n : Int}, ns[i]? = some n → (dec1 ns i).sum = ns.sum - 1 := fun {ns i n} h => by
  have key : ∀ (ns : List Int) (k : Nat), ((ns.zipIdx k).map fun p => p.1 - if p.2 = i then 1 else 0).sum = ns.sum - if k ≤ i ∧ i < k + ns.length then 1 else 0 := fun ns => by
    induction ns with
    | nil =>
      intro k
      simp only [List.zipIdx_nil, List.map_nil, List.sum_nil, List.length_nil, Nat.add_zero]
      rw [if_neg (by omega)]; rfl
    | cons m ms ih =>
      intro k
      rw [List.zipIdx_cons, List.map_cons, List.sum_cons, List.sum_cons, ih (k + 1), List.length_cons]
      dsimp only
      by_cases a : k = i
      · subst a
        rw [if_pos rfl, if_neg (by omega), if_pos (by omega)]; omega
      · rw [if_neg a]
        by_cases b : k + 1 ≤ i ∧ i < k + 1 + ms.length
        · rw [if_pos b, if_pos (by omega)]; omega
        · rw [if_neg b, if_neg (by omega)]; omega
  have := key ns 0
  have hi := (List.getElem?_eq_some_iff.mp h).1
  rw [if_pos (by omega)] at this
  exact this
theorem left_dec {ns : List Int} {i : Nat} {n : Int} (h : ns[i]? = some n) (hn : 0 < n) (hs : 0 < ns.sum) : left ns = left (dec1 ns i) + 1 := by
  unfold left
  rw [dec1_sum h]
  omega
theorem dec1_nn {ns : List Int} {i : Nat} {n : Int} (h : ns[i]? = some n) (hn : 0 < n) (hs : ∀ m ∈ ns, 0 ≤ m) : ∀ m ∈ dec1 ns i, 0 ≤ m := fun m hm => by
  obtain ⟨j, hj⟩ := List.getElem?_of_mem hm
  rw [dec1_get] at hj
  cases e : ns[j]? with
  | none => rw [e] at hj; cases hj
  | some k =>
    rw [e] at hj
    have hj : k - (if j = i then 1 else 0) = m := by simpa using hj
    have := hs k (List.mem_of_getElem? e)
    by_cases c : j = i
    · subst c; rw [h] at e; cases e; rw [if_pos rfl] at hj; omega
    · rw [if_neg c] at hj; omega
theorem sum_pos {ns : List Int} {n : Int} (h : n ∈ ns) (hn : 0 < n) (hs : ∀ m ∈ ns, 0 ≤ m) : 0 < ns.sum := by
  induction ns with
  | nil => cases h
  | cons m ms ih =>
    rw [List.sum_cons]
    have nn : 0 ≤ ms.sum := by
      clear ih h
      induction ms with
      | nil => exact Int.le_refl 0
      | cons k ks ih2 =>
        rw [List.sum_cons]
        have a := hs k (List.mem_cons_of_mem _ List.mem_cons_self)
        have b := ih2 fun z hz => hs z (by rcases List.mem_cons.mp hz with e | e; exact e ▸ List.mem_cons_self; exact List.mem_cons_of_mem _ (List.mem_cons_of_mem _ e))
        omega
    rcases List.mem_cons.mp h with e | e
    · subst e; omega
    · have := ih e fun z hz => hs z (List.mem_cons_of_mem _ hz)
      have := hs m List.mem_cons_self
      omega
/-! what stands at the turns -/
abbrev Stt := Int × List Int
def wsum (n : Nat) (l : List Stt) : Nat := (l.map fun s => wt n (left s.2)).sum
structure Good (P : Int) (cs : List Cut) (e : Int) (s : Stt) : Prop where
  len : s.2.length = cs.length
  nn : ∀ m ∈ s.2, 0 ≤ m
  x0 : 0 ≤ s.1
  le : s.1 ≤ e
  snd : Can P cs e s.1 s.2 → Lay P cs e
/-- s has all its next ones among the known -/
def Closed (P : Int) (cs : List Cut) (e : Int) (m : Nat) (ks : List Stt) (s : Stt) : Prop := (∃ n ∈ s.2, 0 < n) ∧ ∀ (i : Nat) (c : Cut) (n : Int), i < m → cs[i]? = some c → s.2[i]? = some n → 0 < n → nxt P s.1 c.phase + c.long ≤ e → (nxt P s.1 c.phase + c.long, dec1 s.2 i) ∈ ks
theorem Good.child {P e : Int} {cs : List Cut} {s : Stt} {i : Nat} {c : Cut} {n : Int} (ok : CW P cs) (g : Good P cs e s) (hc : cs[i]? = some c) (hn : s.2[i]? = some n) (h0 : 0 < n) (hl : nxt P s.1 c.phase + c.long ≤ e) : Good P cs e (nxt P s.1 c.phase + c.long, dec1 s.2 i) := by
  obtain ⟨h1, h2, h3, h4⟩ := ok.ok c (List.mem_of_getElem? hc)
  have := nxt_ge (x := s.1) (ph := c.phase) ok.p1
  have := g.x0
  exact ⟨by rw [dec1_len]; exact g.len, dec1_nn hn h0 g.nn, by show 0 ≤ nxt P s.1 c.phase + c.long; omega, hl, fun h => g.snd (can_back ok.p1 hc h2 h3 h)⟩
theorem none_left {P e : Int} {cs : List Cut} {ks : List Stt} (ok : CW P cs) (e0 : 0 ≤ e) (hk : ∀ s ∈ ks, Good P cs e s ∧ Closed P cs e cs.length ks s) (h0 : (0, cs.map Cut.times) ∈ ks) : ¬ Lay P cs e := fun h => by
  obtain ⟨r, hr, hu⟩ := lay_can.mp h
  refine closed_no ok (fun x ns => (x, ns) ∈ ks) (fun x ns hs => ?_) hr hu h0
  obtain ⟨g, c1, c2⟩ := hk _ hs
  exact ⟨c1, g.len, fun i c n a b d f => c2 i c n (List.getElem?_eq_some_iff.mp a).1 a b d f⟩
structure Head (P : Int) (cs : List Cut) (e : Int) (B m : Nat) (ln ks : List Stt) : Prop where
  sub : ∀ s ∈ ln, s ∈ ks
  good : ∀ s ∈ ks, Good P cs e s
  cl : ∀ s ∈ ks, s ∈ ln ∨ Closed P cs e cs.length ks s
  z : (0, cs.map Cut.times) ∈ ks
  b : ks.length + wsum cs.length ln ≤ B
  ll : ln.length ≤ ks.length
  m : wsum cs.length ln + ln.length ≤ m
structure Turn (P : Int) (cs : List Cut) (e : Int) (B m : Nat) (h : Stt) (j : Nat) (ln ks : List Stt) : Prop where
  sub : ∀ s ∈ ln, s ∈ ks
  good : ∀ s ∈ ks, Good P cs e s
  cl : ∀ s ∈ ks, s ∈ ln ∨ s = h ∨ Closed P cs e cs.length ks s
  here : Closed P cs e j ks h
  hg : Good P cs e h
  z : (0, cs.map Cut.times) ∈ ks
  b : ks.length + wsum cs.length ln + (cs.length - j) * (wt cs.length (left h.2 - 1) + 1) ≤ B
  ll : ln.length ≤ ks.length
  m : wsum cs.length ln + ln.length + (cs.length - j) * (wt cs.length (left h.2 - 1) + 1) < m
theorem Closed.up {P : Int} {cs : List Cut} {e : Int} {m : Nat} {ks ks' : List Stt} {s : Stt} (h : ∀ x ∈ ks, x ∈ ks') (c : Closed P cs e m ks s) : Closed P cs e m ks' s := ⟨c.1, fun i d n a b f g k => h _ (c.2 i d n a b f g k)⟩
theorem wsum_snoc (n : Nat) (l : List Stt) (s : Stt) : wsum n (l ++ [s]) = wsum n l + wt n (left s.2) := by unfold wsum; rw [List.map_append, List.sum_append]; simp
theorem head_start {P e : Int} {cs : List Cut} (ok : CW P cs) (ht : ∀ c ∈ cs, 0 ≤ c.times) (e0 : 0 ≤ e) : Head P cs e (1 + wt cs.length (left (cs.map Cut.times))) (wt cs.length (left (cs.map Cut.times)) + 1) [(0, cs.map Cut.times)] [(0, cs.map Cut.times)] :=
  ⟨fun s h => h, fun s h => by
    rw [List.mem_singleton.mp h]
    exact ⟨List.length_map _, fun m hm => by obtain ⟨c, hc, rfl⟩ := List.mem_map.mp hm; exact ht c hc, Int.le_refl 0, e0, fun z => lay_can.mpr z⟩, fun s h => .inl h, List.mem_singleton.mpr rfl, by simp [wsum], Nat.le_refl _, by simp [wsum]⟩
theorem Head.none {P e : Int} {cs : List Cut} {B m : Nat} {ks : List Stt} (H : Head P cs e B m [] ks) (ok : CW P cs) (e0 : 0 ≤ e) : ¬ Lay P cs e :=
  none_left ok e0 (fun s hs => ⟨H.good s hs, (H.cl s hs).elim (fun z => by cases z) id⟩) H.z
theorem Head.top {P e : Int} {cs : List Cut} {B m : Nat} {ln ks : List Stt} {h : Stt} (H : Head P cs e B m (ln ++ [h]) ks) : Good P cs e h := H.good h (H.sub h (List.mem_append_right _ (List.mem_singleton.mpr rfl)))
theorem Head.done {P e : Int} {cs : List Cut} {B m : Nat} {ln ks : List Stt} {h : Stt} (H : Head P cs e B m (ln ++ [h]) ks) (hz : ∀ n ∈ h.2, ¬ 0 < n) : Lay P cs e :=
  H.top.snd (can_done H.top.le fun n hn => by have := hz n hn; have := H.top.nn n hn; omega)
theorem Head.turn {P e : Int} {cs : List Cut} {B m : Nat} {ln ks : List Stt} {h : Stt} (H : Head P cs e B m (ln ++ [h]) ks) (hp : ∃ n ∈ h.2, 0 < n) : Turn P cs e B m h 0 ln ks := by
  obtain ⟨n, hn, h0⟩ := hp
  have sp := sum_pos hn h0 H.top.nn
  obtain ⟨r, hr⟩ : ∃ r, left h.2 = r + 1 := ⟨left h.2 - 1, by unfold left; omega⟩
  have w := H.b
  have ms := H.m
  rw [wsum_snoc, hr] at w ms
  rw [List.length_append, List.length_singleton] at ms
  have e1 : wt cs.length (r + 1) = cs.length * (wt cs.length r + 1) := rfl
  rw [e1] at w ms
  have hl := H.ll
  rw [List.length_append, List.length_singleton] at hl
  refine ⟨fun s hs => H.sub s (List.mem_append_left _ hs), H.good, fun s hs => ?_, ⟨⟨n, hn, h0⟩, fun i c n a => by omega⟩, H.top, H.z, ?_, by omega, ?_⟩
  · rcases H.cl s hs with z | z
    · rcases List.mem_append.mp z with z | z
      · exact .inl z
      · exact .inr (.inl (List.mem_singleton.mp z))
    · exact .inr (.inr z)
  · rw [hr, Nat.add_sub_cancel, Nat.sub_zero]; omega
  · rw [hr, Nat.add_sub_cancel, Nat.sub_zero]; omega
theorem mul_drop {n j a : Nat} (h : j < n) : (n - j) * a = (n - (j + 1)) * a + a := by
  rw [show n - j = (n - (j + 1)) + 1 by omega, Nat.add_mul, Nat.one_mul]
theorem Turn.skip {P e : Int} {cs : List Cut} {B m j : Nat} {ln ks : List Stt} {h : Stt} (T : Turn P cs e B m h j ln ks) (hj : j < cs.length) (hk : ∀ (c : Cut) (n : Int), cs[j]? = some c → h.2[j]? = some n → 0 < n → nxt P h.1 c.phase + c.long ≤ e → (nxt P h.1 c.phase + c.long, dec1 h.2 j) ∈ ks) : Turn P cs e B m h (j + 1) ln ks := by
  have b := T.b
  have ms := T.m
  rw [mul_drop hj] at b ms
  refine ⟨T.sub, T.good, T.cl, ⟨T.here.1, fun i c n a b1 f g k => ?_⟩, T.hg, T.z, by omega, T.ll, by omega⟩
  by_cases e : i = j
  · subst e; exact hk c n b1 f g k
  · exact T.here.2 i c n (by omega) b1 f g k
theorem Turn.add {P e : Int} {cs : List Cut} {B m j : Nat} {ln ks : List Stt} {h : Stt} {c : Cut} {n : Int} (ok : CW P cs) (T : Turn P cs e B m h j ln ks) (hc : cs[j]? = some c) (hn : h.2[j]? = some n) (h0 : 0 < n) (hl : nxt P h.1 c.phase + c.long ≤ e) :
    Turn P cs e B m h (j + 1) (ln ++ [(nxt P h.1 c.phase + c.long, dec1 h.2 j)]) (ks ++ [(nxt P h.1 c.phase + c.long, dec1 h.2 j)]) := by
  have hj := (List.getElem?_eq_some_iff.mp hc).1
  have b := T.b
  have ms := T.m
  have sp := sum_pos (List.mem_of_getElem? hn) h0 T.hg.nn
  have ld := left_dec hn h0 sp
  rw [mul_drop hj] at b ms
  have up : ∀ x ∈ ks, x ∈ ks ++ [(nxt P h.1 c.phase + c.long, dec1 h.2 j)] := fun x hx => List.mem_append_left _ hx
  refine ⟨fun s hs => ?_, fun s hs => ?_, fun s hs => ?_, ⟨T.here.1, fun i c' n' a b1 f g k => ?_⟩, T.hg, up _ T.z, ?_, ?_, ?_⟩
  · rcases List.mem_append.mp hs with z | z
    · exact up _ (T.sub s z)
    · exact List.mem_append_right _ z
  · rcases List.mem_append.mp hs with z | z
    · exact T.good s z
    · rw [List.mem_singleton.mp z]; exact T.hg.child ok hc hn h0 hl
  · rcases List.mem_append.mp hs with z | z
    · rcases T.cl s z with z | z | z
      · exact .inl (List.mem_append_left _ z)
      · exact .inr (.inl z)
      · exact .inr (.inr (z.up up))
    · exact .inl (List.mem_append_right _ z)
  · by_cases e : i = j
    · subst e
      rw [hc] at b1; cases b1
      exact List.mem_append_right _ (List.mem_singleton.mpr rfl)
    · exact up _ (T.here.2 i c' n' (by omega) b1 f g k)
  · rw [wsum_snoc, List.length_append, List.length_singleton]
    dsimp only
    rw [show left (dec1 h.2 j) = left h.2 - 1 by omega]
    omega
  · rw [List.length_append, List.length_append, List.length_singleton]
    have := T.ll
    omega
  · rw [wsum_snoc, List.length_append, List.length_singleton]
    dsimp only
    rw [show left (dec1 h.2 j) = left h.2 - 1 by omega]
    omega
theorem Turn.end {P e : Int} {cs : List Cut} {B m : Nat} {ln ks : List Stt} {h : Stt} (T : Turn P cs e B m h cs.length ln ks) : ∃ m', m' < m ∧ Head P cs e B m' ln ks := by
  have b := T.b
  have ms := T.m
  rw [Nat.sub_self, Nat.zero_mul] at b ms
  refine ⟨wsum cs.length ln + ln.length, by omega, T.sub, T.good, fun s hs => ?_, T.z, by omega, T.ll, Nat.le_refl _⟩
  rcases T.cl s hs with z | z | z
  · exact .inl z
  · rw [z]; exact .inr T.here
  · exact .inr z
end K90


namespace K90
open PySem PySem.Spec PyProof.Rows L2 DL
variable {P : Program} {w : World} {K : PySem.W.Frag} {mg : Str → Option Value} {base : Heap} {a : Ad}
/-! ### picks -/
def fp_pick : FP := ⟨fun k ds Q => ∃ xs : List D, ds = [.lst xs] ∧ xs ≠ [] ∧ xs.length ≤ 100000 ∧ k ≤ 90000 ∧ ∀ x ∈ xs, Q x (k + 1), fun k ds P Q h ⟨xs, a, b, c, d, q⟩ => ⟨xs, a, b, c, d, fun x hx => h _ _ (q x hx)⟩⟩
theorem ok__law_pick (T : Tx P K mg a) : FnOk P w K mg base CX0 2 a.f__law_pick a.d__law_pick ["pen", "some"] (liftSpP K fp_pick) := by
  refine def_okP T.F__law_pick sc__law_pick (fun k ds Q h => ?_) fun cdv A outer s H E hr => ⟨_,
    (dss_one (ds_ret (de_ix (dv 1) (de_callP (ok__law_draw T) (hr.mono (by decide)) (by rfl) T.m__law_draw T.F__law_draw.kp T.b__law_draw (pv 0) (da_cons (dn_bi cg_len (by rfl) T.m_len (by decide +kernel) (da_cons (dv 1) da_nil)).de da_nil))))), ?_⟩
  · obtain ⟨xs, rfl, _⟩ := h; rfl
  · intro k ds Q h
    obtain ⟨xs, rfl, hne, hl, hk, q⟩ := h
    have hpos : 0 < xs.length := List.length_pos_iff.mpr hne
    refine ⟨_, rfl, rfl, by rfl, _, rfl, xs, _, rfl, .inl rfl, (xs.length : Int), rfl, by omega, by omega, by omega, fun v v0 v1 => ?_⟩
    have hv : v.toNat < xs.length := by omega
    exact ⟨xs, v, xs[v.toNat], .inl rfl, rfl, atI_at v0 (List.getElem?_eq_getElem hv), rfl, q _ (List.getElem_mem hv)⟩
end K90


namespace K90
open PySem PySem.Spec PyProof.Rows L2 DL
/-! ### how long the lane is at most, and at least -/
def seqOf : Nat → List Cut → List Nat
  | _, [] => []
  | k, c :: cs => List.replicate c.times.toNat k ++ seqOf (k + 1) cs
theorem seqOf_ge : ∀ {cs : List Cut} {k i : Nat}, i ∈ seqOf k cs → k ≤ i ∧ i < k + cs.length
  | [], _, _, h => by cases h
  | c :: cs, k, i, h => by
    rcases List.mem_append.mp h with h | h
    · have := (List.mem_replicate.mp h).2
      rw [List.length_cons]; omega
    · have := seqOf_ge h
      rw [List.length_cons]; omega
theorem seqOf_count : ∀ {cs : List Cut} (k j : Nat) {c : Cut}, (∀ c ∈ cs, 1 ≤ c.times) → cs[j]? = some c → (((seqOf k cs).countP fun y => decide (y = k + j) : Nat) : Int) = c.times
  | [], _, j, _, _, h => by simp at h
  | d :: cs, k, 0, c, ht, h => by
    have h : d = c := by simpa using h
    subst h
    unfold seqOf
    rw [List.countP_append, List.countP_replicate]
    have z : (seqOf (k + 1) cs).countP (fun y => decide (y = k + 0)) = 0 := by
      rw [List.countP_eq_zero]
      intro y hy
      have := (seqOf_ge hy).1
      simp; omega
    rw [z]
    have := ht d List.mem_cons_self
    simp
    omega
  | d :: cs, k, j + 1, c, ht, h => by
    have h : cs[j]? = some c := by simpa using h
    have ih := seqOf_count (k + 1) j (fun c hc => ht c (List.mem_cons_of_mem _ hc)) h
    unfold seqOf
    rw [List.countP_append, List.countP_replicate]
    have e : decide (k = k + (j + 1)) = false := decide_eq_false (by omega)
    rw [e]
    rw [show k + (j + 1) = k + 1 + j by omega]
    simp only [Bool.false_eq_true, if_false, Nat.zero_add]
    exact ih
theorem seqOf_sum (f : Nat → Int) (P : Int) : ∀ {cs : List Cut} (k : Nat), (∀ c ∈ cs, 1 ≤ c.times) → (∀ j c, cs[j]? = some c → f (k + j) = c.long + P) → ((seqOf k cs).map f).sum = (cs.map fun c => c.times * (c.long + P)).sum
  | [], _, _, _ => rfl
  | d :: cs, k, ht, hf => by
    unfold seqOf
    rw [List.map_append, List.sum_append, seqOf_sum f P (k + 1) (fun c hc => ht c (List.mem_cons_of_mem _ hc)) fun j c hj => by
      have := hf (j + 1) c (by simpa using hj)
      rw [show k + 1 + j = k + (j + 1) by omega]; exact this]
    rw [List.map_cons, List.sum_cons]
    congr 1
    rw [List.map_replicate]
    have e0 := hf 0 d rfl
    rw [Nat.add_zero] at e0
    rw [e0]
    have h1 := ht d List.mem_cons_self
    have key : ∀ (n : Nat) (v : Int), (List.replicate n v).sum = n * v := fun n v => by
      induction n with
      | zero => simp
      | succ n ih => rw [List.replicate_succ, List.sum_cons, ih]; rw [Int.natCast_succ, Int.add_mul]; omega
    rw [key, Int.toNat_of_nonneg (by omega)]
def gLay (P : Int) (cs : List Cut) : Int → List Nat → List (Int × Nat)
  | _, [] => []
  | x, i :: is => match cs[i]? with
    | none => []
    | some c => (nxt P x c.phase, i) :: gLay P cs (nxt P x c.phase + c.long) is
theorem nxt_lt {P x ph : Int} (p1 : 1 ≤ P) : nxt P x ph < x + P := by
  have := Int.emod_lt_of_pos (ph - x) (show 0 < P by omega)
  unfold nxt; omega
theorem gLay_rows {P : Int} {cs : List Cut} (ok : CW P cs) (f : Nat → Int) (hf : ∀ j c, cs[j]? = some c → f j = c.long + P) : ∀ (is : List Nat) (x e : Int), (∀ i ∈ is, i < cs.length) → x + (is.map f).sum ≤ e → Rows P cs x e (gLay P cs x is)
  | [], x, e, _, he => by
    have : x ≤ e := by simpa using he
    exact this
  | i :: is, x, e, hi, he => by
    have hl := hi i List.mem_cons_self
    have hc : cs[i]? = some cs[i] := List.getElem?_eq_getElem hl
    unfold gLay
    rw [hc]
    dsimp only
    obtain ⟨g1, g2, g3, g4⟩ := ok.ok _ (List.getElem_mem hl)
    rw [List.map_cons, List.sum_cons, hf i _ hc] at he
    have := nxt_lt (x := x) (ph := cs[i].phase) ok.p1
    exact ⟨cs[i], hc, nxt_ge ok.p1, nxt_mod ok.p1 (by assumption) (by assumption), gLay_rows ok f hf is _ e (fun j hj => hi j (List.mem_cons_of_mem _ hj)) (by omega)⟩
theorem gLay_count {P : Int} {cs : List Cut} (j : Nat) : ∀ (is : List Nat) (x : Int), (∀ i ∈ is, i < cs.length) → (gLay P cs x is).countP (fun y => decide (y.2 = j)) = is.countP fun y => decide (y = j)
  | [], _, _ => rfl
  | i :: is, x, hi => by
    have hl := hi i List.mem_cons_self
    have hc : cs[i]? = some cs[i] := List.getElem?_eq_getElem hl
    unfold gLay
    rw [hc]
    dsimp only
    rw [List.countP_cons, List.countP_cons, gLay_count j is _ fun k hk => hi k (List.mem_cons_of_mem _ hk)]
theorem lay_most {P : Int} {cs : List Cut} (ok : CW P cs) (ht : ∀ c ∈ cs, 1 ≤ c.times) : Lay P cs ((cs.map fun c => c.times * (c.long + P)).sum) := by
  have hix : ∀ i ∈ seqOf 0 cs, i < cs.length := fun i hi => by have := seqOf_ge hi; omega
  let f : Nat → Int := fun i => match cs[i]? with
    | none => 0
    | some c => c.long + P
  have hf : ∀ j c, cs[j]? = some c → f j = c.long + P := fun j c hj => by show (match cs[j]? with | none => 0 | some c => c.long + P) = _; rw [hj]
  refine ⟨gLay P cs 0 (seqOf 0 cs), gLay_rows ok f hf _ 0 _ hix ?_, fun i c hi => ?_⟩
  · rw [seqOf_sum f P 0 ht fun j c hj => by rw [Nat.zero_add]; exact hf j c hj]; omega
  · rw [gLay_count i _ _ hix]
    have := seqOf_count 0 i ht hi
    rw [Nat.zero_add] at this
    exact this
theorem least_most {P L : Int} {cs : List Cut} (ok : CW P cs) (ht : ∀ c ∈ cs, 1 ≤ c.times) (h : IsLeast P cs L) : L ≤ (cs.map fun c => c.times * (c.long + P)).sum := by
  refine h.le ok ?_ (lay_most ok ht)
  have : ∀ l : List Cut, (∀ c ∈ l, 0 ≤ c.times * (c.long + P)) → 0 ≤ (l.map fun c => c.times * (c.long + P)).sum := fun l => by
    induction l with
    | nil => intro _; exact Int.le_refl 0
    | cons c l ih =>
      intro h
      rw [List.map_cons, List.sum_cons]
      have := h c List.mem_cons_self
      have := ih fun d hd => h d (List.mem_cons_of_mem _ hd)
      omega
  refine this cs fun c hc => ?_
  obtain ⟨g1, g2, g3, g4⟩ := ok.ok c hc
  have p1 := ok.p1
  have := ht c hc
  exact Int.mul_nonneg (by omega) (by omega)
theorem least_few {P L : Int} {cs : List Cut} (ok : CW P cs) (h : IsLeast P cs L) : (cs.map fun c => c.times * c.long).sum ≤ L := by
  have h1 := sum_wait (e := L) ok
  have h2 : 0 ≤ sN P.toNat (wait P cs L) := sN_nn fun q hq => h.2.1.1 q (by omega) (by omega)
  omega
end K90


namespace K90
open PySem PySem.Spec PyProof.Rows L2 DL
/-! ### a walk that goes along, and back where nothing is left (Hierholzer) -/
section
variable {src dst : Nat → Int}
/-- what stands on the line, its top first: where it is, and what led there -/
inductive LineOk (src dst : Nat → Int) : List (Int × Option Nat) → Prop
  | one : LineOk src dst [(0, none)]
  | more {p : Int} {c : Option Nat} {l : List (Int × Option Nat)} {e : Nat} : LineOk src dst ((p, c) :: l) → src e = p → LineOk src dst ((dst e, some e) :: (p, c) :: l)
def lineE (l : List (Int × Option Nat)) : List Nat := l.filterMap (·.2)
structure Hz (src dst : Nat → Int) (E : List Nat) (T p : Int) (c : Option Nat) (l : List (Int × Option Nat)) (ef R : List Nat) : Prop where
  line : LineOk src dst ((p, c) :: l)
  perm : (lineE ((p, c) :: l) ++ (ef ++ R)).Perm E
  tr : ∃ s, TrailE src dst s ef T ∧ ∀ x, deg src R x - deg dst R x = (if p = x then 1 else 0) - (if s = x then 1 else 0)
  ex : ∀ e ∈ ef, ∀ r ∈ R, src r ≠ dst e
theorem Hz.start {E : List Nat} {T : Int} (hb : ∀ x, deg src E x - deg dst E x = (if 0 = x then 1 else 0) - (if T = x then 1 else 0)) : Hz src dst E T 0 none [] [] E :=
  ⟨.one, List.Perm.refl _, ⟨T, rfl, hb⟩, fun e he => by cases he⟩
theorem Hz.push {E : List Nat} {T p : Int} {c : Option Nat} {l : List (Int × Option Nat)} {ef R : List Nat} (h : Hz src dst E T p c l ef R) {e : Nat} (he : e ∈ R) (hs : src e = p) : Hz src dst E T (dst e) (some e) ((p, c) :: l) ef (R.erase e) := by
  have pe := List.perm_cons_erase he
  obtain ⟨s, ht, hb⟩ := h.tr
  refine ⟨.more h.line hs, ?_, ⟨s, ht, fun x => ?_⟩, fun e' he' r hr => h.ex e' he' r (List.mem_of_mem_erase hr)⟩
  · have e1 : lineE ((dst e, some e) :: (p, c) :: l) = e :: lineE ((p, c) :: l) := rfl
    rw [e1]
    refine List.Perm.trans ?_ h.perm
    have : (e :: lineE ((p, c) :: l) ++ (ef ++ R.erase e)).Perm (lineE ((p, c) :: l) ++ (ef ++ (e :: R.erase e))) := by
      rw [List.cons_append]
      refine List.Perm.trans ?_ (List.Perm.append_left _ List.perm_middle.symm)
      exact List.perm_middle.symm
    exact this.trans (List.Perm.append_left _ (List.Perm.append_left _ pe.symm))
  · have h1 := hb x
    rw [deg_perm pe, deg_perm (f := dst) pe, deg_cons, deg_cons, hs] at h1
    omega
theorem Hz.top_s {E : List Nat} {T p : Int} {c : Option Nat} {l : List (Int × Option Nat)} {ef R : List Nat} (h : Hz src dst E T p c l ef R) (hn : ∀ r ∈ R, src r ≠ p) : TrailE src dst p ef T ∧ ∀ x, deg src R x = deg dst R x := by
  obtain ⟨s, ht, hb⟩ := h.tr
  have z : deg src R p = 0 := by
    have n := deg_nn src R p
    by_cases z : 0 < deg src R p
    · obtain ⟨e, he, ev⟩ := deg_pos.mp z
      exact absurd ev (hn e he)
    · omega
  have hp := hb p
  have n := deg_nn dst R p
  rw [if_pos rfl] at hp
  have e : s = p := by
    by_cases q : s = p
    · exact q
    · rw [if_neg q] at hp; omega
  subst e
  exact ⟨ht, fun x => by have := hb x; omega⟩
theorem Hz.pop {E : List Nat} {T p : Int} {c : Option Nat} {q : Int × Option Nat} {l : List (Int × Option Nat)} {ef R : List Nat} (h : Hz src dst E T p c (q :: l) ef R) (hn : ∀ r ∈ R, src r ≠ p) : ∃ e, c = some e ∧ Hz src dst E T q.1 q.2 l (e :: ef) R := by
  obtain ⟨ht, hb⟩ := h.top_s hn
  have hl := h.line
  cases hl with
  | @more p' c' _ e h1 h2 =>
    refine ⟨e, rfl, h1, ?_, ⟨p', ⟨h2, ht⟩, fun x => ?_⟩, fun e' he' r hr => ?_⟩
    · refine List.Perm.trans ?_ h.perm
      have e1 : lineE ((dst e, some e) :: (p', c') :: l) = e :: lineE ((p', c') :: l) := rfl
      rw [e1, List.cons_append, List.cons_append]
      exact List.perm_middle
    · have := hb x
      show _ = (if p' = x then (1 : Int) else 0) - _
      omega
    · rcases List.mem_cons.mp he' with z | z
      · rw [z]; exact hn r hr
      · exact h.ex e' z r hr
theorem TrailE.from' : ∀ {T : List Nat} {a b : Int}, TrailE src dst a T b → ∀ e ∈ T, src e = a ∨ ∃ e' ∈ T, dst e' = src e
  | [], _, _, _, e, he => by cases he
  | t :: T, a, b, ⟨h1, h2⟩, e, he => by
    rcases List.mem_cons.mp he with z | z
    · rw [z]; exact .inl h1
    · rcases TrailE.from' h2 e z with y | ⟨e', y1, y2⟩
      · exact .inr ⟨t, List.mem_cons_self, y.symm⟩
      · exact .inr ⟨e', List.mem_cons_of_mem _ y1, y2⟩
theorem Hz.done {E : List Nat} {T p : Int} {c : Option Nat} {ef R : List Nat} (h : Hz src dst E T p c [] ef R) (hn : ∀ r ∈ R, src r ≠ p) (hc : ∀ S : Int → Prop, S 0 → (∀ e ∈ E, S (src e) ↔ S (dst e)) → ∀ e ∈ E, S (src e)) : c = none ∧ TrailE src dst 0 ef T ∧ ef.Perm E := by
  obtain ⟨ht, hb⟩ := h.top_s hn
  have hl := h.line
  cases hl with
  | one =>
    have hp : (ef ++ R).Perm E := h.perm
    have no : ∀ u, (u = 0 ∨ ∃ e ∈ ef, dst e = u) → ∀ r ∈ R, src r ≠ u ∧ dst r ≠ u := fun u hu r hr => by
      have h1 : ∀ r ∈ R, src r ≠ u := fun r hr => by
        rcases hu with rfl | ⟨e, he, rfl⟩
        · exact hn r hr
        · exact h.ex e he r hr
      refine ⟨h1 r hr, fun z => ?_⟩
      have hd : 0 < deg dst R u := deg_pos.mpr ⟨r, hr, z⟩
      rw [← hb u] at hd
      obtain ⟨e', he', z'⟩ := deg_pos.mp hd
      exact h1 e' he' z'
    have hcl := hc (fun u => u = 0 ∨ ∃ e ∈ ef, dst e = u) (.inl rfl) fun e he => by
      rcases List.mem_append.mp (hp.mem_iff.mpr he) with z | z
      · refine ⟨fun _ => .inr ⟨e, z, rfl⟩, fun _ => ?_⟩
        rcases ht.from' e z with y | y
        · exact .inl y
        · exact .inr y
      · exact ⟨fun y => absurd rfl (no _ y e z).1, fun y => absurd rfl (no _ y e z).2⟩
    have hR : R = [] := by
      cases R with
      | nil => rfl
      | cons r R => exact absurd rfl (no _ (hcl r (hp.mem_iff.mp (List.mem_append_right _ List.mem_cons_self))) r List.mem_cons_self).1
    subst hR
    rw [List.append_nil] at hp
    exact ⟨rfl, ht, hp⟩
theorem Hz.few {E : List Nat} {T p : Int} {c : Option Nat} {l : List (Int × Option Nat)} {ef R : List Nat} (h : Hz src dst E T p c l ef R) : l.length + ef.length + R.length = E.length := by
  have h1 := h.perm.length_eq
  rw [List.length_append, List.length_append] at h1
  have : ∀ {l : List (Int × Option Nat)} {p : Int} {c : Option Nat}, LineOk src dst ((p, c) :: l) → (lineE ((p, c) :: l)).length = l.length := fun {l} => by
    induction l with
    | nil => intro p c h; cases h; rfl
    | cons q l ih =>
      intro p c h
      cases h with
      | @more p' c' _ e h1 h2 =>
        have := ih h1
        have e1 : lineE ((dst e, some e) :: (p', c') :: l) = e :: lineE ((p', c') :: l) := rfl
        rw [e1, List.length_cons, this, List.length_cons]
  have h2 := this h.line
  omega
/-- what is left to go out of a phase, the next one first -/
structure RoOk (src : Nat → Int) (R : List Nat) (ro : Int → List Nat) : Prop where
  at_ : ∀ p, ∀ e ∈ ro p, src e = p
  all : ∀ r ∈ R, r ∈ ro (src r)
def updR (ro : Int → List Nat) (p : Int) (l : List Nat) : Int → List Nat := fun q => if q = p then l else ro q
theorem updR_at {ro : Int → List Nat} {p : Int} {l : List Nat} : updR ro p l p = l := if_pos rfl
theorem updR_ne {ro : Int → List Nat} {p q : Int} {l : List Nat} (h : q ≠ p) : updR ro p l q = ro q := if_neg h
theorem RoOk.drop {R : List Nat} {ro : Int → List Nat} (h : RoOk src R ro) {p : Int} {e : Nat} {l : List Nat} (hp : ro p = e :: l) (he : e ∉ R) : RoOk src R (updR ro p l) := by
  refine ⟨fun q x hx => ?_, fun r hr => ?_⟩
  · by_cases z : q = p
    · subst z; rw [updR_at] at hx; exact h.at_ q x (by rw [hp]; exact List.mem_cons_of_mem _ hx)
    · rw [updR_ne z] at hx; exact h.at_ q x hx
  · have := h.all r hr
    by_cases z : src r = p
    · rw [z, hp] at this
      rw [z, updR_at]
      rcases List.mem_cons.mp this with y | y
      · rw [y] at hr; exact absurd hr he
      · exact y
    · rw [updR_ne z]; exact this
theorem RoOk.erase {R : List Nat} {ro : Int → List Nat} (h : RoOk src R ro) (e : Nat) : RoOk src (R.erase e) ro := ⟨h.at_, fun r hr => h.all r (List.mem_of_mem_erase hr)⟩
theorem RoOk.none {R : List Nat} {ro : Int → List Nat} (h : RoOk src R ro) {p : Int} (hp : ro p = []) : ∀ r ∈ R, src r ≠ p := fun r hr z => by
  have := h.all r hr
  rw [z, hp] at this
  cases this
/-- how often each is left -/
def LeftOk (n : Nat) (R : List Nat) (left : List Int) : Prop := left.length = n ∧ (∀ r ∈ R, r < n) ∧ ∀ (i : Nat) (x : Int), left[i]? = some x → x = (R.count i : Nat)
theorem LeftOk.erase {n : Nat} {R : List Nat} {left : List Int} (h : LeftOk n R left) {e : Nat} {x : Int} (he : e ∈ R) (hx : left[e]? = some x) : LeftOk n (R.erase e) (left.set e (x - 1)) := by
  obtain ⟨h1, h2, h3⟩ := h
  refine ⟨by rw [List.length_set]; exact h1, fun r hr => h2 r (List.mem_of_mem_erase hr), fun i y hy => ?_⟩
  have hi := (List.getElem?_eq_some_iff.mp hx).1
  by_cases z : e = i
  · subst z
    rw [List.getElem?_set_self hi] at hy
    have hy : x - 1 = y := Option.some.inj hy
    have h4 := h3 e x hx
    have h5 : 0 < R.count e := List.count_pos_iff.mpr he
    rw [← hy, List.count_erase_self, h4]
    omega
  · rw [List.getElem?_set_ne z] at hy
    rw [List.count_erase_of_ne (fun y => z y.symm)]
    exact h3 i y hy
theorem LeftOk.pos {n : Nat} {R : List Nat} {left : List Int} (h : LeftOk n R left) {e : Nat} {x : Int} (hx : left[e]? = some x) : 0 < x ↔ e ∈ R := by
  rw [h.2.2 e x hx, ← List.count_pos_iff]
  omega
end
end K90


namespace K90
open PySem PySem.Spec PyProof.Rows L2 DL
/-! ### orders from walks along all links -/
theorem all_cut {P e : Int} {cs : List Cut} {i : Nat} {c : Cut} (hm : Eg.cut i c ∈ allEg P cs e) : cs[i]? = some c := by
  unfold allEg at hm
  rcases List.mem_append.mp hm with z | z
  · obtain ⟨p, hp, z⟩ := List.mem_flatMap.mp z
    obtain ⟨c', i'⟩ := p
    have z := (List.mem_replicate.mp z).2
    cases z
    rw [List.mem_zipIdx_iff_getElem?] at hp
    exact hp
  · obtain ⟨q, hq, z⟩ := List.mem_flatMap.mp z
    have z := (List.mem_replicate.mp z).2
    cases z
theorem all_wt {P e : Int} {cs : List Cut} {q : Int} (hm : Eg.wt q ∈ allEg P cs e) : Fr P cs e q := by
  unfold allEg at hm
  rcases List.mem_append.mp hm with z | z
  · obtain ⟨p, hp, z⟩ := List.mem_flatMap.mp z
    have z := (List.mem_replicate.mp z).2
    cases z
  · obtain ⟨q', hq, z⟩ := List.mem_flatMap.mp z
    obtain ⟨z1, z2⟩ := List.mem_replicate.mp z
    cases z2
    obtain ⟨y, y0, y1, ey⟩ := rng_mem.mp hq
    have ey : q = y := ey
    subst ey
    exact ⟨y0, y1, by omega⟩
theorem all_conn {P e : Int} {cs : List Cut} (ok : CW P cs) (h : Let P cs e) (S : Int → Prop) (h0 : S 0) (hS : ∀ g ∈ allEg P cs e, S g.src ↔ S (g.dst P)) : ∀ g ∈ allEg P cs e, S g.src := fun g hg => by
  obtain ⟨hn, hh⟩ := let_iff.mp h
  have ed : Ed P cs (Fr P cs e) g.src (g.dst P) := by
    cases g with
    | cut i c => exact .inl ⟨c, List.mem_of_getElem? (all_cut hg), rfl, rfl⟩
    | wt q => exact .inr ⟨all_wt hg, rfl⟩
  have back : ∀ x y, Ed P cs (Fr P cs e) x y → ∃ g ∈ allEg P cs e, g.src = x ∧ g.dst P = y := fun x y r => by
    unfold allEg
    rcases r with ⟨c, hc, rfl, rfl⟩ | ⟨⟨x0, x1, x2⟩, rfl⟩
    · obtain ⟨i, hi⟩ := List.getElem?_of_mem hc
      refine ⟨.cut i c, List.mem_append_left _ (List.mem_flatMap.mpr ⟨(c, i), List.mem_zipIdx_iff_getElem?.mpr hi, List.mem_replicate.mpr ⟨?_, rfl⟩⟩), rfl, rfl⟩
      have := (ok.ok c hc).2.2.2
      show c.times.toNat ≠ 0
      omega
    · exact ⟨.wt x, List.mem_append_right _ (List.mem_flatMap.mpr ⟨x, rng_mem.mpr ⟨x, x0, x1, rfl⟩, List.mem_replicate.mpr ⟨by omega, rfl⟩⟩), rfl, rfl⟩
  refine hh _ _ ed S h0 fun x y r => ?_
  obtain ⟨g', hg', rfl, rfl⟩ := back x y r
  exact hS g' hg'
def isCutOf (i : Nat) : Eg → Bool
  | .cut j _ => decide (j = i)
  | .wt _ => false
theorem walk_countI (i : Nat) (T : List Eg) (x : Int) : (walkRows x T).countP (fun y => decide (y.2 = i)) = T.countP (isCutOf i) := (walk_count i T x).trans (by congr 1)
/-- the rows of a walk along all -/
theorem trail_rows {P e : Int} {cs : List Cut} {T : List Eg} (ok : CW P cs) (e0 : 0 ≤ e) (hn : ∀ q, 0 ≤ q → q < P → 0 ≤ wait P cs e q) (hT : TrailE Eg.src (Eg.dst P) 0 T (e % P)) (hp : T.Perm (allEg P cs e)) : Rows P cs 0 e (walkRows 0 T) ∧ Uses cs (walkRows 0 T) := by
  have p1 := ok.p1
  have hT0 : TrailE Eg.src (Eg.dst P) ((0 : Int) % P) T (e % P) := by rw [Int.zero_emod]; exact hT
  have hr := walk_rows p1 (cs := cs) hT0 fun i c hm => all_cut (hp.mem_iff.mp hm)
  have hu : Uses cs (walkRows 0 T) := fun i c hi => by
    rw [walk_countI, hp.countP_eq]
    have hcm := List.mem_of_getElem? hi
    have ht := (ok.ok c hcm).2.2.2
    unfold allEg
    rw [List.countP_append]
    have z2 : ((rng P id).flatMap fun q => List.replicate (wait P cs e q).toNat (Eg.wt q)).countP (isCutOf i) = 0 := by
      rw [List.countP_eq_zero]
      intro g hg
      obtain ⟨q', hq, z⟩ := List.mem_flatMap.mp hg
      rw [(List.mem_replicate.mp z).2]
      simp [isCutOf]
    rw [z2]
    have z1 : ∀ (l : List Cut) (k : Nat), ((l.zipIdx k).flatMap fun p => List.replicate p.1.times.toNat (Eg.cut p.2 p.1)).countP (isCutOf i) = if k ≤ i then (match l[i - k]? with | some c => c.times.toNat | none => 0) else 0 := fun l => by
      induction l with
      | nil => intro k; simp
      | cons d l ih =>
        intro k
        rw [List.zipIdx_cons, List.flatMap_cons, List.countP_append, ih (k + 1), List.countP_replicate]
        by_cases hk : k = i
        · subst hk
          rw [if_neg (show ¬ k + 1 ≤ k by omega), if_pos (Nat.le_refl _), Nat.sub_self]
          simp [isCutOf]
        · have e0' : (if isCutOf i (Eg.cut (d, k).2 (d, k).1) = true then (d, k).1.times.toNat else 0) = 0 := if_neg (by simp [hk, isCutOf])
          rw [e0', Nat.zero_add]
          by_cases hle : k ≤ i
          · have e1 : i - k = (i - (k + 1)) + 1 := by omega
            rw [if_pos (show k + 1 ≤ i by omega), if_pos hle, e1, List.getElem?_cons_succ]
          · rw [if_neg (show ¬ k + 1 ≤ i by omega), if_neg hle]
    rw [z1 cs 0, if_pos (Nat.zero_le _), Nat.sub_zero, hi]
    show ((c.times.toNat + 0 : Nat) : Int) = c.times
    omega
  have lsum : walkLen T = walkLen (allEg P cs e) := perm_sumI (hp.map _)
  rw [lsum, len_all ok e0 hn, Int.zero_add] at hr
  exact ⟨hr, hu⟩
/-! links by their numbers -/
def egOf (cs : List Cut) (i : Nat) : Eg := match cs[i]? with
  | some c => .cut i c
  | none => .wt ((i - cs.length : Nat) : Int)
def ixE (P : Int) (cs : List Cut) (e : Int) : List Nat := (cs.zipIdx.flatMap fun p => List.replicate p.1.times.toNat p.2) ++ ((List.range P.toNat).flatMap fun n : Nat => List.replicate (wait P cs e (n : Int)).toNat (cs.length + n))
theorem map_flat {α β γ : Type} (f : β → γ) (g : α → List β) : ∀ l : List α, (l.flatMap g).map f = l.flatMap fun x => (g x).map f
  | [] => rfl
  | x :: l => by rw [List.flatMap_cons, List.map_append, map_flat f g l, List.flatMap_cons]
theorem flat_congr {α β : Type} {f g : α → List β} : ∀ {l : List α}, (∀ x ∈ l, f x = g x) → l.flatMap f = l.flatMap g
  | [], _ => rfl
  | x :: l, h => by rw [List.flatMap_cons, List.flatMap_cons, h x List.mem_cons_self, flat_congr fun y hy => h y (List.mem_cons_of_mem x hy)]
theorem ixE_map (P : Int) (cs : List Cut) (e : Int) : (ixE P cs e).map (egOf cs) = allEg P cs e := by
  unfold ixE allEg
  rw [List.map_append, map_flat, map_flat]
  congr 1
  · refine flat_congr fun p hp => ?_
    obtain ⟨c, i⟩ := p
    rw [List.mem_zipIdx_iff_getElem?] at hp
    rw [List.map_replicate]
    have : egOf cs i = .cut i c := by unfold egOf; rw [hp]
    rw [this]
  · unfold rng
    rw [List.flatMap_map]
    refine flat_congr fun n hn => ?_
    rw [List.map_replicate]
    have : egOf cs (cs.length + n) = .wt (n : Int) := by
      unfold egOf
      rw [List.getElem?_eq_none (by omega)]
      show Eg.wt ((cs.length + n - cs.length : Nat) : Int) = _
      rw [Nat.add_sub_cancel_left]
    rw [this]
    rfl
theorem deg_map {ε κ : Type} (f : ε → Int) (g : κ → ε) (x : Int) : ∀ l : List κ, deg f (l.map g) x = deg (fun y => f (g y)) l x
  | [] => rfl
  | y :: l => by rw [List.map_cons, deg_cons, deg_cons, deg_map f g x l]
theorem trail_map {ε κ : Type} {src dst : ε → Int} {g : κ → ε} : ∀ {T : List κ} {a b : Int}, TrailE (fun y => src (g y)) (fun y => dst (g y)) a T b → TrailE src dst a (T.map g) b
  | [], _, _, h => h
  | _ :: _, _, _, ⟨h1, h2⟩ => ⟨h1, trail_map h2⟩
def isrc (cs : List Cut) (i : Nat) : Int := (egOf cs i).src
def idst (P : Int) (cs : List Cut) (i : Nat) : Int := (egOf cs i).dst P
theorem ix_bal {P e : Int} {cs : List Cut} (ok : CW P cs) (hn : ∀ q, 0 ≤ q → q < P → 0 ≤ wait P cs e q) (x : Int) : deg (isrc cs) (ixE P cs e) x - deg (idst P cs) (ixE P cs e) x = (if 0 = x then 1 else 0) - if e % P = x then 1 else 0 := by
  have h := bal_all ok hn x
  rw [← ixE_map, deg_map, deg_map] at h
  exact h
theorem ix_conn {P e : Int} {cs : List Cut} (ok : CW P cs) (h : Let P cs e) (S : Int → Prop) (h0 : S 0) (hS : ∀ i ∈ ixE P cs e, S (isrc cs i) ↔ S (idst P cs i)) : ∀ i ∈ ixE P cs e, S (isrc cs i) := fun i hi => by
  refine all_conn ok h S h0 (fun g hg => ?_) (egOf cs i) ?_
  · rw [← ixE_map] at hg
    obtain ⟨j, hj, rfl⟩ := List.mem_map.mp hg
    exact hS j hj
  · rw [← ixE_map]
    exact List.mem_map_of_mem hi
theorem ix_rows {P e : Int} {cs : List Cut} {w : List Nat} (ok : CW P cs) (e0 : 0 ≤ e) (h : Let P cs e) (hT : TrailE (isrc cs) (idst P cs) 0 w (e % P)) (hp : w.Perm (ixE P cs e)) : Rows P cs 0 e (walkRows 0 (w.map (egOf cs))) ∧ Uses cs (walkRows 0 (w.map (egOf cs))) := by
  refine trail_rows ok e0 (let_iff.mp h).1 (trail_map hT) ?_
  rw [← ixE_map]
  exact hp.map _
/-- how often each is to be gone -/
def ixTimes (P : Int) (cs : List Cut) (e : Int) : List Int := cs.map Cut.times ++ rng P (wait P cs e)
theorem count_rep (n i j : Nat) : (List.replicate n i).count j = if i = j then n else 0 := by
  rw [List.count_replicate]
  by_cases h : i = j <;> simp [h]
theorem count_cuts : ∀ (l : List Cut) (k i : Nat), ((l.zipIdx k).flatMap fun p => List.replicate p.1.times.toNat p.2).count i = if k ≤ i then (match l[i - k]? with | some c => c.times.toNat | none => 0) else 0
  | [], k, i => by simp
  | d :: l, k, i => by
    rw [List.zipIdx_cons, List.flatMap_cons, List.count_append, count_cuts l (k + 1) i, count_rep]
    by_cases hk : k = i
    · subst hk
      rw [if_neg (show ¬ k + 1 ≤ k by omega), if_pos (Nat.le_refl _), Nat.sub_self]
      simp
    · rw [if_neg hk, Nat.zero_add]
      by_cases hle : k ≤ i
      · have e1 : i - k = (i - (k + 1)) + 1 := by omega
        rw [if_pos (show k + 1 ≤ i by omega), if_pos hle, e1, List.getElem?_cons_succ]
      · rw [if_neg (show ¬ k + 1 ≤ i by omega), if_neg hle]
theorem count_waits (f : Nat → Nat) (m i : Nat) : ∀ n : Nat, ((List.range n).flatMap fun n : Nat => List.replicate (f n) (m + n)).count i = if m ≤ i ∧ i < m + n then f (i - m) else 0
  | 0 => by simp; omega
  | n + 1 => by
    rw [List.range_succ, List.flatMap_append, List.count_append, count_waits f m i n]
    simp only [List.flatMap_cons, List.flatMap_nil, List.append_nil]
    rw [count_rep]
    by_cases h : m + n = i
    · rw [if_neg (by omega), if_pos h, if_pos (by omega), Nat.zero_add]
      congr 1; omega
    · rw [if_neg h, Nat.add_zero]
      by_cases h2 : m ≤ i ∧ i < m + n
      · rw [if_pos h2, if_pos (by omega)]
      · rw [if_neg h2, if_neg (by omega)]
theorem ix_left {P e : Int} {cs : List Cut} (ok : CW P cs) (hn : ∀ q, 0 ≤ q → q < P → 0 ≤ wait P cs e q) : LeftOk (cs.length + P.toNat) (ixE P cs e) (ixTimes P cs e) := by
  refine ⟨by unfold ixTimes; rw [List.length_append, List.length_map, rng_len], fun r hr => ?_, fun i x hx => ?_⟩
  · unfold ixE at hr
    rcases List.mem_append.mp hr with z | z
    · obtain ⟨p, hp, z⟩ := List.mem_flatMap.mp z
      have z := (List.mem_replicate.mp z).2
      obtain ⟨c, i⟩ := p
      rw [List.mem_zipIdx_iff_getElem?] at hp
      have := (List.getElem?_eq_some_iff.mp hp).1
      have z : r = i := z
      omega
    · obtain ⟨n, hm, z⟩ := List.mem_flatMap.mp z
      have z := (List.mem_replicate.mp z).2
      have := List.mem_range.mp hm
      omega
  · unfold ixE
    rw [List.count_append, count_cuts, count_waits (fun n => (wait P cs e (n : Int)).toNat), if_pos (Nat.zero_le i), Nat.sub_zero]
    unfold ixTimes at hx
    by_cases hi : i < cs.length
    · rw [List.getElem?_append_left (by rw [List.length_map]; exact hi), List.getElem?_map, List.getElem?_eq_getElem hi] at hx
      have hx : cs[i].times = x := Option.some.inj hx
      rw [List.getElem?_eq_getElem hi, if_neg (by omega)]
      have := (ok.ok cs[i] (List.getElem_mem hi)).2.2.2
      show x = ((cs[i].times.toNat + 0 : Nat) : Int)
      omega
    · rw [List.getElem?_append_right (by rw [List.length_map]; omega), List.length_map] at hx
      have hlt := (List.getElem?_eq_some_iff.mp hx).1
      rw [rng_len] at hlt
      have ei : i - cs.length = ((i - cs.length : Nat) : Int).toNat := rfl
      rw [ei, rng_at (by omega) (by omega)] at hx
      have hx : wait P cs e ((i - cs.length : Nat) : Int) = x := Option.some.inj hx
      rw [List.getElem?_eq_none (by omega), if_pos (by omega)]
      have := hn ((i - cs.length : Nat) : Int) (by omega) (by omega)
      show x = ((0 + (wait P cs e ((i - cs.length : Nat) : Int)).toNat : Nat) : Int)
      omega
theorem walk_len_append (T U : List Eg) : walkLen (T ++ U) = walkLen T + walkLen U := by
  unfold walkLen
  rw [List.map_append, List.sum_append]
theorem walk_snoc (g : Eg) : ∀ (T : List Eg) (x : Int), walkRows x (T ++ [g]) = walkRows x T ++ (match g with | .cut i _ => [(x + walkLen T, i)] | .wt _ => [])
  | [], x => by
    cases g with
    | cut i c =>
      show [(x, i)] = [] ++ [(x + walkLen [], i)]
      have : walkLen [] = 0 := rfl
      rw [this, Int.add_zero]; rfl
    | wt q => rfl
  | .cut j d :: T, x => by
    show (x, j) :: walkRows (x + d.long) (T ++ [g]) = (x, j) :: walkRows (x + d.long) T ++ _
    rw [walk_snoc g T, List.cons_append]
    have e : walkLen (.cut j d :: T) = d.long + walkLen T := by unfold walkLen; rw [List.map_cons, List.sum_cons]; rfl
    rw [e, Int.add_assoc]
  | .wt q :: T, x => by
    show walkRows (x + 1) (T ++ [g]) = walkRows (x + 1) T ++ _
    rw [walk_snoc g T]
    have e : walkLen (.wt q :: T) = 1 + walkLen T := by unfold walkLen; rw [List.map_cons, List.sum_cons]; rfl
    rw [e, Int.add_assoc]
theorem walk_nn {T : List Eg} (h : ∀ g ∈ T, 1 ≤ g.len) : (T.length : Int) ≤ walkLen T := by
  induction T with
  | nil => exact Int.le_refl 0
  | cons g T ih =>
    have := ih fun x hx => h x (List.mem_cons_of_mem g hx)
    have := h g List.mem_cons_self
    unfold walkLen at *
    rw [List.map_cons, List.sum_cons, List.length_cons]
    omega
/-- how many links -/
theorem sum_rep_len {α β : Type} (f : α → Nat) (g : α → β) : ∀ l : List α, (l.flatMap fun x => List.replicate (f x) (g x)).length = (l.map f).sum
  | [] => rfl
  | x :: l => by rw [List.flatMap_cons, List.length_append, sum_rep_len f g l, List.length_replicate, List.map_cons, List.sum_cons]
theorem ix_len {P e : Int} {cs : List Cut} (ok : CW P cs) (hn : ∀ q, 0 ≤ q → q < P → 0 ≤ wait P cs e q) : ((ixE P cs e).length : Int) = (cs.map Cut.times).sum + (e - (cs.map fun c => c.times * c.long).sum) := by
  unfold ixE
  rw [List.length_append, sum_rep_len, sum_rep_len, Int.natCast_add]
  have s1 : (((cs.zipIdx.map fun p => p.1.times.toNat).sum : Nat) : Int) = (cs.map Cut.times).sum := by
    have : ∀ (l : List Cut) (k : Nat), (∀ c ∈ l, 1 ≤ c.times) → ((((l.zipIdx k).map fun p => p.1.times.toNat).sum : Nat) : Int) = (l.map Cut.times).sum := fun l => by
      induction l with
      | nil => intro k _; rfl
      | cons c l ih =>
        intro k h
        rw [List.zipIdx_cons, List.map_cons, List.sum_cons, List.map_cons, List.sum_cons, Int.natCast_add, ih (k + 1) fun y hy => h y (List.mem_cons_of_mem c hy)]
        have := h c List.mem_cons_self
        show ((c.times.toNat : Nat) : Int) + _ = _
        omega
    exact this cs 0 fun c hc => (ok.ok c hc).2.2.2
  have s2 : ((((List.range P.toNat).map fun n : Nat => (wait P cs e (n : Int)).toNat).sum : Nat) : Int) = sN P.toNat (wait P cs e) := by
    unfold sN
    have : ∀ l : List Nat, (∀ n ∈ l, 0 ≤ wait P cs e (n : Int)) → (((l.map fun n : Nat => (wait P cs e (n : Int)).toNat).sum : Nat) : Int) = (l.map fun n : Nat => wait P cs e (n : Int)).sum := fun l => by
      induction l with
      | nil => intro _; rfl
      | cons n l ih =>
        intro h
        rw [List.map_cons, List.sum_cons, List.map_cons, List.sum_cons, Int.natCast_add, ih fun y hy => h y (List.mem_cons_of_mem n hy)]
        have := h n List.mem_cons_self
        omega
    exact this _ fun n hm => hn _ (by omega) (by have := List.mem_range.mp hm; have := ok.p1; omega)
  have := sum_wait (e := e) ok
  rw [s1, s2]
  omega
theorem ix_few {P L : Int} {cs : List Cut} (ok : CW P cs) (h : IsLeast P cs L) : ((ixE P cs L).length : Int) ≤ (cs.map fun c => c.times * (P + 1)).sum := by
  have h1 := ix_len ok (let_iff.mp h.2.1).1
  have h2 := least_most ok (fun c hc => (ok.ok c hc).2.2.2) h
  have h3 : (cs.map fun c => c.times * (c.long + P)).sum + (cs.map Cut.times).sum = (cs.map fun c => c.times * c.long).sum + (cs.map fun c => c.times * (P + 1)).sum := by
    clear h1 h2 h ok
    induction cs with
    | nil => rfl
    | cons c cs ih =>
      rw [List.map_cons, List.map_cons, List.map_cons, List.map_cons, List.sum_cons, List.sum_cons, List.sum_cons, List.sum_cons]
      have e1 : c.times * (c.long + P) + c.times = c.times * c.long + c.times * (P + 1) := by rw [Int.mul_add, Int.mul_add, Int.mul_one]; omega
      omega
  omega
/-! where rows end -/
def rowEnd (cs : List Cut) : Int → List (Int × Nat) → Int
  | x, [] => x
  | _, (b, i) :: r => rowEnd cs (b + (match cs[i]? with | some c => c.long | none => 0)) r
theorem rows_end {P : Int} {cs : List Cut} : ∀ {r : List (Int × Nat)} {x e : Int}, Rows P cs x e r → Rows P cs x (rowEnd cs x r) r ∧ rowEnd cs x r ≤ e
  | [], x, e, h => ⟨Int.le_refl x, h⟩
  | (b, i) :: r, x, e, ⟨c, hc, h1, h2, h3⟩ => by
    obtain ⟨i1, i2⟩ := rows_end h3
    have e1 : rowEnd cs x ((b, i) :: r) = rowEnd cs (b + c.long) r := by unfold rowEnd; rw [hc]; cases r <;> rfl
    rw [e1]
    exact ⟨⟨c, hc, h1, h2, i1⟩, i2⟩
theorem least_end_at {P L : Int} {cs : List Cut} {r : List (Int × Nat)} (ok : CW P cs) (h : IsLeast P cs L) (hr : Rows P cs 0 L r) (hu : Uses cs r) : rowEnd cs 0 r = L := by
  obtain ⟨h1, h2⟩ := rows_end hr
  have h3 : 0 ≤ rowEnd cs 0 r := rows_le ok h1
  have h4 := (h.iff ok h3).mp (Lay.let ok ⟨r, h1, hu⟩)
  omega
end K90


namespace K90
open PySem PySem.Spec PyProof.Rows L2 DL
/-! ### the walk is one alone -/
def noLeft (left : List Int) (l : List Nat) : Prop := ∀ e ∈ l, ∀ x, left[e]? = some x → ¬ 0 < x
structure WSt where
  left : List Int
  ro : Int → List Nat
  line : List (Int × Option Nat)
  f : List (Option Nat)
inductive WStep (dst : Nat → Int) : WSt → WSt → Prop
  | back {left : List Int} {ro : Int → List Nat} {p : Int} {c : Option Nat} {l : List (Int × Option Nat)} {f : List (Option Nat)} : noLeft left (ro p) → WStep dst ⟨left, ro, (p, c) :: l, f⟩ ⟨left, updR ro p [], l, c :: f⟩
  | on {left : List Int} {ro : Int → List Nat} {p : Int} {c : Option Nat} {l : List (Int × Option Nat)} {f : List (Option Nat)} {pre r : List Nat} {e : Nat} {x : Int} : ro p = pre ++ e :: r → noLeft left pre → left[e]? = some x → 0 < x →
      WStep dst ⟨left, ro, (p, c) :: l, f⟩ ⟨left.set e (x - 1), updR ro p (e :: r), (dst e, some e) :: (p, c) :: l, f⟩
theorem first_one {left : List Int} : ∀ {pre pre' r r' : List Nat} {e e' : Nat} {x x' : Int}, pre ++ e :: r = pre' ++ e' :: r' → noLeft left pre → noLeft left pre' → left[e]? = some x → 0 < x → left[e']? = some x' → 0 < x' → e = e' ∧ r = r'
  | [], [], _, _, _, _, _, _, h, _, _, _, _, _, _ => by
    injection h with h1 h2
    exact ⟨h1, h2⟩
  | [], q :: pre', _, _, e, _, x, _, h, _, h2, hx, x0, _, _ => by
    injection h with h1 _
    subst h1
    exact absurd x0 (h2 e List.mem_cons_self x hx)
  | q :: pre, [], _, _, _, e', _, x', h, h1, _, _, _, hx, x0 => by
    injection h with h2 _
    subst h2
    exact absurd x0 (h1 q List.mem_cons_self x' hx)
  | q :: pre, q' :: pre', _, _, _, _, _, _, h, h1, h2, a, b, c, d => by
    injection h with _ h
    exact first_one h (fun e he => h1 e (List.mem_cons_of_mem q he)) (fun e he => h2 e (List.mem_cons_of_mem q' he)) a b c d
theorem WStep.det {dst : Nat → Int} {s a b : WSt} (h : WStep dst s a) (h' : WStep dst s b) : a = b := by
  cases h with
  | back h1 =>
    cases h' with
    | back h2 => rfl
    | on a1 a2 a3 a4 => exact absurd a4 (h1 _ (by rw [a1]; exact List.mem_append_right _ List.mem_cons_self) _ a3)
  | on b1 b2 b3 b4 =>
    cases h' with
    | back h2 => exact absurd b4 (h2 _ (by rw [b1]; exact List.mem_append_right _ List.mem_cons_self) _ b3)
    | on a1 a2 a3 a4 =>
      obtain ⟨rfl, rfl⟩ := first_one (b1.symm.trans a1) b2 a2 b3 b4 a3 a4
      rw [b3] at a3; cases a3
      rfl
inductive WRun (dst : Nat → Int) : WSt → List (Option Nat) → Prop
  | done {left : List Int} {ro : Int → List Nat} {f : List (Option Nat)} : WRun dst ⟨left, ro, [], f⟩ f
  | step {a b : WSt} {f : List (Option Nat)} : WStep dst a b → WRun dst b f → WRun dst a f
theorem WRun.det {dst : Nat → Int} {s : WSt} {f f' : List (Option Nat)} (h : WRun dst s f) (h' : WRun dst s f') : f = f' := by
  induction h with
  | done =>
    cases h' with
    | done => rfl
    | step h1 _ => cases h1
  | step h1 _ ih =>
    cases h' with
    | done => cases h1
    | step h2 h3 =>
      have := h1.det h2
      subst this
      exact ih h3
theorem map_some_inj : ∀ {w w' : List Nat}, w.map some = w'.map some → w = w'
  | [], [], _ => rfl
  | [], _ :: _, h => by cases h
  | _ :: _, [], h => by cases h
  | x :: w, y :: w', h => by
    rw [List.map_cons, List.map_cons] at h
    injection h with h1 h2
    injection h1 with h1
    rw [h1, map_some_inj h2]
theorem WRun.one {dst : Nat → Int} {s : WSt} {w w' : List Nat} (h : WRun dst s (none :: w.map some)) (h' : WRun dst s (none :: w'.map some)) : w = w' := by
  have := h.det h'
  injection this with _ h
  exact map_some_inj h
end K90


set_option pp.maxSteps 400
namespace K90
open PySem PySem.Spec PyProof.Rows L2 DL
variable {P : Program} {w : World} {K : PySem.W.Frag} {mg : Str → Option Value} {base : Heap} {a : Ad}
/-! ### Trail: the region of its own lists -/
structure TrA where
  x : Addr
  dx : Addr
  la : Addr
  lf : Addr
  ou : Addr
  oa : List Addr
structure TrA.Ok (t : TrA) : Prop where
  nd : t.oa.Nodup
  lf1 : t.lf ∉ t.oa
  la1 : t.la ≠ t.lf
  la2 : t.la ∉ t.oa
  ou1 : t.ou ≠ t.lf
  ou2 : t.ou ∉ t.oa
  x1 : t.x ≠ t.lf
  x2 : t.x ∉ t.oa
def LinksAt (H : Hp) (lvs : List V) (ls : List Link) : Prop := lvs.length = ls.length ∧ ∀ (i : Nat) l, ls[i]? = some l → ∃ t, lvs[i]? = some (.ref t) ∧ H t = some (.tup [.int l.a, .int l.b, .str l.w, .int l.n])
theorem LinksAt.le {H H' : Hp} {lvs : List V} {ls : List Link} {S : AS} (h : LinksAt H lvs ls) (l : LeA S H H') : LinksAt H' lvs ls := ⟨h.1, fun i k hk => by
  obtain ⟨t, h1, h2⟩ := h.2 i k hk
  refine ⟨t, h1, ?_⟩
  rcases l t _ h2 with z | ⟨_, z, _⟩
  · exact z
  · exact z.elim⟩
def outV (l : List Nat) : List V := l.reverse.map fun n : Nat => V.int (n : Int)
theorem atV {xs : List V} {i : Int} {v : V} (h0 : 0 ≤ i) (h : xs[i.toNat]? = some v) : atI xs i = some v := by
  unfold atI ixN
  have hl := (List.getElem?_eq_some_iff.mp h).1
  rw [if_pos h0, if_pos (by omega)]
  exact h
theorem ne_mem {b c : Addr} {l : List Addr} (hb : b ∉ l) (hc : c ∈ l) : b ≠ c := fun z => hb (z ▸ hc)
structure Rg (a : Ad) (t : TrA) (ls : List Link) (left : List Int) (ro : Int → List Nat) (H : Hp) : Prop where
  ins : H t.x = some (.ins a.C_Trail t.dx [("links", .ref t.la), ("left", .ref t.lf), ("out", .ref t.ou)])
  ls : ∃ lvs, H t.la = some (.lst lvs) ∧ LinksAt H lvs ls
  lf : H t.lf = some (.lst (left.map V.int))
  ou : H t.ou = some (.lst (t.oa.map V.ref))
  oi : ∀ (i : Nat) b, t.oa[i]? = some b → H b = some (.lst (outV (ro (i : Int))))
def TrA.B (t : TrA) : AS := fun b => b = t.lf ∨ b ∈ t.oa
/-- what is left of one link is told anew -/
theorem Rg.setLeft {t : TrA} {ls : List Link} {left left' : List Int} {ro : Int → List Nat} {H : Hp} (ok : t.Ok) (h : Rg a t ls left ro H) : Rg a t ls left' ro (upd H t.lf (.lst (left'.map V.int))) := by
  obtain ⟨lvs, h1, h2⟩ := h.ls
  have le : LeA (fun b => b = t.lf) H (upd H t.lf (.lst (left'.map V.int))) := LeA.put h.lf rfl trivial trivial
  exact ⟨by rw [upd_ne ok.x1]; exact h.ins, ⟨lvs, by rw [upd_ne ok.la1]; exact h1, h2.le le⟩, upd_same, by rw [upd_ne ok.ou1]; exact h.ou, fun i b hb => by
    rw [upd_ne (Ne.symm (ne_mem ok.lf1 (List.mem_of_getElem? hb)))]
    exact h.oi i b hb⟩
/-- .. the links out of a phase -/
theorem Rg.setOut {t : TrA} {ls : List Link} {left : List Int} {ro : Int → List Nat} {H : Hp} {p : Nat} {b : Addr} {l : List Nat} (ok : t.Ok) (h : Rg a t ls left ro H) (hb : t.oa[p]? = some b) : Rg a t ls left (updR ro (p : Int) l) (upd H b (.lst (outV l))) := by
  obtain ⟨lvs, h1, h2⟩ := h.ls
  have hm := List.mem_of_getElem? hb
  have le : LeA (fun c => c = b) H (upd H b (.lst (outV l))) := LeA.put (h.oi p b hb) rfl trivial trivial
  refine ⟨by rw [upd_ne (ne_mem ok.x2 hm)]; exact h.ins, ⟨lvs, by rw [upd_ne (ne_mem ok.la2 hm)]; exact h1, h2.le le⟩, by rw [upd_ne (ne_mem ok.lf1 hm)]; exact h.lf, by rw [upd_ne (ne_mem ok.ou2 hm)]; exact h.ou, fun i c hc => ?_⟩
  by_cases e : i = p
  · subst e
    rw [hb] at hc; cases hc
    rw [upd_same, updR_at]
  · have nc : c ≠ b := fun z => by
      subst z
      obtain ⟨i1, e1⟩ := List.getElem?_eq_some_iff.mp hb
      obtain ⟨i2, e2⟩ := List.getElem?_eq_some_iff.mp hc
      exact e ((List.getElem_inj ok.nd).mp (e2.trans e1.symm))
    rw [upd_ne nc, updR_ne (by omega)]
    exact h.oi i c hc
theorem Rg.same {t : TrA} {ls : List Link} {left : List Int} {ro : Int → List Nat} {H : Hp} {p : Int} (h : Rg a t ls left ro H) : Rg a t ls left (updR ro p (ro p)) H := by
  have e : updR ro p (ro p) = ro := funext fun q => by
    unfold updR
    split
    · next z => rw [z]
    · rfl
  rw [e]; exact h
def spNext (a : Ad) : Sp := fun vs H Q _ => ∃ (t : TrA) (ls : List Link) (left : List Int) (ro : Int → List Nat) (p : Int), vs = [.ref t.x, .int p] ∧ t.Ok ∧ Rg a t ls left ro H ∧ 0 ≤ p ∧ p < (t.oa.length : Int) ∧ (∀ e ∈ ro p, e < left.length) ∧
  (∀ H', LeA t.B H H' → Rg a t ls left (updR ro p []) H' → noLeft left (ro p) → Q .non H') ∧
  (∀ H' pre (e : Nat) l x, LeA t.B H H' → ro p = pre ++ e :: l → noLeft left pre → left[e]? = some x → 0 < x → Rg a t ls (left.set e (x - 1)) (updR ro p (e :: l)) H' → Q (.int (e : Int)) H')
theorem out_last {l : List Nat} {e : Nat} : atI (outV (e :: l)) (-1) = some (.int (e : Int)) := by
  have e : outV (e :: l) = outV l ++ [V.int (e : Int)] := by unfold outV; simp
  rw [e]
  unfold atI ixN
  rw [if_neg (by omega), List.length_append, List.length_singleton, if_pos (by omega)]
  have e2 : (-1 + (((outV l).length + 1 : Nat) : Int)).toNat = (outV l).length := by omega
  show (some _).bind _ = _
  rw [Option.bind_some, e2]
  simp
theorem ok_Trailnext_link (T : Tx P K mg a) : FnOk P w K mg base CX0 1 a.f_Trailnext_link a.d_Trailnext_link ["self", "phase"] (spNext a) := by
  refine T.F_Trailnext_link.ok sc_Trailnext_link (fun vs H Q E h => ?_) fun cdv A outer s H vs Q E hr h => ?_
  · obtain ⟨t, ls, left, ro, p, rfl, _⟩ := h; rfl
  · obtain ⟨t, ls, left, ro, p, rfl, ok, hR, p0, p1, hlt, q1, q2⟩ := h
    refine ⟨_, (pss_cons (ps_while PassesOwn.never (pt_truth (pe_ix ix_list (pe_fld (pv 0) rfl) (pv 1) (fun _ _ => rfl)) (by intro _; rfl))
      (pss_cons (ps_set (i := 2) sc_Trailnext_link.nd rfl (.inl rfl) (pe_ix ix_list (pe_ix ix_list (pe_fld (pv 0) rfl) (pv 1) (fun _ _ => rfl)) (pe_un un_neg pe_int) (fun _ _ => rfl)))
      (pss_cons (ps_if (pt_cmpR op_gt (pe_ix ix_list (pe_fld (pv 0) rfl) (pv 2) (fun _ _ => rfl)) pe_int (nomark _))
        (pss_cons (ps_asg (pe_op op_sub (pe_ix ix_list (pe_fld (pv 0) rfl) (pv 2) (fun _ _ => rfl)) pe_int) (pg_sub (pe_fld (pv 0) rfl) (pv 2) set_list (by intro _; rfl)) rfl rfl rfl)
        (pss_one (ps_ret (pv 2))))
        pss_nil)
      (pss_one (L2.ps_expr (pe_bm0 PySem.F.plainAttrs_list PySem.F.slot_list_pop PySem.F.type_list_pop mt_pop (pe_ix ix_list (pe_fld (pv 0) rfl) (pv 1) (fun _ _ => rfl)) rfl rfl) rfl)))))
      (pss_one (ps_ret pe_non))), ?_⟩
    obtain ⟨n, rfl⟩ : ∃ n : Nat, p = (n : Int) := ⟨p.toNat, by omega⟩
    have hn : n < t.oa.length := by omega
    obtain ⟨b, hb⟩ : ∃ b, t.oa[n]? = some b := ⟨_, List.getElem?_eq_getElem hn⟩
    have hbm := List.mem_of_getElem? hb
    have hbo : ∀ {z : List V}, z = t.oa.map V.ref → atI z (n : Int) = some (.ref b) := fun {z} e => by
      subst e
      exact atV (by omega) (by rw [show ((n : Int)).toNat = n from rfl, List.getElem?_map, hb]; rfl)
    refine ⟨fun m σ H' => ∃ (pre cur : List Nat) (z : Option V), σ = [some (.ref t.x), some (.int (n : Int)), z] ∧ m = cur.length ∧ ro (n : Int) = pre ++ cur ∧ noLeft left pre ∧ LeA t.B H H' ∧ Rg a t ls left (updR ro (n : Int) cur) H', ⟨(ro (n : Int)).length, [], ro (n : Int), none, rfl, rfl, rfl, (fun e he => by cases he), LeA.refl H, hR.same⟩, ?_⟩
    rintro m σ H' ⟨pre, cur, z, rfl, rfl, hro, hpre, hle, hR'⟩
    have hoi := hR'.oi n b hb
    rw [updR_at] at hoi
    have sq : SqL K H' b (outV cur) := .inl (.inl hoi)
    have so : SqL K H' t.ou (t.oa.map V.ref) := .inl (.inl hR'.ou)
    refine ⟨_, rfl, t.x, a.C_Trail, t.dx, _, .ref t.ou, rfl, hR'.ins, T.cl_Trail, T.n_Trail_out, rfl, .int (n : Int), rfl, t.ou, _, (n : Int), .ref b, rfl, rfl, so, hbo rfl, _, .inl ⟨_, sq, rfl⟩, ?_⟩
    cases cur with
    | nil =>
      refine (if_neg (by simp [outV])).mpr ?_
      exact q1 H' hle hR' (by rw [hro, List.append_nil]; exact hpre)
    | cons e l =>
      rw [if_pos (by simp [outV])]
      have hsome : ∃ x, left[e]? = some x := ⟨_, List.getElem?_eq_getElem (hlt e (by rw [hro]; exact List.mem_append_right _ List.mem_cons_self))⟩
      obtain ⟨x, hx⟩ := hsome
      have he : e < left.length := (List.getElem?_eq_some_iff.mp hx).1
      have slf : SqL K H' t.lf (left.map V.int) := .inl (.inl hR'.lf)
      have hxa : atI (left.map V.int) (e : Int) = some (.int x) := atV (by omega) (by rw [show ((e : Int)).toNat = e from rfl, List.getElem?_map, hx]; rfl)
      refine ⟨_, fun σ' H' z => z, ?_⟩
      refine ⟨_, rfl, t.x, a.C_Trail, t.dx, _, .ref t.ou, rfl, hR'.ins, T.cl_Trail, T.n_Trail_out, rfl, .int (n : Int), rfl, t.ou, _, (n : Int), .ref b, rfl, rfl, so, hbo rfl, 1, rfl, b, _, -1, .int (e : Int), rfl, rfl, sq, out_last, ?_⟩
      refine ⟨_, rfl, t.x, a.C_Trail, t.dx, _, .ref t.lf, rfl, hR'.ins, T.cl_Trail, T.n_Trail_left, rfl, .int (e : Int), rfl, t.lf, _, (e : Int), .int x, rfl, rfl, slf, hxa, x, 0, rfl, rfl, _, rfl, ?_⟩
      refine if_b (c := decide (0 < x)) rfl (fun hh => ?_) fun hh => ?_
      · have hh := of_decide_eq_true hh
        refine ⟨_, rfl, t.x, a.C_Trail, t.dx, _, .ref t.lf, rfl, hR'.ins, T.cl_Trail, T.n_Trail_left, rfl, .int (e : Int), rfl, t.lf, _, (e : Int), .int x, rfl, rfl, slf, hxa, x, 1, rfl, rfl, ?_⟩
        refine ⟨_, rfl, t.x, a.C_Trail, t.dx, _, .ref t.lf, rfl, hR'.ins, T.cl_Trail, T.n_Trail_left, rfl, .int (e : Int), rfl, t.lf, _, (e : Int), e, rfl, rfl, hR'.lf, ?_, ?_⟩
        · unfold ixN
          rw [List.length_map, if_pos (by omega), if_pos (by omega)]
          rfl
        · have em : (left.map V.int).set e (V.int (x - 1)) = (left.set e (x - 1)).map V.int := by rw [List.map_set]
          rw [em]
          refine ⟨_, rfl, q2 _ pre e l x (hle.trans ?_) hro hpre hx hh (hR'.setLeft ok)⟩
          exact (LeA.put (A := fun b => b = t.lf) (y := .lst ((left.set e (x - 1)).map V.int)) hR'.lf rfl trivial trivial).mono fun b z => .inl z
      · have hh := of_decide_eq_false hh
        refine ⟨_, rfl, t.x, a.C_Trail, t.dx, _, .ref t.ou, rfl, hR'.ins, T.cl_Trail, T.n_Trail_out, rfl, .int (n : Int), rfl, t.ou, _, (n : Int), .ref b, rfl, rfl, so, hbo rfl, ?_⟩
        have eo : outV (e :: l) = outV l ++ [V.int (e : Int)] := by unfold outV; simp
        refine ⟨.inl ⟨rfl, _, sq⟩, b, outV (e :: l), .int (e : Int), rfl, rfl, hoi, ?_, ?_⟩
        · rw [eo, List.length_append, List.length_singleton, Nat.add_sub_cancel]
          simp
        · rw [eo, List.dropLast_concat]
          have hS := hR'.setOut (l := l) ok hb
          have eu : updR (updR ro (n : Int) (e :: l)) (n : Int) l = updR ro (n : Int) l := funext fun q => by unfold updR; split <;> rfl
          rw [eu] at hS
          refine ⟨l.length, Nat.lt_succ_self _, pre ++ [e], l, _, rfl, rfl, by rw [hro, List.append_assoc]; rfl, fun e' he' y hy => ?_, hle.trans ((LeA.put (A := fun c => c = b) (y := .lst (outV l)) hoi rfl trivial trivial).mono fun c z => .inr (by rw [show c = b from z]; exact hbm)), hS⟩
          rcases List.mem_append.mp he' with z | z
          · exact hpre e' z y hy
          · rw [List.mem_singleton.mp z, hx] at hy
            cases hy; exact hh
end K90


set_option pp.maxSteps 400
set_option maxHeartbeats 4000000
namespace K90
open PySem PySem.Spec PyProof.Rows L2 DL
variable {P : Program} {w : World} {K : PySem.W.Frag} {mg : Str → Option Value} {base : Heap} {a : Ad}
/-! ### Trail: the walk -/
def lsrc (ls : List Link) (e : Nat) : Int := match ls[e]? with
  | some l => l.a
  | none => 0
def ldst (ls : List Link) (e : Nat) : Int := match ls[e]? with
  | some l => l.b
  | none => 0
structure TrS where
  left : List Int
  ro : Int → List Nat
  R : List Nat
/-- what holds of the region at each turn -/
structure TrR (a : Ad) (t : TrA) (ls : List Link) (r : TrS) (H : Hp) : Prop where
  rg : Rg a t ls r.left r.ro H
  left : LeftOk ls.length r.R r.left
  ro : RoOk (lsrc ls) r.R r.ro
  lt : ∀ p, ∀ e ∈ r.ro p, e < ls.length
structure TrGo (t : TrA) (ls : List Link) (E : List Nat) (T : Int) : Prop where
  bal : ∀ x, deg (lsrc ls) E x - deg (ldst ls) E x = (if 0 = x then 1 else 0) - (if T = x then 1 else 0)
  conn : ∀ S : Int → Prop, S 0 → (∀ e ∈ E, S (lsrc ls e) ↔ S (ldst ls e)) → ∀ e ∈ E, S (lsrc ls e)
  few : E.length ≤ 90000
  p0 : 0 < t.oa.length
  ph : ∀ l ∈ ls, 0 ≤ l.b ∧ l.b < (t.oa.length : Int)
def spWalked (a : Ad) : Sp := fun vs H Q _ => ∃ (t : TrA) (ls : List Link) (r : TrS) (T : Int), vs = [.ref t.x] ∧ t.Ok ∧ TrR a t ls r H ∧ TrGo t ls r.R T ∧
  ∀ (w : List Nat) H' p, TrailE (lsrc ls) (ldst ls) 0 w T → w.Perm r.R → WRun (ldst ls) ⟨r.left, r.ro, [(0, none)], []⟩ (none :: w.map some) → LeA t.B H H' → H p = none → H' p = some (.lst (w.map fun n : Nat => V.int (n : Int))) → Q (.ref p) H'
def TrA.G (t : TrA) (H : Hp) : G := ⟨fun b => H b ≠ none, t.B, H, 0, [], t.x⟩
theorem tr_reg {t : TrA} {ls : List Link} {r0 : TrS} {H : Hp} (h0 : TrR a t ls r0 H) : RegOk (t.G H) (TrR a t ls) := by
  refine ⟨fun r H1 H2 Pz l hP h => ?_, fun r H1 h => ⟨_, _, _, h.rg.ins⟩⟩
  have keep : ∀ b o, H b ≠ none → H1 b = some o → H2 b = some o := fun b o hb h1 => (l b o h1).elim id fun z => absurd hb (hP b z.1)
  have some_ne : ∀ {b : Addr} {o : HO}, H b = some o → H b ≠ none := fun e z => by rw [e] at z; cases z
  obtain ⟨lvs0, k1, _⟩ := h0.rg.ls
  obtain ⟨lvs, h1, h2⟩ := h.rg.ls
  refine ⟨⟨keep _ _ (some_ne h0.rg.ins) h.rg.ins, ⟨lvs, keep _ _ (some_ne k1) h1, h2.le l⟩, keep _ _ (some_ne h0.rg.lf) h.rg.lf, keep _ _ (some_ne h0.rg.ou) h.rg.ou, fun i b hb => keep _ _ (some_ne (h0.rg.oi i b hb)) (h.rg.oi i b hb)⟩, h.left, h.ro, h.lt⟩
theorem RoOk.dropL {src : Nat → Int} {R : List Nat} {ro : Int → List Nat} (h : RoOk src R ro) {p : Int} {pre l : List Nat} (hp : ro p = pre ++ l) (he : ∀ e ∈ pre, e ∉ R) : RoOk src R (updR ro p l) := by
  refine ⟨fun q x hx => ?_, fun r hr => ?_⟩
  · by_cases z : q = p
    · subst z; rw [updR_at] at hx; exact h.at_ q x (by rw [hp]; exact List.mem_append_right _ hx)
    · rw [updR_ne z] at hx; exact h.at_ q x hx
  · have := h.all r hr
    by_cases z : src r = p
    · rw [z, hp] at this
      rw [z, updR_at]
      rcases List.mem_append.mp this with y | y
      · exact absurd hr (he r y)
      · exact y
    · rw [updR_ne z]; exact this
/-- at = self.next_link(phase) -/
def rNext (t : TrA) (ls : List Link) : TSR TrS := fun E sl k r => ∃ p : Int, sl[0]? = some (.d (.raw (.ref t.x))) ∧ sl[3]? = some (.d (.int p)) ∧ 0 ≤ p ∧ p < (t.oa.length : Int) ∧
  (∀ r', r'.R = r.R → r'.left = r.left → r'.ro = updR r.ro p [] → noLeft r.left (r.ro p) → (∀ x ∈ r.R, lsrc ls x ≠ p) → E.nx (sl.set 5 (.d .non)) k r') ∧ (∀ (e : Nat) r', e ∈ r.R → e < ls.length → lsrc ls e = p → r'.R = r.R.erase e → (∃ pre l x, r.ro p = pre ++ e :: l ∧ noLeft r.left pre ∧ r.left[e]? = some x ∧ 0 < x ∧ r'.left = r.left.set e (x - 1) ∧ r'.ro = updR r.ro p (e :: l)) → E.nx (sl.set 5 (.d (.int (e : Int)))) k r')
theorem next_read {t : TrA} {ls : List Link} {r0 : TrS} {H0 : Hp} (ok : t.Ok) (h0 : TrR a t ls r0 H0) {D : Ends} {σ : L2.St} {H : Hp} {Er : XK} (h : tSR K (t.G H0) (TrR a t ls) (rNext t ls) D σ H) :
    tAsg (tMeth a.C_Trail "next_link" (spNext a) [] Er (tVar 0) (tCons (tVar 3) tNil)) (gName 5) D σ H := by
  have reg := tr_reg h0
  obtain ⟨sl, k, r, E, en, hr, lk, p, e0, e3, p0, p1, q1, q2⟩ := h
  obtain ⟨v0, hv0, rv0⟩ := en.d 0 _ e0
  have rv0 : v0 = .ref t.x := rv0
  subst rv0
  obtain ⟨v3, hv3, rv3⟩ := en.d 3 _ e3
  have rv3 : v3 = .int p := rv3
  subst rv3
  have off : ∀ b, OwnB sl σ b → ¬ (t.G H0).A b := fun b z => own_off reg en hr z
  have some_ne : ∀ {b : Addr} {o : HO}, H0 b = some o → H0 b ≠ none := fun e z => by rw [e] at z; cases z
  have hMA : ∀ b, (t.G H0).M b → (t.G H0).A b := fun b z => by
    rcases z with z | z
    · rw [show b = t.lf from z]; exact some_ne h0.rg.lf
    · obtain ⟨i, hi⟩ := List.getElem?_of_mem z
      exact some_ne (h0.rg.oi i b hi)
  refine ⟨_, hv0, t.x, t.dx, _, rfl, hr.rg.ins, rfl, _, hv3, t, ls, r.left, r.ro, p, rfl, ok, hr.rg, p0, p1, fun e he => by rw [hr.left.1]; exact hr.lt p e he, ?_, ?_⟩
  · intro H' le hR' hno
    have en' := EnvOk.reg en hMA off le
    have hnr : ∀ e ∈ r.ro p, e ∉ r.R := fun e he hm => by
      have hl : e < r.left.length := by rw [hr.left.1]; exact hr.lt p e he
      have hx := List.getElem?_eq_getElem hl
      exact hno e he _ hx ((hr.left.pos hx).mpr hm)
    have r' : TrR a t ls ⟨r.left, updR r.ro p [], r.R⟩ H' := ⟨hR', hr.left, hr.ro.dropL (by rw [List.append_nil]) hnr, fun q e he => by
      dsimp only at he
      by_cases z : q = p
      · subst z; rw [updR_at] at he; cases he
      · rw [updR_ne z] at he; exact hr.lt q e he⟩
    refine lk.nx _ _ _ _ _ (en'.setD (i := 5) (d := .non) rfl) r' (q1 _ rfl rfl rfl hno fun x hx z => ?_)
    exact hnr x (by have := hr.ro.all x hx; rwa [z] at this) hx
  · intro H' pre e l x le hro hno hx hpos hR'
    have en' := EnvOk.reg en hMA off le
    have hm : e ∈ r.R := (hr.left.pos hx).mp hpos
    have hnr : ∀ e' ∈ pre, e' ∉ r.R := fun e' he hm => by
      have hl : e' < r.left.length := by rw [hr.left.1]; exact hr.lt p e' (by rw [hro]; exact List.mem_append_left _ he)
      have hx := List.getElem?_eq_getElem hl
      exact hno e' he _ hx ((hr.left.pos hx).mpr hm)
    have r' : TrR a t ls ⟨r.left.set e (x - 1), updR r.ro p (e :: l), r.R.erase e⟩ H' := ⟨hR', hr.left.erase hm hx, (hr.ro.dropL hro hnr).erase e, fun q e' he => by
      dsimp only at he
      by_cases z : q = p
      · subst z; rw [updR_at] at he; exact hr.lt q e' (by rw [hro]; exact List.mem_append_right _ he)
      · rw [updR_ne z] at he; exact hr.lt q e' he⟩
    exact lk.nx _ _ _ _ _ (en'.setD (i := 5) (d := .int (e : Int)) rfl) r' (q2 e _ hm (hr.left.2.1 e hm) (hr.ro.at_ p e (by rw [hro]; exact List.mem_append_right _ List.mem_cons_self)) rfl ⟨pre, l, x, hro, hno, hx, hpos, rfl, rfl⟩)
/-- line.append((self.links[at][1], at)) -/
def rApp (t : TrA) (ls : List Link) : TSR TrS := fun E sl k r => ∃ (e : Nat) (l : Link) (xs : List D), sl[0]? = some (.d (.raw (.ref t.x))) ∧ sl[5]? = some (.d (.int (e : Int))) ∧ ls[e]? = some l ∧ sl[1]? = some (.own (.lst xs)) ∧ xs.length < 100000 ∧
  E.nx (sl.set 1 (.own (.lst (xs ++ [.tup [.int l.b, .int (e : Int)]])))) k r
theorem app_read (T : Tx P K mg a) {t : TrA} {ls : List Link} {r0 : TrS} {H0 : Hp} (h0 : TrR a t ls r0 H0) {D : Ends} {σ : L2.St} {H : Hp} (h : tSR K (t.G H0) (TrR a t ls) (rApp t ls) D σ H) :
    tDrop (tBM K "list" rAppend (tVar 1) (tCons (tTup (tCons (tOp (rIxT K) (tOp (rIxL K) (tFld K (tVar 0) "links") (tVar 5)) (tC (.int 1))) (tCons (tVar 5) tNil))) tNil)) D σ H := by
  have reg := tr_reg h0
  obtain ⟨sl, k, r, E, en, hr, lk, e, l, xs, e0, e5, hl, e1, hxs, q⟩ := h
  obtain ⟨v0, hv0, rv0⟩ := en.d 0 _ e0
  have rv0 : v0 = .ref t.x := rv0
  subst rv0
  obtain ⟨v5, hv5, rv5⟩ := en.d 5 _ e5
  have rv5 : v5 = .int (e : Int) := rv5
  subst rv5
  obtain ⟨c, ea, o, _⟩ := en.own 1 _ e1
  obtain ⟨vs, ha, rr⟩ := o.lst
  obtain ⟨lvs, k1, k2⟩ := hr.rg.ls
  obtain ⟨tt, k3, k4⟩ := k2.2 e l hl
  refine ⟨_, ea, .inl ⟨rfl, vs, .inl (.inl ha)⟩, _, hv0, t.x, a.C_Trail, t.dx, _, .ref t.la, rfl, hr.rg.ins, T.cl_Trail, T.n_Trail_links, rfl, _, hv5, t.la, lvs, (e : Int), .ref tt, rfl, rfl, .inl (.inl k1), atV (by omega) k3, tt, _, 1, .int l.b, rfl, rfl, .inl (.inl k4), rfl, _, hv5, Nat.le_of_ble_eq_true rfl, fun p hp => ?_⟩
  have en1 := en.new (o := .tup [.int l.b, .int (e : Int)]) hp
  have hr1 : TrR a t ls r (upd H p (.tup [.int l.b, .int (e : Int)])) := reg.st r H _ (fun _ => False) (LeA.new hp) (fun _ z => z.elim) hr
  obtain ⟨c', ea', o', _⟩ := en1.own 1 _ e1
  rw [ea] at ea'; cases ea'
  obtain ⟨vs', ha', rr'⟩ := o'.lst
  have ne : c ≠ p := ne_of_none ha hp
  have ev : vs' = vs := by
    rw [upd_ne ne, ha] at ha'
    cases ha'; rfl
  subst ev
  have oa : OwnB sl σ c := ⟨1, _, e1, trivial, ea⟩
  have mm := rep_put (K := K) (g := t.G H0) (u' := .lst (vs' ++ [V.ref p])) oa ha' trivial
  have en2 := en1.put (u' := .lst (vs' ++ [V.ref p])) (x' := .lst (xs ++ [.tup [.int l.b, .int (e : Int)]])) e1 ea ha' trivial trivial trivial
    ⟨_, upd_same, RepL.append (RepL.mv mm _ rr') (RepL.one (x := .tup [.int l.b, .int (e : Int)]) ⟨p, [.int l.b, .int (e : Int)], rfl, by show upd _ _ _ p = _; rw [upd_ne (Ne.symm ne), upd_same], _, _, rfl, rfl, _, _, rfl, rfl, rfl⟩)⟩
  refine ⟨c, vs', .ref p, rfl, rfl, ha', by rw [← rr'.length]; exact Nat.lt_of_lt_of_le hxs (by decide), lk.nx _ _ _ _ _ en2 ?_ q⟩
  refine reg.st r _ _ (fun b => b = c) (LeA.put ha' rfl trivial trivial) (fun b z => ?_) hr1
  rw [show b = c from z]
  exact own_off reg en hr oa
end K90


set_option pp.maxSteps 400
set_option maxHeartbeats 4000000
namespace K90
open PySem PySem.Spec PyProof.Rows L2 DL
variable {P : Program} {w : World} {K : PySem.W.Frag} {mg : Str → Option Value} {base : Heap} {a : Ad}
theorem allI {f : Nat → Bool} {i : Nat} (h : f i = true) : [i].all f = true := by simp [h]
def optD : Option Nat → D
  | none => .non
  | some e => .int (e : Int)
def pairD (q : Int × Option Nat) : D := .tup [.int q.1, optD q.2]
def lineL (l : List (Int × Option Nat)) : List D := l.reverse.map pairD
def natsD (l : List Nat) : List D := l.map fun n : Nat => D.int (n : Int)
theorem lineL_cons (q : Int × Option Nat) (l : List (Int × Option Nat)) : lineL (q :: l) = lineL l ++ [pairD q] := by unfold lineL; simp
theorem lineL_len (l : List (Int × Option Nat)) : (lineL l).length = l.length := by unfold lineL; simp
theorem natsD_snoc (l : List Nat) (e : Nat) : natsD l ++ [D.int (e : Int)] = natsD (l ++ [e]) := by unfold natsD; simp
def isInt : D → Bool
  | .non => false
  | _ => true
theorem filter_nats (l : List Nat) : ((natsD l).filter isInt).map id = natsD l := by
  rw [List.map_id]
  refine List.filter_eq_self.mpr fun d hd => ?_
  obtain ⟨n, _, rfl⟩ := List.mem_map.mp hd
  rfl
theorem last_ix {xs : List D} {d : D} : atI (xs ++ [d]) (-1) = some d := by
  unfold atI ixN
  rw [if_neg (by omega), List.length_append, List.length_singleton, if_pos (by omega)]
  have e2 : (-1 + ((xs.length + 1 : Nat) : Int)).toNat = xs.length := by omega
  show (some _).bind _ = _
  rw [Option.bind_some, e2]
  simp
theorem ok_Trailwalked (T : Tx P K mg a) : FnOk P w K mg base CX0 2 a.f_Trailwalked a.d_Trailwalked ["self"] (spWalked a) := by
  refine T.F_Trailwalked.ok sc_Trailwalked (fun vs H Q E h => ?_) fun cdv A outer s H vs Q E hr h => ?_
  · obtain ⟨t, ls, r, Tn, rfl, _⟩ := h; rfl
  · obtain ⟨t, ls, r0, Tn, rfl, ok, h0, go, q⟩ := h
    have reg := tr_reg h0
    refine ⟨_, dssr_cons (g := t.G H) (R := TrR a t ls) (dsr reg (ds_par2 (i := 1) (j := 2) rfl sc_Trailwalked.nd rfl rfl (by decide) rfl rfl (dvs_cons (dv_o (dn_lst (da_cons (de_tup (da_cons de_int (da_cons de_non da_nil))) da_nil))) (dvs_cons (dv_o (dn_lst (fl := .c) da_nil)) dvs_nil)) (by rfl)))
      (dssr_cons (dsr_while reg PassesOwn.never (dt_tru (dOv 1))
        (dssr_cons (dsr reg (ds_unp (de_ix (dOv 1) (de_neg de_int)) (dg_tup (n := 2) rfl (dgs_cons (dg_name (i := 3) sc_Trailwalked.nd rfl (.inl rfl)) (dgs_cons (dg_name (i := 4) sc_Trailwalked.nd rfl (.inl rfl)) dgs_nil)))))
        (dssr_cons (PS.weak (ps_set (i := 5) sc_Trailwalked.nd rfl (.inl rfl) (pe_meth (pv 0) T.cl_Trail T.me_Trailnext_link (ok_Trailnext_link T) (hr.mono (by decide)) T.b_Trailnext_link .nil pass0 (pa_cons (pv 3) pa_nil))) fun _ _ _ h => next_read (Er := fun _ _ _ => False) ok h0 h)
        (dssr_one (dsr_if reg (dt_cmp os_isN (dv 5) de_non)
          (dssr_cons (dsr reg (ds_popE (i := 1) (pv 1))) (dssr_one (dsr reg (ds_append (i := 2) (dv 4) (pv 2)))))
          (dssr_one (PS.weak (L2.ps_expr (pe_bm PySem.F.plainAttrs_list PySem.F.slot_list_append PySem.F.type_list_append mt_append (pv 1) (pa_cons (pe_tup (pa_cons (pe_ix ix_tup (pe_ix ix_list (pe_fld (pv 0) rfl) (pv 5) (fun _ _ => rfl)) pe_int (fun _ _ => rfl)) (pa_cons (pv 5) pa_nil))) pa_nil)) rfl) fun _ _ _ h => app_read T h0 h)))))))
      (dssr_frz 2 (dssr_one (dsr reg (ds_ret (dn_lc rfl sc_Trailwalked.nd (LcOk.mk (own := [("at", 5)]) (blkOk_by (N := ["self", "line", "found", "phase", "came", "at"]) (sc := defScope st_Trailwalked) (by decide +kernel)) (di_list (dn_rev (dv 2)).de) (fun _ _ _ _ _ => (dg_name (i := 5) sc_Trailwalked.nd rfl (.inl rfl))) (fun _ _ _ _ _ => (dts_one (dt_cmp os_notN (dv 5) de_non))) (fun _ _ _ _ _ => (dv 5)) (by decide)) s).de))))), ?_⟩
    have some_ne : ∀ {b : Addr} {o : HO}, H b = some o → H b ≠ none := fun e z => by rw [e] at z; cases z
    have hB : ∀ b, t.B b → H b ≠ none := fun b z => by
      rcases z with z | z
      · rw [show b = t.lf from z]; exact some_ne h0.rg.lf
      · obtain ⟨i, hi⟩ := List.getElem?_of_mem z
        exact some_ne (h0.rg.oi i b hi)
    refine ⟨_, 0, r0, { nx := fun _ _ _ => False, rt := fun d _ _ _ => ∃ wk : List Nat, TrailE (lsrc ls) (ldst ls) 0 wk Tn ∧ wk.Perm r0.R ∧ WRun (ldst ls) ⟨r0.left, r0.ro, [(0, none)], []⟩ (none :: wk.map some) ∧ d = .lst (natsD wk) }, start_envR (A := fun b => H b ≠ none) (ds := [.raw (.ref t.x)]) (fun b z => z) hB ⟨_, _, rfl, rfl, rfl⟩, h0, ⟨fun _ _ _ _ _ _ _ z => z.elim, fun d v sl k r σ H' en hr' rv z => ?_, fun _ _ _ _ _ _ _ z => z.elim, fun _ _ _ _ _ _ _ z => z.elim⟩, ?_⟩
    · obtain ⟨wk, z1, z2, z3, rfl⟩ := z
      obtain ⟨b, vs, rfl, ⟨hb, nA⟩, rr⟩ := rv
      have ev : natsD wk = (wk.map fun n : Nat => (n : Int)).map D.int := by unfold natsD; rw [List.map_map]; rfl
      rw [ev] at rr
      have hv := RepL.ints rr
      rw [List.map_map] at hv
      refine q wk H' b z1 z2 z3 en.le ?_ (by rw [hb, hv]; rfl)
      exact Classical.byContradiction fun z => nA z
    refine ⟨Nat.le_of_ble_eq_true rfl, Nat.le_of_ble_eq_true rfl, rfl, Nat.le_of_ble_eq_true rfl, rfl, rfl, ?_⟩
    refine ⟨fun m sl k r => (∃ (p : Int) (c : Option Nat) (l : List (Int × Option Nat)) (ef : List Nat) (s3 s4 s5 : Slot), sl = [.d (.raw (.ref t.x)), .own (.lst (lineL ((p, c) :: l))), .own (.lst (natsD ef.reverse)), s3, s4, s5] ∧ plainS sl 5 = true ∧ (∀ z ∈ (p, c) :: l, 0 ≤ z.1 ∧ z.1 < (t.oa.length : Int)) ∧ Hz (lsrc ls) (ldst ls) r0.R Tn p c l ef r.R ∧ (∀ f, WRun (ldst ls) ⟨r.left, r.ro, (p, c) :: l, ef.map some⟩ f → WRun (ldst ls) ⟨r0.left, r0.ro, [(0, none)], []⟩ f) ∧ m = 2 * r.R.length + l.length + 1)
      ∨ (∃ (wk : List Nat) (s3 s4 s5 : Slot), sl = [.d (.raw (.ref t.x)), .own (.lst []), .own (.lst (natsD wk.reverse ++ [.non])), s3, s4, s5] ∧ plainS sl 5 = true ∧ TrailE (lsrc ls) (ldst ls) 0 wk Tn ∧ wk.Perm r0.R ∧ WRun (ldst ls) ⟨r0.left, r0.ro, [(0, none)], []⟩ (none :: wk.map some) ∧ m = 0), ?_, ?_⟩
    · refine ⟨_, .inl ⟨0, none, [], [], .un, .un, .un, rfl, rfl, fun z hz => ?_, Hz.start go.bal, fun f h => h, rfl⟩⟩
      rw [List.mem_singleton.mp hz]
      exact ⟨Int.le_refl 0, by have := go.p0; show (0 : Int) < _; omega⟩
    rintro m sl k r (⟨p, c, l, ef, s3, s4, s5, rfl, y5, hph, hz, hrun, rfl⟩ | ⟨wk, s3, s4, s5, rfl, y5, hT, hP, hrun, rfl⟩)
    · have hfew := hz.few
      have hE := go.few
      obtain ⟨p0, p1⟩ := hph (p, c) List.mem_cons_self
      rw [lineL_cons]
      refine ⟨_, rfl, true, by show some (!_) = some true; simp, if_b (c := true) rfl (fun _ => ?_) fun z => by cases z⟩
      refine ⟨_, rfl, 1, rfl, _, _, _, .inl rfl, rfl, last_ix, _, rfl, rfl, _, _, rfl, _, _, rfl, rfl, ?_⟩
      refine ⟨p, rfl, rfl, p0, p1, fun r' hR hl' hr' hnl hno => ?_, fun e r' he hel hs hR hst => ?_⟩
      · refine ⟨_, rfl, rfl, true, rfl, true, rfl, if_b (c := true) rfl (fun _ => ?_) fun z => by cases z⟩
        refine ⟨_, _, rfl, _, rfl, _, rfl, by unfold natsD; rw [List.length_map, List.length_reverse]; omega, ?_⟩
        cases l with
        | nil =>
          obtain ⟨rfl, hT, hP⟩ := hz.done hno go.conn
          exact ⟨0, by omega, .inr ⟨ef, _, _, _, rfl, rfl, hT, hP, hrun _ (.step (.back hnl) .done), rfl⟩⟩
        | cons q l =>
          obtain ⟨e, rfl, hz2⟩ := hz.pop hno
          refine ⟨2 * r'.R.length + l.length + 1, by rw [hR, List.length_cons]; omega, .inl ⟨q.1, q.2, l, e :: ef, .d (.int p), .d (optD (some e)), .d .non, ?_, rfl, fun z hz => hph z (List.mem_cons_of_mem _ hz), by rw [hR]; exact hz2, fun f h => hrun f (.step (.back hnl) (by rw [hl', hr'] at h; exact h)), rfl⟩⟩
          have e1 : natsD ef.reverse ++ [optD (some e)] = natsD (e :: ef).reverse := by rw [List.reverse_cons]; exact natsD_snoc _ _
          exact congrArg (fun z => [Slot.d (.raw (.ref t.x)), .own (.lst (lineL (q :: l))), .own (.lst z), .d (.int p), .d (optD (some e)), .d .non]) e1
      · refine ⟨_, rfl, rfl, false, rfl, false, rfl, if_b (c := false) rfl (fun z => by cases z) fun _ => ?_⟩
        obtain ⟨lk, hlk⟩ : ∃ lk, ls[e]? = some lk := ⟨_, List.getElem?_eq_getElem hel⟩
        have hd : ldst ls e = lk.b := by unfold ldst; rw [hlk]
        have hz2 := hz.push he hs
        refine ⟨e, lk, _, rfl, rfl, hlk, rfl, by rw [List.length_append, lineL_len]; show l.length + 1 < _; omega, ?_⟩
        have hlen : (r.R.erase e).length + 1 = r.R.length := by
          have := (List.perm_cons_erase he).length_eq
          rw [List.length_cons] at this
          omega
        refine ⟨2 * r'.R.length + (l.length + 1) + 1, by rw [hR]; omega, .inl ⟨ldst ls e, some e, (p, c) :: l, ef, .d (.int p), .d (optD c), .d (.int (e : Int)), ?_, rfl, fun z hz => ?_, by rw [hR]; exact hz2, fun f h => ?_, rfl⟩⟩
        · rw [hd, lineL_cons, lineL_cons]; rfl
        · rcases List.mem_cons.mp hz with rfl | hz
          · show 0 ≤ ldst ls e ∧ ldst ls e < _
            rw [hd]; exact go.ph lk (List.mem_of_getElem? hlk)
          · exact hph z hz
        · obtain ⟨pre, l2, x2, s1, s2, s3', s4', s5', s6'⟩ := hst
          rw [s5', s6'] at h
          exact hrun f (.step (.on s1 s2 s3' s4') h)
    · refine ⟨_, rfl, false, rfl, if_b (c := false) rfl (fun z => by cases z) fun _ => ?_⟩
      refine ⟨_, rfl, allI y5, _, rfl, _, rfl, _, rfl, ?_⟩
      have er : (natsD wk.reverse ++ [D.non]).reverse = D.non :: natsD wk := by unfold natsD; simp
      rw [er]
      have hlen : wk.length ≤ 90000 := by rw [hP.length_eq]; exact go.few
      refine lc_fm isInt id (by unfold natsD; rw [List.length_cons, List.length_map]; omega) (fun y hy A B hA hB => ?_) ?_
      · rcases List.mem_cons.mp hy with rfl | hy
        · exact ⟨_, rfl, rfl, true, rfl, false, rfl, if_b (c := false) rfl (fun z => by cases z) fun _ => hB rfl⟩
        · obtain ⟨n, _, rfl⟩ := List.mem_map.mp hy
          exact ⟨_, rfl, rfl, false, rfl, true, rfl, if_b (c := true) rfl (fun _ => ⟨_, rfl, hA rfl⟩) fun z => by cases z⟩
      · rw [List.filter_cons]
        rw [if_neg (by decide), filter_nats]
        exact ⟨wk, hT, hP, hrun, rfl⟩
end K90


set_option pp.maxSteps 400
set_option maxHeartbeats 4000000
namespace K90
open PySem PySem.Spec PyProof.Rows L2 DL
variable {P : Program} {w : World} {K : PySem.W.Frag} {mg : Str → Option Value} {base : Heap} {a : Ad}
/-! ### Trail: its making -/
theorem dn_peK {X : Cx} {K0 : PySem.W.Frag} {fl : Fl} {e : Expr} {t : TD} (hK : X.K = K0) (h : DN X fl e t) : PE X e (tDN K0 fl t) := by
  subst hK; exact h.pe
def outs (ls : List Link) (p : Int) : List Nat := (List.range ls.length).filter fun e => decide (lsrc ls e = p)
theorem links_rep {S : AS} {H : Hp} : ∀ {ls : List Link} {lvs : List V}, LinksAt H lvs ls → RepL K S H (ls.map Link.d) lvs
  | [], lvs, h => List.length_eq_zero_iff.mp h.1
  | l :: ls, lvs, h => by
    cases lvs with
    | nil => have := h.1; cases this
    | cons v lvs =>
      obtain ⟨t, h1, h2⟩ := h.2 0 l rfl
      have h1 : v = .ref t := Option.some.inj h1
      subst h1
      exact ⟨_, _, rfl, ⟨t, _, rfl, h2, _, _, rfl, rfl, _, _, rfl, rfl, _, _, rfl, rfl, _, _, rfl, rfl, rfl⟩, links_rep ⟨Nat.succ.inj h.1, fun i k hk => h.2 (i + 1) k hk⟩⟩
theorem rep_links {S : AS} {H : Hp} {ls : List Link} {lvs : List V} (r : RepL K S H (ls.map Link.d) lvs) : LinksAt H lvs ls := by
  refine ⟨by rw [← r.length, List.length_map], fun i l hl => ?_⟩
  obtain ⟨v, hv, t, vs, rfl, h2, r2⟩ := r.get (i := i) (x := l.d) (by rw [List.getElem?_map, hl]; rfl)
  obtain ⟨_, _, rfl, e1, _, _, rfl, e2, _, _, rfl, e3, _, _, rfl, e4, e5⟩ := r2
  have e1 : _ = V.int l.a := e1
  have e2 : _ = V.int l.b := e2
  have e3 : _ = V.str l.w := e3
  have e4 : _ = V.int l.n := e4
  have e5 : _ = ([] : List V) := e5
  subst e1 e2 e3 e4 e5
  exact ⟨t, hv, h2⟩
def scOuter : Scope := { kind := .function, names := [(".0", .local), ("phase", .cell), ("range", .globalImplicit), ("len", .globalImplicit), ("links", .free)], isGenerator := false, isCoroutine := false }
def spTInit (a : Ad) : Sp := fun vs H Q _ => ∃ (x dx la ta : Addr) (p : Nat) (ls : List Link) (ts : List Int) (lvs : List V), vs = [.ref x, .int (p : Int), .ref la, .ref ta] ∧ H x = some (.ins a.C_Trail dx []) ∧ H la = some (.lst lvs) ∧ LinksAt H lvs ls ∧ H ta = some (.lst (ts.map V.int)) ∧ ls.length ≤ 1000 ∧ p ≤ 60 ∧
  ∀ (H' : Hp) (lf ou : Addr) (oa : List Addr), (∀ b o, b ≠ x → H b = some o → H' b = some o) → H' x = some (.ins a.C_Trail dx [("links", .ref la), ("left", .ref lf), ("out", .ref ou)]) → H lf = none → H ou = none → (∀ b ∈ oa, H b = none) → oa.Nodup → lf ∉ oa → ou ≠ lf → ou ∉ oa → oa.length = p →
    H' lf = some (.lst (ts.map V.int)) → H' ou = some (.lst (oa.map V.ref)) → (∀ (i : Nat) b, oa[i]? = some b → H' b = some (.lst ((outs ls (i : Int)).map fun n : Nat => V.int (n : Int)))) → Q .non H'
theorem outs_fm (ls : List Link) (p : Int) (f : D → Bool) (hf : ∀ n : Nat, f (.int (0 + (n : Int))) = decide (lsrc ls n = p)) : ((((List.range ls.length).map fun (j : Nat) => D.int (0 + (j : Int)))).filter f).map id = natsD (outs ls p) := by
  rw [List.map_id, List.filter_map]
  unfold outs natsD
  have e : (f ∘ fun (j : Nat) => D.int (0 + (j : Int))) = fun e => decide (lsrc ls e = p) := funext fun n => hf n
  rw [e]
  exact List.map_congr_left fun n _ => by rw [Int.zero_add]
theorem nats_rep {S : AS} {H : Hp} {l : List Nat} {vs : List V} (r : RepL K S H (natsD l) vs) : vs = l.map fun n : Nat => V.int (n : Int) := by
  have ev : natsD l = (l.map fun n : Nat => (n : Int)).map D.int := by unfold natsD; rw [List.map_map]; rfl
  rw [ev] at r
  have hv := RepL.ints r
  rw [List.map_map] at hv
  rw [hv]; rfl
theorem env_plain {H : Hp} {sl : SL} {σ : L2.St} (hl : sl.length = σ.length) (hno : ∀ (n : Nat) s, sl[n]? = some s → ¬ ownS s) (hd : ∀ (i : Nat) (x : D), sl[i]? = some (Slot.d x) → ∃ v, σ[i]? = some (some v) ∧ Rep K (fun _ => False) H x (fun _ => False) v) : EnvOk K ⟨fun _ => False, fun _ => False, H, 0, [], 0⟩ sl 0 σ H := by
  have no : ∀ b, Av ⟨fun _ => False, fun _ => False, H, 0, [], 0⟩ sl σ b → False := fun b z => z.elim id fun ⟨i, s, h1, h2, _⟩ => hno i s h1 h2
  have m : Mv H H (fun _ => False) (Av ⟨fun _ => False, fun _ => False, H, 0, [], 0⟩ sl σ) := Mv.anti fun b z => (no b z).elim
  refine ⟨hl, fun i x e => ?_, fun i x e => absurd trivial (hno i _ e), fun i e => absurd trivial (hno i _ e), fun i j s t b e1 _ o1 => absurd o1 (hno i _ e1), LeA.refl H, fun b z => z.elim, fun b z => z.elim, fun i b e => absurd trivial (hno i _ e)⟩
  obtain ⟨v, hv, rv⟩ := hd i x e
  exact ⟨v, hv, Rep.mv m x m rv⟩
theorem ok_Trailinit (T : Tx P K mg a) : FnOk P w K mg base CX0 1 a.f_Trailinit a.d_Trailinit ["self", "period", "links", "times"] (spTInit a) := by
  refine T.F_Trailinit.ok sc_Trailinit (fun vs H Q E h => ?_) fun cdv A outer s H vs Q E hr h => ?_
  · obtain ⟨x, dx, la, ta, p, ls, ts, lvs, rfl, _⟩ := h; rfl
  · obtain ⟨x, dx, la, ta, p, ls, ts, lvs, rfl, hx, hla, hls, hta, few, p60, q⟩ := h
    refine ⟨_, pss_cons (ps_fld (pv 0) (pv 2) rfl) (pss_cons (ps_fld (pv 0) (pe_callTy call_list_of (by rfl) T.m_list (by decide +kernel) (pa_cons (pv 3) pa_nil)) rfl)
      (pss_one (ps_fld (pv 0) (pe_lc (own := [("phase", 4)]) rfl sc_Trailinit.nd (pi_range1 (by rfl) T.m_range (pa_cons (pv 1) pa_nil)) (blkOk_by (N := ["self", "period", "links", "times", "phase", "at"]) (sc := defScope st_Trailinit) (by decide +kernel))
        (fun _ _ _ _ _ => pg_name (i := 4) sc_Trailinit.nd rfl (.inr rfl)) (fun _ _ _ _ _ => pts_nil)
        (fun _ _ _ _ _ => dn_peK (K0 := K) rfl (dn_lc rfl sc_Trailinit.nd (LcOk.mk (own := [("at", 5)]) (blkOk_by (N := ["self", "period", "links", "times", "phase", "at"]) (sc := relS scOuter (defScope st_Trailinit)) (by decide +kernel)) (di_range (by rfl) T.m_range (dn_bi cg_len (by rfl) T.m_len (by decide +kernel) (da_cons (dv 2) da_nil)).de) (fun _ _ _ _ _ => (dg_name (i := 5) sc_Trailinit.nd rfl (.inl rfl))) (fun _ _ _ _ _ => (dts_one (dt_cmp (os_eq hr.units) (de_ix (de_ix (dv 2) (dv 5)) de_int) (dv 4)))) (fun _ _ _ _ _ => (dv 5)) (by decide)) s))) rfl))), ?_⟩
    -- self.links
    obtain ⟨H1, hH1⟩ : ∃ H1, H1 = upd H x (.ins a.C_Trail dx (putF "links" (.ref la) [])) := ⟨_, rfl⟩
    have k1 : ∀ b o, b ≠ x → H b = some o → H1 b = some o := fun b o nb e => by rw [hH1, upd_ne nb]; exact e
    have hlx : la ≠ x := fun z => by rw [z, hx] at hla; cases hla
    have htx : ta ≠ x := fun z => by rw [z, hx] at hta; cases hta
    have h1x : H1 x = some (.ins a.C_Trail dx [("links", .ref la)]) := by rw [hH1, upd_same]; rfl
    refine ⟨_, rfl, _, rfl, x, a.C_Trail, dx, _, rfl, hx, T.cl_Trail, T.n_Trail_links, Nat.le_of_ble_eq_true rfl, ?_⟩
    rw [← hH1]
    refine ⟨_, rfl, ta, _, rfl, .inl (.inl (.inl (k1 _ _ htx hta))), fun lf hlf => ?_⟩
    have nlx : lf ≠ x := fun z => by rw [z, h1x] at hlf; cases hlf
    refine ⟨_, rfl, x, a.C_Trail, dx, _, rfl, by rw [upd_ne (Ne.symm nlx)]; exact h1x, T.cl_Trail, T.n_Trail_left, Nat.le_of_ble_eq_true rfl, ?_⟩
    have hlf0 : H lf = none := by
      have : H1 lf = H lf := by rw [hH1, upd_ne nlx]
      rw [← this]; exact hlf
    obtain ⟨H2, hH2⟩ : ∃ H2, H2 = upd (upd H1 lf (.lst (ts.map V.int))) x (.ins a.C_Trail dx (putF "left" (.ref lf) [("links", .ref la)])) := ⟨_, rfl⟩
    rw [← hH2]
    have k2 : ∀ b o, b ≠ x → H b = some o → H2 b = some o := fun b o nb e => by
      rw [hH2, upd_ne nb, upd_ne (ne_of_none (k1 b o nb e) hlf)]; exact k1 b o nb e
    have h2x : H2 x = some (.ins a.C_Trail dx [("links", .ref la), ("left", .ref lf)]) := by rw [hH2, upd_same]; rfl
    have h2f : H2 lf = some (.lst (ts.map V.int)) := by rw [hH2, upd_ne nlx, upd_same]
    have h2la : H2 la = some (.lst lvs) := k2 _ _ hlx hla
    have hls2 : LinksAt H2 lvs ls := ⟨hls.1, fun i l hl => by
      obtain ⟨t, z1, z2⟩ := hls.2 i l hl
      exact ⟨t, z1, k2 _ _ (fun z => by rw [z, hx] at z2; cases z2) z2⟩⟩
    have n2 : ∀ b, H2 b = none → H b = none := fun b e => by
      cases z : H b with
      | none => rfl
      | some o =>
        by_cases nb : b = x
        · rw [nb, h2x] at e; cases e
        · rw [k2 b o nb z] at e; cases e
    clear hH2 hH1
    refine ⟨_, rfl, (p : Int), rfl, by omega, by omega, fun ou hou => ?_⟩
    refine ⟨fun i m H' => ∃ oa : List Addr, oa.length = i ∧ m = p - i ∧ i ≤ p ∧ (∀ b o, H2 b = some o → H' b = some o) ∧ H' ou = some (.lst (oa.map V.ref)) ∧ ou ∉ oa ∧ oa.Nodup ∧ (∀ b ∈ oa, H2 b = none) ∧ ∀ (j : Nat) b, oa[j]? = some b → H' b = some (.lst ((outs ls (j : Int)).map fun n : Nat => V.int (n : Int))),
      ⟨p, [], rfl, rfl, Nat.zero_le _, fun b o e => by rw [upd_ne (ne_of_none e hou)]; exact e, upd_same, (fun z => by cases z), List.nodup_nil, (fun b hb => by cases hb), fun j b hb => by simp at hb⟩, ?_⟩
    rintro i m H' ⟨oa, hl, rfl, hi, kp, ho, hno, hnd, hfr, hat⟩
    by_cases hlt : i < p
    · refine .inr ⟨hlt, _, fun H' z => z, fun y H3 hy => ?_⟩
      obtain ⟨rfl, rfl⟩ := hy
      refine ⟨rfl, ?_⟩
      unfold tYes
      dsimp only
      rw [if_pos rfl]
      have hnoS : ∀ (n : Nat) s, ([.d (.raw (.ref x)), .d (.int (p : Int)), .d (.lst (ls.map Link.d)), .un, .d (.int (0 + (i : Int))), .un] : List DL.Slot)[n]? = some s → ¬ ownS s := fun n s h o => by
        match n, h with
        | 0, h => cases h; exact o
        | 1, h => cases h; exact o
        | 2, h => cases h; exact o
        | 3, h => cases h; exact o
        | 4, h => cases h; exact o
        | 5, h => cases h; exact o
        | n + 6, h => cases h
      refine ⟨⟨fun _ => False, fun _ => False, H3, 0, [], 0⟩, [.d (.raw (.ref x)), .d (.int (p : Int)), .d (.lst (ls.map Link.d)), .un, .d (.int (0 + (i : Int))), .un], 0, env_plain rfl hnoS fun n d h => ?_, ?_⟩
      · match n, h with
        | 0, h => cases h; exact ⟨_, rfl, rfl⟩
        | 1, h => cases h; exact ⟨_, rfl, rfl⟩
        | 2, h => cases h; exact ⟨_, rfl, la, lvs, rfl, ⟨kp _ _ h2la, fun z => z⟩, links_rep (hls2.le (S := fun _ => False) (LeA.same kp))⟩
        | 4, h => cases h; exact ⟨_, rfl, rfl⟩
        | 3, h => cases h
        | 5, h => cases h
        | n + 6, h => cases h
      · refine ⟨allI rfl, _, rfl, _, _, rfl, .inl rfl, (ls.length : Int), by rw [List.length_map], by omega, by omega, ?_⟩
        rw [show ((ls.length : Int)).toNat = ls.length from rfl]
        refine lc_fm (fun d => match d with | .int n => decide (lsrc ls n.toNat = 0 + (i : Int)) | _ => false) id (by rw [List.length_map, List.length_range]; omega) (fun y hy A B hA hB => ?_) ?_
        · obtain ⟨e, he, rfl⟩ := List.mem_map.mp hy
          have he := List.mem_range.mp he
          have hk : ls[e]? = some ls[e] := List.getElem?_eq_getElem he
          have hs : lsrc ls (0 + (e : Int)).toNat = ls[e].a := by
            rw [show (0 + (e : Int)).toNat = e by omega]
            unfold lsrc; rw [hk]
          have hat2 : atI (ls.map Link.d) (0 + (e : Int)) = some ls[e].d := atI_at (by omega) (by rw [show (0 + (e : Int)).toNat = e by omega, List.getElem?_map, hk]; rfl)
          dsimp only at hA hB
          rw [hs] at hA hB
          refine ⟨_, rfl, _, rfl, _, _, _, .inl rfl, rfl, hat2, _, 0, _, .inr rfl, rfl, rfl, _, rfl, .inl ⟨_, _, rfl, rfl, _, rfl, ?_⟩⟩
          exact if_b (c := decide (ls[e].a = 0 + (i : Int))) rfl (fun hh => ⟨_, rfl, hA hh⟩) fun hh => hB hh
        · rw [outs_fm ls (0 + (i : Int)) _ fun n => by simp]
          intro v H4 B nr
          obtain ⟨b, vs, rfl, hb0, hb1, rr⟩ := nr
          have ev := nats_rep rr
          subst ev
          have k4 : ∀ c o, H3 c = some o → H4 c = some o := fun c o e => (B.le c o e).elim id fun z => by
            obtain ⟨⟨n, h1, _⟩, _⟩ := z
            exact absurd trivial (hnoS n _ h1)
          have nbo : b ≠ ou := fun z => by rw [z, ho] at hb0; cases hb0
          have nbm : b ∉ oa := fun z => by
            obtain ⟨j, hj⟩ := List.getElem?_of_mem z
            rw [hat j b hj] at hb0; cases hb0
          refine ⟨_, k4 _ _ ho, by rw [List.length_map, hl]; exact Nat.lt_of_lt_of_le (show i < 61 by omega) (by decide), p - (i + 1), by omega, oa ++ [b], by rw [List.length_append, hl]; rfl, rfl, hlt, fun c o e => ?_, ?_, ?_, ?_, fun c hc => ?_, fun j c hc => ?_⟩
          · rw [upd_ne (ne_of_none e hou)]; exact k4 _ _ (kp _ _ e)
          · rw [upd_same, List.map_append]; rfl
          · intro z
            rcases List.mem_append.mp z with z | z
            · exact hno z
            · exact nbo (List.mem_singleton.mp z).symm
          · rw [List.nodup_append]
            refine ⟨hnd, by simp, fun c hc d hd => ?_⟩
            rw [List.mem_singleton.mp hd]
            exact fun z => nbm (z ▸ hc)
          · rcases List.mem_append.mp hc with z | z
            · exact hfr c z
            · rw [List.mem_singleton.mp z]
              cases q2 : H2 b with
              | none => rfl
              | some o => rw [kp _ _ q2] at hb0; cases hb0
          · have hcm : c ≠ ou := fun z => by
              subst z
              rcases List.mem_append.mp (List.mem_of_getElem? hc) with y | y
              · exact hno y
              · exact nbo (List.mem_singleton.mp y).symm
            rw [upd_ne hcm]
            by_cases hj : j < oa.length
            · rw [List.getElem?_append_left hj] at hc
              exact k4 _ _ (hat j c hc)
            · have hj2 : j = oa.length := by
                have := (List.getElem?_eq_some_iff.mp hc).1
                rw [List.length_append, List.length_singleton] at this
                omega
              subst hj2
              rw [List.getElem?_append_right (Nat.le_refl _), Nat.sub_self] at hc
              have hc : b = c := Option.some.inj hc
              subst hc
              rw [hb1, ← hl, Int.zero_add]
    · have e : i = p := by omega
      subst e
      refine .inl ⟨Nat.le_refl _, ?_⟩
      have nxo : ou ≠ x := fun z => by rw [z, h2x] at hou; cases hou
      have nxm : x ∉ oa := fun z => by have := hfr x z; rw [h2x] at this; cases this
      refine ⟨_, rfl, x, a.C_Trail, dx, _, rfl, kp _ _ h2x, T.cl_Trail, T.n_Trail_out, Nat.le_of_ble_eq_true rfl, q _ lf ou oa (fun b o nb e => ?_) ?_ hlf0 (n2 _ hou) (fun b hb => n2 _ (hfr b hb)) hnd (fun z => ?_) (fun z => ?_) hno hl ?_ ?_ fun j b hb => ?_⟩
      · rw [upd_ne nb]; exact kp _ _ (k2 b o nb e)
      · rw [upd_same]; rfl
      · have := hfr lf z; rw [h2f] at this; cases this
      · rw [z, h2f] at hou; cases hou
      · rw [upd_ne nlx]; exact kp _ _ h2f
      · rw [upd_ne nxo]; exact ho
      · rw [upd_ne (Ne.symm (ne_mem nxm (List.mem_of_getElem? hb)))]; exact hat j b hb
end K90


set_option pp.maxSteps 400
set_option maxHeartbeats 4000000
namespace K90
open PySem PySem.Spec PyProof.Rows L2 DL
variable {P : Program} {w : World} {K : PySem.W.Frag} {mg : Str → Option Value} {base : Heap} {a : Ad}
/-! ### Trail(period, links, times).walked() as an expression -/
structure TrPre (p : Nat) (ls : List Link) (ts : List Int) (E : List Nat) (T : Int) : Prop where
  bal : ∀ x, deg (lsrc ls) E x - deg (ldst ls) E x = (if 0 = x then 1 else 0) - (if T = x then 1 else 0)
  conn : ∀ S : Int → Prop, S 0 → (∀ e ∈ E, S (lsrc ls e) ↔ S (ldst ls e)) → ∀ e ∈ E, S (lsrc ls e)
  few : E.length ≤ 90000
  p0 : 0 < p
  p60 : p ≤ 60
  lsn : ls.length ≤ 1000
  ph : ∀ l ∈ ls, 0 ≤ l.b ∧ l.b < (p : Int)
  left : LeftOk ls.length E ts
def dTrail (tA : TDA) : TD := fun sl k Q => tA sl k fun ds k1 => ∃ (p : Nat) (ls : List Link) (ts : List Int) (E : List Nat) (T : Int), ds = [.int (p : Int), .lst (ls.map Link.d), intsD ts] ∧ TrPre p ls ts E T ∧ ∀ wk : List Nat, TrailE (lsrc ls) (ldst ls) 0 wk T → wk.Perm E → WRun (ldst ls) ⟨ts, fun p => (outs ls p).reverse, [(0, none)], []⟩ (none :: wk.map some) → Q (.lst (natsD wk)) k1
theorem outs_ok {ls : List Link} {E : List Nat} (h : ∀ e ∈ E, e < ls.length) : RoOk (lsrc ls) E fun p => (outs ls p).reverse :=
  ⟨fun p e he => of_decide_eq_true (List.mem_filter.mp (List.mem_reverse.mp he)).2, fun r hr => List.mem_reverse.mpr (List.mem_filter.mpr ⟨List.mem_range.mpr (h r hr), decide_eq_true rfl⟩)⟩
theorem trail_read {tA : TDA} {σ : L2.St} {H : Hp} {Q : VK} {E1 E2 : XK} (hm : ∀ sl k P Q, (∀ d k', P d k' → Q d k') → tA sl k P → tA sl k Q) (h : tD K .c (dTrail tA) σ H Q) : tMeth a.C_Trail "walked" (spWalked a) [] E1 (tMake a.C_Trail (spTInit a) [] E2 (tDA K .c tA)) tNil σ H Q := by
  obtain ⟨g, sl, k, En, q⟩ := h
  refine ⟨g, sl, k, En, hm _ _ _ _ (fun ds k1 ⟨p, ls, ts, E, Tn, e, pre, q⟩ vs H1 B1 r1 => ?_) q⟩
  subst e
  intro x dx hx hdx ne
  obtain ⟨v1, w1, rfl, rv1, v2, w2, rfl, rv2, v3, w3, rfl, rv3, e3⟩ := r1
  have e3 : w3 = [] := e3
  subst e3
  have rv1 : v1 = .int (p : Int) := rv1
  subst rv1
  obtain ⟨la, lvs, rfl, ⟨hla, nla⟩, rl⟩ := rv2
  obtain ⟨ta, tvs, rfl, ⟨hta, nta⟩, rt⟩ := rv3
  have et := RepL.ints rt
  subst et
  have hls : LinksAt H1 lvs ls := rep_links rl
  obtain ⟨H2, hH2⟩ : ∃ H2, H2 = upd (upd H1 dx (.own x)) x (.ins a.C_Trail dx []) := ⟨_, rfl⟩
  have k2 : ∀ b o, H1 b = some o → H2 b = some o := fun b o e => by rw [hH2, upd_ne (ne_of_none e hx), upd_ne (ne_of_none e hdx)]; exact e
  have h2x : H2 x = some (.ins a.C_Trail dx []) := by rw [hH2, upd_same]
  have n2 : ∀ b, H2 b = none → H1 b = none := fun b e => by
    cases z : H1 b with
    | none => rfl
    | some o => rw [k2 _ _ z] at e; cases e
  rw [← hH2]
  refine ⟨x, dx, la, ta, p, ls, ts, lvs, rfl, h2x, k2 _ _ hla, hls.le (S := fun _ => False) (LeA.same k2), k2 _ _ hta, pre.lsn, pre.p60, fun H3 lf ou oa k3 h3x flf fou foa hnd n1 n3 n4 hlen h3f h3o h3i => ⟨rfl, ?_⟩⟩
  have k23 : ∀ b o, H1 b = some o → H3 b = some o := fun b o e => k3 b o (ne_of_none e hx) (k2 b o e)
  let t : TrA := ⟨x, dx, la, lf, ou, oa⟩
  have nx : ∀ b, H2 b = none → x ≠ b := fun b e z => by rw [← z, h2x] at e; cases e
  have nl : ∀ b, H2 b = none → la ≠ b := fun b e z => by rw [← z, k2 _ _ hla] at e; cases e
  have tok : t.Ok := ⟨hnd, n1, nl lf flf, fun z => nl la (foa la z) rfl, n3, n4, nx lf flf, fun z => nx x (foa x z) rfl⟩
  have hR : TrR a t ls ⟨ts, fun p => (outs ls p).reverse, E⟩ H3 := ⟨⟨h3x, ⟨lvs, k23 _ _ hla, hls.le (S := fun _ => False) (LeA.same k23)⟩, h3f, h3o, fun i b hb => by
    rw [h3i i b hb]
    unfold outV
    dsimp only
    rw [List.reverse_reverse]⟩, pre.left, outs_ok pre.left.2.1, fun p e he => List.mem_range.mp (List.mem_filter.mp (List.mem_reverse.mp he)).1⟩
  refine ⟨x, dx, _, rfl, h3x, rfl, t, ls, _, Tn, rfl, tok, hR, ⟨pre.bal, pre.conn, pre.few, by show 0 < oa.length; rw [hlen]; exact pre.p0, by show ∀ l ∈ ls, 0 ≤ l.b ∧ l.b < (oa.length : Int); rw [hlen]; exact pre.ph⟩, fun wk H4 pp z1 z2 z3 l4 f4 h4 => ?_⟩
  have sm : ∀ b o, H1 b = some o → H4 b = some o := fun b o e => (l4 b o (k23 b o e)).elim id fun z => by
    rcases z.1 with y | y
    · have y : b = lf := y
      rw [y, n2 lf flf] at e; cases e
    · rw [n2 b (foa b y)] at e; cases e
  have fpp : H1 pp = none := by
    cases z : H1 pp with
    | none => rfl
    | some o => rw [k23 _ _ z] at f4; cases f4
  refine q wk z1 z2 z3 (.ref pp) H4 (B1.trans ⟨B1.env.grow sm, LeA.same sm⟩) ?_
  have ev : (wk.map fun n : Nat => (n : Int)).map V.int = wk.map fun n : Nat => V.int (n : Int) := by rw [List.map_map]; rfl
  have en : natsD wk = (wk.map fun n : Nat => (n : Int)).map D.int := by unfold natsD; rw [List.map_map]; rfl
  refine ⟨pp, _, rfl, ⟨h4, fun z => B1.env.avdom z fpp⟩, ?_⟩
  rw [en, ← ev]
  exact RepL.mkInts
theorem de_trail {X : Cx} {tA : TDA} {p1 p2 p3 p4 : Pos} {e : Expr} {es : List Expr} {pl : Sem Bool} (T : Tx X.prog X.K X.mg a) (hr : Room 2 X.A) (hg : Gl X "Trail") (ha : DA X .c (e :: es) tA)
    (he : starEach (e :: es) X.env = (false, eval e X.env) :: starEach es X.env := by rfl) (hpl : (backTo p2 (starEach es X.env)).any (·.1) = false := by rfl)
    (ht : eval (.Call (.Attribute (.Call (.Name "Trail" p1) (e :: es) [] p2) "walked" p3) [] [] p4) X.env = (do
      let ov ← eval (.Call (.Name "Trail" p1) (e :: es) [] p2) X.env
      standAt p3.atName
      let (f, first) ← holding [ov] (getMethod ov "walked" pl)
      callWith p4 f first (backTo p4 (starEach [] X.env)) (backToKw p4 (keywordEach [] X.env))) := by rfl) :
    DE X .c (.Call (.Attribute (.Call (.Name "Trail" p1) (e :: es) [] p2) "walked" p3) [] [] p4) (dTrail tA) :=
  ⟨PE.weak (pe_meth0 (pe_make T.mk_Trail (ok_Trailinit (w := X.w) (base := X.base) T) hr hg T.mC_Trail T.b_Trailinit .nil pass0 ha.pa (by decide) he hpl) T.cl_Trail T.me_Trailwalked (ok_Trailwalked (w := X.w) (base := X.base) T) hr T.b_Trailwalked .nil pass0 ht) fun σ H Q h => trail_read (E1 := fun _ _ _ => False) (E2 := fun _ _ _ => False) ha.mono h,
   fun sl k P Q h q => ha.mono _ _ _ _ (fun ds k1 ⟨p, ls, ts, E, Tn, e, pre, q⟩ => ⟨p, ls, ts, E, Tn, e, pre, fun wk z1 z2 z3 => h _ _ (q wk z1 z2 z3)⟩) q⟩
end K90


set_option pp.maxSteps 400
set_option maxHeartbeats 4000000
namespace K90
open PySem PySem.Spec PyProof.Rows L2 DL
variable {P : Program} {w : World} {K : PySem.W.Frag} {mg : Str → Option Value} {base : Heap} {a : Ad}
/-! ### orders -/
def tmA : D → D
  | .tup [_, _, t] => t
  | y => y
theorem walk_rlen : ∀ (T : List Eg) (x : Int), (walkRows x T).length ≤ T.length
  | [], _ => Nat.le_refl 0
  | .cut i c :: T, x => by
    show ((x, i) :: walkRows (x + c.long) T).length ≤ _
    rw [List.length_cons, List.length_cons]
    have := walk_rlen T (x + c.long)
    omega
  | .wt q :: T, x => by
    show (walkRows (x + 1) T).length ≤ _
    rw [List.length_cons]
    have := walk_rlen T (x + 1)
    omega
def rowP (r : Int × Nat) : D := .tup [.int r.1, .int (r.2 : Int)]
def rowsT (rs : List (Int × Nat)) : D := .tup (rs.map rowP)
def allL (P : Int) (cs : List Cut) : List Link := cutLinks P cs ++ waitLinks P (rng P id)
theorem cutLinks_len (P : Int) (cs : List Cut) : (cutLinks P cs).length = cs.length := by unfold cutLinks; rw [List.length_map, List.length_zipIdx]
theorem allL_len (P : Int) (cs : List Cut) : (allL P cs).length = cs.length + P.toNat := by
  unfold allL waitLinks
  rw [List.length_append, cutLinks_len, List.length_map, rng_len]
theorem allL_at {P : Int} {cs : List Cut} {e : Nat} (he : e < cs.length + P.toNat) : lsrc (allL P cs) e = isrc cs e ∧ ldst (allL P cs) e = idst P cs e := by
  unfold lsrc ldst isrc idst egOf
  by_cases h : e < cs.length
  · have h1 : (allL P cs)[e]? = some ⟨cs[e].phase, (cs[e].long + cs[e].phase) % P, "cut", (e : Int)⟩ := by
      unfold allL
      rw [List.getElem?_append_left (by rw [cutLinks_len]; exact h)]
      unfold cutLinks
      rw [List.getElem?_map, List.getElem?_zipIdx, List.getElem?_eq_getElem h]
      simp
    rw [h1, List.getElem?_eq_getElem h]
    exact ⟨rfl, rfl⟩
  · have h1 : (allL P cs)[e]? = some ⟨((e - cs.length : Nat) : Int), (((e - cs.length : Nat) : Int) + 1) % P, "wait", ((e - cs.length : Nat) : Int)⟩ := by
      unfold allL
      rw [List.getElem?_append_right (by rw [cutLinks_len]; omega), cutLinks_len]
      unfold waitLinks
      have er : (rng P id)[e - cs.length]? = some ((e - cs.length : Nat) : Int) := by
        have := rng_at (P := P) (f := id) (i := ((e - cs.length : Nat) : Int)) (by omega) (by omega)
        exact this
      rw [List.getElem?_map, er]
      rfl
    rw [h1, List.getElem?_eq_none (by omega)]
    exact ⟨rfl, rfl⟩
theorem deg_congr {ε : Type} {f g : ε → Int} {x : Int} : ∀ {E : List ε}, (∀ e ∈ E, f e = g e) → deg f E x = deg g E x
  | [], _ => rfl
  | e :: E, h => by rw [deg_cons, deg_cons, deg_congr fun y hy => h y (List.mem_cons_of_mem e hy), h e List.mem_cons_self]
theorem trail_congr {ε : Type} {s s' d d' : ε → Int} : ∀ {T : List ε} {x y : Int}, (∀ e ∈ T, s e = s' e ∧ d e = d' e) → TrailE s d x T y → TrailE s' d' x T y
  | [], _, _, _, h => h
  | e :: T, x, y, h, ⟨h1, h2⟩ => by
    obtain ⟨e1, e2⟩ := h e List.mem_cons_self
    exact ⟨e1 ▸ h1, e2 ▸ trail_congr (fun z hz => h z (List.mem_cons_of_mem e hz)) h2⟩
theorem sum_times {cs : List Cut} {k : Int} : (cs.map fun c => c.times * k).sum = (cs.map Cut.times).sum * k := by
  induction cs with
  | nil => simp
  | cons c cs ih => rw [List.map_cons, List.sum_cons, List.map_cons, List.sum_cons, ih, Int.add_mul]
theorem ord_pre {p L : Int} {cs : List Cut} (ok : CutsOk p cs) (hL : IsLeast p cs L) (few : (cs.map Cut.times).sum ≤ 1000) : TrPre p.toNat (allL p cs) (ixTimes p cs L) (ixE p cs L) (L % p) := by
  have p1 := ok.p1
  have p2 := ok.p2
  have hn := (let_iff.mp hL.2.1).1
  have hl := ix_left ok.cw hn
  have hlt : ∀ e ∈ ixE p cs L, e < cs.length + p.toNat := hl.2.1
  refine ⟨fun x => ?_, fun S h0 hS => ?_, ?_, by omega, by omega, ?_, fun l hl => ?_, ?_⟩
  · rw [deg_congr fun e he => (allL_at (hlt e he)).1, deg_congr (f := ldst (allL p cs)) fun e he => (allL_at (hlt e he)).2]
    exact ix_bal ok.cw hn x
  · intro e he
    rw [(allL_at (hlt e he)).1]
    refine ix_conn ok.cw hL.2.1 S h0 (fun i hi => ?_) e he
    have := hS i hi
    rwa [(allL_at (hlt i hi)).1, (allL_at (hlt i hi)).2] at this
  · have h1 := ix_few ok.cw hL
    rw [sum_times] at h1
    have s0 : 0 ≤ (cs.map Cut.times).sum := by
      have : ∀ l : List Cut, (∀ c ∈ l, 1 ≤ c.times) → 0 ≤ (l.map Cut.times).sum := fun l => by
        induction l with
        | nil => intro _; exact Int.le_refl 0
        | cons c l ih => intro h; rw [List.map_cons, List.sum_cons]; have := h c List.mem_cons_self; have := ih fun y hy => h y (List.mem_cons_of_mem c hy); omega
      exact this cs fun c hc => (ok.ok c hc).2.2.2.2.1
    have h2 : (cs.map Cut.times).sum * (p + 1) ≤ 1000 * (p + 1) := Int.mul_le_mul_of_nonneg_right few (by omega)
    omega
  · rw [allL_len]; have := ok.len; omega
  · rw [Int.toNat_of_nonneg (by omega)]
    unfold allL at hl
    rcases List.mem_append.mp hl with h | h
    · obtain ⟨c, hc, _, e⟩ := cutLinks_mem h
      rw [e]; exact emod_in (by omega)
    · obtain ⟨q, hq, rfl⟩ := List.mem_map.mp h
      exact emod_in (by omega)
  · rw [allL_len]; exact hl
/-- the rows of the walk that Trail goes -/
def OrdRun (p : Int) (cs : List Cut) (L : Int) (rows : List (Int × Nat)) : Prop := ∃ wk : List Nat, WRun (ldst (allL p cs)) ⟨ixTimes p cs L, fun q => (outs (allL p cs) q).reverse, [(0, none)], []⟩ (none :: wk.map some) ∧ rows = walkRows 0 (wk.map (egOf cs))
theorem OrdRun.one {p L : Int} {cs : List Cut} {r r' : List (Int × Nat)} (h : OrdRun p cs L r) (h' : OrdRun p cs L r') : r = r' := by
  obtain ⟨wk, h1, rfl⟩ := h
  obtain ⟨wk', h2, rfl⟩ := h'
  rw [h1.one h2]
def fd_order_by : FD := FD.all (fun i : Int × List Cut => [.int i.1, cutsT i.2]) (fun i => CutsOk i.1 i.2 ∧ (i.2.map Cut.times).sum ≤ 1000) fun i d => ∃ L rows, d = rowsT rows ∧ IsLeast i.1 i.2 L ∧ Rows i.1 i.2 0 L rows ∧ Uses i.2 rows ∧ OrdRun i.1 i.2 L rows
theorem ok_order_by (T : Tx P K mg a) : FnOk P w K mg base CX0 13 a.f_order_by a.d_order_by ["period", "cuts"] (liftSp K fd_order_by) := by
  refine def_ok T.F_order_by sc_order_by (fun ds Q h => ?_) fun cdv A outer s H E hr => ⟨_,
    (dss_cons (ds_par2 (i := 2) (j := 3) rfl sc_order_by.nd rfl rfl (by decide) rfl rfl (dvs_cons (dv_d (de_call (ok_taken_by T) (hr.mono (by decide)) (by rfl) T.m_taken_by T.F_taken_by.kp T.b_taken_by (da_cons (dv 0) (da_cons (dv 1) da_nil)))) (dvs_cons (dv_d (de_call (ok_least_by T) (hr.mono (by decide)) (by rfl) T.m_least_by T.F_least_by.kp T.b_least_by (da_cons (dv 0) (da_cons (dv 1) da_nil)))) dvs_nil)) (by rfl))
    (dss_cons (ds_set (i := 4) sc_order_by.nd rfl (.inl rfl) (dv_d (de_call (ok_free_by T) (hr.mono (by decide)) (by rfl) T.m_free_by T.F_free_by.kp T.b_free_by (da_cons (dv 0) (da_cons (dv 2) (da_cons (dv 3) da_nil))))))
    (dss_cons (ds_set (i := 5) sc_order_by.nd rfl (.inl rfl) (dv_d (de_call (ok_links_by T) (hr.mono (by decide)) (by rfl) T.m_links_by T.F_links_by.kp T.b_links_by (da_cons (dv 0) (da_cons (dv 1) (da_cons (dn_listRg rfl (by rfl) T.m_list (by rfl) T.m_range (dv 0)).de da_nil))))))
    (dss_cons (ds_set (i := 6) sc_order_by.nd rfl (.inl rfl) (dv_d (dn_lst (da_star (dn_lc rfl sc_order_by.nd (LcOk.mk (own := [("cut", 10)]) (blkOk_by (N := ["period", "cuts", "cover", "end", "free", "links", "times", "place", "found", "at", "cut"]) (sc := defScope st_order_by) (by decide +kernel)) (di_tup (dv 1)) (fun _ _ _ _ _ => (dg_name (i := 10) sc_order_by.nd rfl (.inl rfl))) (fun _ _ _ _ _ => dts_nil) (fun _ _ _ _ _ => (de_ix (dv 10) de_int)) (by decide)) s).de (da_star (dv 4) da_nil))).de))
    (dss_cons (ds_par2 (i := 7) (j := 8) rfl sc_order_by.nd rfl rfl (by decide) rfl rfl (dvs_cons (dv_d de_int) (dvs_cons (dv_o (dn_lst (fl := .c) da_nil)) dvs_nil)) (by rfl))
    (dss_cons (ds_for PassesOwn.never rfl (di_list (de_trail T (hr.mono (by decide)) (by rfl) (da_cons (dv 0) (da_cons (dv 5) (da_cons (dv 6) da_nil))))) (dg_name (i := 9) sc_order_by.nd rfl (.inl rfl))
      (dss_cons (ds_if (dt_cmp os_lt (dv 9) (dn_bi cg_len (by rfl) T.m_len (by decide +kernel) (da_cons (dv 1) da_nil)).de)
      (dss_one (ds_append (i := 8) (de_tup (da_cons (dv 7) (da_cons (dv 9) da_nil))) (pv 8)))
      dss_nil)
    (dss_one (ds_set (i := 7) sc_order_by.nd rfl (.inl rfl) (dv_d (de_op os_add (dv 7) (de_if (dt_cmp os_lt (dv 9) (dn_bi cg_len (by rfl) T.m_len (by decide +kernel) (da_cons (dv 1) da_nil)).de) (de_ix (de_ix (dv 1) (dv 9)) de_int) de_int)))))))
    (dss_frz 8 (dss_one (ds_ret (dn_ty cg_tuple (by rfl) T.m_tuple (by decide +kernel) (da_cons (dv 8) da_nil)).de))))))))), ?_⟩
  · obtain ⟨i, rfl, _⟩ := h; rfl
  · intro ds Q h
    obtain ⟨⟨p, cs⟩, rfl, ⟨ok, few⟩, q⟩ := h
    dsimp only at ok few q
    have p1 := ok.p1
    have p2 := ok.p2
    refine ⟨_, rfl, _, rfl, _, ⟨p, cs, rfl, ok, rfl⟩, _, rfl, _, rfl, (p, cs), rfl, ok, fun d hd => ?_⟩
    obtain ⟨L, rfl, hL⟩ := hd
    dsimp only at hL
    refine ⟨rfl, ?_⟩
    refine ⟨_, rfl, _, rfl, _, rfl, _, ⟨p, cover p cs, L, rfl, p1, p2, rfl⟩, ?_⟩
    refine ⟨_, rfl, _, rfl, _, rfl, p, rfl, by omega, by omega, _, ⟨p, cs, rng p id, rfl, ok, by rw [rng_len]; omega, rfl⟩, ?_⟩
    have hln : (cs.map Cut.d).length ≤ 100000 := by rw [List.length_map]; have := ok.len; omega
    refine ⟨allI rfl, _, rfl, _, rfl, ?_⟩
    refine lc_map tmA hln (fun y hy A hA => ?_) ?_
    · obtain ⟨c, hc, rfl⟩ := List.mem_map.mp hy
      exact ⟨_, rfl, _, _, _, .inr rfl, rfl, rfl, hA⟩
    refine ⟨_, .inl rfl, _, rfl, _, .inl rfl, ?_, ?_⟩
    · rw [List.append_nil, List.length_append, List.length_map, List.length_map, List.length_map, rng_len]
      have hcl : cs.length ≤ 40 := ok.len
      have hc2 : (p, cs).snd.length = cs.length := rfl
      omega
    have et : D.lst ((cs.map Cut.d).map tmA ++ ((rng p (free p (cover p cs) L)).map D.int ++ [])) = intsD (ixTimes p cs L) := by
      unfold intsD ixTimes
      rw [List.append_nil, List.map_append, List.map_map, List.map_map]
      rfl
    rw [et]
    refine ⟨Nat.le_of_ble_eq_true rfl, rfl, rfl, ?_⟩
    have pre := ord_pre ok hL few
    refine ⟨_, rfl, _, rfl, _, rfl, p.toNat, allL p cs, ixTimes p cs L, ixE p cs L, L % p, by rw [Int.toNat_of_nonneg (by omega)]; rfl, pre, fun wk hT hP hrun => ?_⟩
    have hwl : wk.length ≤ 90000 := by rw [hP.length_eq]; exact pre.few
    have hwi : ∀ e ∈ wk, e < cs.length + p.toNat := fun e he => (ix_left ok.cw (let_iff.mp hL.2.1).1).2.1 e (hP.mem_iff.mp he)
    have hT2 : TrailE (isrc cs) (idst p cs) 0 wk (L % p) := trail_congr (fun e he => allL_at (hwi e he)) hT
    obtain ⟨hrows, huses⟩ := ix_rows ok.cw hL.1 hL.2.1 hT2 hP
    refine ⟨_, rfl, fun j sl k => ∃ s9 s10 : Slot, sl = [.d (.int p), .d (cutsT cs), .d (intsD (rng p (cover p cs))), .d (.int L), .d (intsD (rng p (free p (cover p cs) L))), .d (.lst ((allL p cs).map Link.d)), .d (intsD (ixTimes p cs L)), .d (.int (walkLen ((wk.take j).map (egOf cs)))), .own (.lst ((walkRows 0 ((wk.take j).map (egOf cs))).map rowP)), s9, s10], ⟨_, _, rfl⟩, fun j x sl k hx hI => ?_, fun sl k hI => ?_⟩
    · obtain ⟨s9, s10, rfl⟩ := hI
      unfold natsD at hx
      rw [List.getElem?_map] at hx
      obtain ⟨e, he⟩ : ∃ e, wk[j]? = some e := by
        cases z : wk[j]? with
        | none => rw [z] at hx; cases hx
        | some e => exact ⟨e, rfl⟩
      rw [he] at hx
      have hx : D.int (e : Int) = x := Option.some.inj hx
      subst hx
      have es : (wk.take (j + 1)).map (egOf cs) = (wk.take j).map (egOf cs) ++ [egOf cs e] := by rw [List.take_add_one, he, List.map_append]; rfl
      have hrl : (walkRows 0 ((wk.take j).map (egOf cs))).length ≤ wk.length := by
        have h1 := walk_rlen ((wk.take j).map (egOf cs)) 0
        rw [List.length_map, List.length_take] at h1
        omega
      refine ⟨_, rfl, _, rfl, _, _, rfl, .inr rfl, _, _, rfl, rfl, _, rfl, ?_⟩
      rw [List.length_map]
      refine if_b (c := decide ((e : Int) < (cs.length : Int))) rfl (fun hh => ?_) fun hh => ?_
      · have hh := of_decide_eq_true hh
        have hlt : e < cs.length := by omega
        have hc : cs[e]? = some cs[e] := List.getElem?_eq_getElem hlt
        have eg : egOf cs e = .cut e cs[e] := by unfold egOf; rw [hc]
        have hat : atI (cs.map Cut.d) (e : Int) = some cs[e].d := atI_at (by omega) (by rw [show ((e : Int)).toNat = e from rfl, List.getElem?_map, hc]; rfl)
        rw [eg] at es
        refine ⟨_, rfl, _, rfl, _, rfl, Nat.le_of_ble_eq_true rfl, by rw [List.length_map]; omega, ?_⟩
        refine ⟨_, rfl, _, rfl, _, rfl, _, _, rfl, .inr rfl, _, _, rfl, rfl, _, rfl, ?_⟩
        rw [List.length_map]
        refine if_b (c := decide ((e : Int) < (cs.length : Int))) rfl (fun _ => ?_) fun z => absurd (decide_eq_true hh) (by rw [z]; decide)
        refine ⟨_, rfl, _, rfl, _, _, _, .inr rfl, rfl, hat, _, 0, _, .inr rfl, rfl, rfl, _, _, rfl, rfl, ?_⟩
        refine ⟨.d (.int (e : Int)), s10, ?_⟩
        rw [es, walk_len_append, walk_snoc, List.map_append, Int.zero_add]
        have e1 : walkLen [Eg.cut e cs[e]] = cs[e].long := by simp [walkLen, Eg.len]
        rw [e1]
        rfl
      · have hh := of_decide_eq_false hh
        have hge : ¬ e < cs.length := by omega
        have eg : egOf cs e = .wt ((e - cs.length : Nat) : Int) := by unfold egOf; rw [List.getElem?_eq_none (by omega)]
        rw [eg] at es
        refine ⟨_, rfl, _, rfl, _, rfl, _, _, rfl, .inr rfl, _, _, rfl, rfl, _, rfl, ?_⟩
        rw [List.length_map]
        refine if_b (c := decide ((e : Int) < (cs.length : Int))) rfl (fun z => absurd (of_decide_eq_true z) hh) fun _ => ?_
        refine ⟨_, _, rfl, rfl, ?_⟩
        refine ⟨.d (.int (e : Int)), s10, ?_⟩
        rw [es, walk_len_append, walk_snoc, List.map_append]
        have e1 : walkLen [Eg.wt ((e - cs.length : Nat) : Int)] = 1 := rfl
        rw [e1]
        simp only [List.map_nil, List.append_nil]
        rfl
    · obtain ⟨s9, s10, rfl⟩ := hI
      have el : (natsD wk).length = wk.length := by unfold natsD; rw [List.length_map]
      rw [el, List.take_length]
      exact ⟨_, rfl, _, rfl, _, _, rfl, .inl rfl, q _ ⟨L, _, rfl, hL, hrows, huses, wk, hrun, rfl⟩⟩
def fd_order : FD := FD.all (fun i : Int × Bool × List Cut => [.int i.1, cutsE i.2.1 i.2.2]) (fun i => CutsOk i.1 i.2.2 ∧ (i.2.2.map Cut.times).sum ≤ 1000) fun i d => ∃ L rows, d = rowsT rows ∧ IsLeast i.1 i.2.2 L ∧ Rows i.1 i.2.2 0 L rows ∧ Uses i.2.2 rows ∧ OrdRun i.1 i.2.2 L rows
theorem ok_order (T : Tx P K mg a) : FnOk P w K mg base CX0 14 a.f_order a.d_order ["period", "cuts"] (liftSp K fd_order) := by
  refine def_ok T.F_order sc_order (fun ds Q h => ?_) fun cdv A outer s H E hr => ⟨_,
    (dss_cons (ds_set (i := 2) sc_order.nd rfl (.inl rfl) (dv_d (de_call (ok_need_cuts T) (hr.mono (by decide)) (by rfl) T.m_need_cuts T.F_need_cuts.kp T.b_need_cuts (da_cons (dv 0) (da_cons (dv 1) da_nil)))))
    (dss_cons (ds_if (dt_cmp os_gt (dn_bi cg_sum (by rfl) T.m_sum (by decide +kernel) (da_cons (dn_lc rfl sc_order.nd (LcOk.mk (own := [("cut", 3)]) (blkOk_by (N := ["period", "cuts", "told", "cut"]) (sc := defScope st_order) (by decide +kernel)) (di_tup (dv 2)) (fun _ _ _ _ _ => (dg_name (i := 3) sc_order.nd rfl (.inl rfl))) (fun _ _ _ _ _ => dts_nil) (fun _ _ _ _ _ => (de_ix (dv 3) de_int)) (by decide)) s).de da_nil)).de (de_globI (by rfl) T.c_MOST_PIECES))
      (dss_one ds_never)
      dss_nil)
    (dss_one (ds_ret (de_call (ok_order_by T) (hr.mono (by decide)) (by rfl) T.m_order_by T.F_order_by.kp T.b_order_by (da_cons (dv 0) (da_cons (dv 2) da_nil))))))), ?_⟩
  · obtain ⟨i, rfl, _⟩ := h; rfl
  · intro ds Q h
    obtain ⟨⟨p, b, cs⟩, rfl, ⟨ok, few⟩, q⟩ := h
    dsimp only at ok few q
    refine ⟨_, rfl, _, rfl, _, ⟨p, cs, ?_, ok, rfl⟩, ?_⟩
    · cases b with
      | true => exact .inr rfl
      | false => exact .inl rfl
    have hln : (cs.map Cut.d).length ≤ 100000 := by rw [List.length_map]; have := ok.len; omega
    refine ⟨allI rfl, _, rfl, _, rfl, ?_⟩
    refine lc_map tmA hln (fun y hy A hA => ?_) ?_
    · obtain ⟨c, hc, rfl⟩ := List.mem_map.mp hy
      exact ⟨_, rfl, _, _, _, .inr rfl, rfl, rfl, hA⟩
    have et : D.lst ((cs.map Cut.d).map tmA) = intsD (cs.map Cut.times) := by
      unfold intsD
      rw [List.map_map, List.map_map]
      rfl
    rw [et]
    refine ⟨_, rfl, _, _, rfl, rfl, _, rfl, if_b (c := decide (1000 < (cs.map Cut.times).sum)) rfl (fun hh => ?_) fun hh => ?_⟩
    · have := of_decide_eq_true hh
      omega
    · exact ⟨_, rfl, _, rfl, (p, cs), rfl, ⟨ok, few⟩, fun d hd => q d hd⟩
end K90


namespace K90
open PySem PySem.Spec PyProof.Rows L2 DL
/-! ### lanes that are known -/
theorem few_of_let {P e : Int} {cs : List Cut} (ok : CW P cs) (h : Let P cs e) : (cs.map fun c => c.times * c.long).sum ≤ e := by
  have h1 := sum_wait (e := e) ok
  have h2 : 0 ≤ sN P.toNat (wait P cs e) := sN_nn fun q hq => (let_iff.mp h).1 q (by omega) (by omega)
  omega
theorem best_is {P m : Int} {cs : List Cut} {es : List Int} {j : Nat} {L : Int → Int} {t0 : Int} (p1 : 1 ≤ P) (hL : ∀ t, 0 ≤ t → t < P → IsLeast P (turned P cs t) (L t)) (h0 : 0 ≤ t0) (h1 : t0 < P) (hlow : ∀ t, 0 ≤ t → t < P → L t0 ≤ L t) (hfirst : ∀ t, 0 ≤ t → t < t0 → L t ≠ L t0)
    (hB : es.length = P.toNat ∧ (∀ (i : Nat) (e : Int), es[i]? = some e → IsLeast P (turned P cs i) e) ∧ es[j]? = some m ∧ (∀ (i : Nat) (e : Int), es[i]? = some e → m ≤ e) ∧ ∀ (i : Nat) (e : Int), i < j → es[i]? = some e → e ≠ m) : (j : Int) = t0 ∧ m = L t0 := by
  obtain ⟨b1, b2, b3, b4, b5⟩ := hB
  have at_ : ∀ i : Nat, i < P.toNat → es[i]? = some (L i) := fun i hi => by
    have hg : es[i]? = some (es[i]'(by rw [b1]; exact hi)) := List.getElem?_eq_getElem _
    have := (b2 i _ hg).uniq (hL i (by omega) (by omega))
    rw [hg, this]
  have hj : j < P.toNat := by rw [← b1]; exact (List.getElem?_eq_some_iff.mp b3).1
  have hm : m = L j := by have := at_ j hj; rw [b3] at this; exact Option.some.inj this
  have ht : t0.toNat < P.toNat := by omega
  have e0 : ((t0.toNat : Nat) : Int) = t0 := Int.toNat_of_nonneg h0
  have m1 : m ≤ L t0 := by have := b4 t0.toNat _ (at_ _ ht); rwa [e0] at this
  have m2 : L t0 ≤ m := by rw [hm]; exact hlow j (by omega) (by omega)
  have em : m = L t0 := by omega
  refine ⟨?_, em⟩
  by_cases z : (j : Int) < t0
  · exact absurd (by rw [← hm, em]) (hfirst j (by omega) z)
  · by_cases z2 : t0 < (j : Int)
    · exact absurd (by rw [e0, em]) (b5 t0.toNat _ (by omega) (at_ _ ht))
    · omega
/-! one cut -/
def gapOf (P long : Int) : Int := (0 - long) % P
theorem gap_div {P long : Int} : (long + gapOf P long) % P = 0 := by
  unfold gapOf
  rw [Int.add_emod_emod, show long + (0 - long) = 0 by omega, Int.zero_emod]
def lrows (S : Int) : Nat → Int → List (Int × Nat)
  | 0, _ => []
  | k + 1, x => (x, 0) :: lrows S k (x + S)
theorem lrows_rows {P long ph n : Int} (p1 : 1 ≤ P) : ∀ (k : Nat) (x e : Int), x % P = ph → x + k * (long + gapOf P long) + long ≤ e → Rows P [⟨long, ph, n⟩] x e (lrows (long + gapOf P long) (k + 1) x)
  | 0, x, e, hx, h => ⟨_, rfl, Int.le_refl x, hx, by show x + long ≤ e; simp at h; omega⟩
  | k + 1, x, e, hx, h => by
    have g0 : 0 ≤ gapOf P long := (emod_in (by omega)).1
    refine ⟨_, rfl, Int.le_refl x, hx, ?_⟩
    show Rows P [⟨long, ph, n⟩] (x + long) e (lrows (long + gapOf P long) (k + 1) (x + (long + gapOf P long)))
    have e1 : ((k + 1 : Nat) : Int) * (long + gapOf P long) = k * (long + gapOf P long) + (long + gapOf P long) := by rw [Int.natCast_add, Int.add_mul]; simp
    refine Rows.low (y := x + (long + gapOf P long)) (by omega) (lrows_rows p1 k _ e ?_ (by omega))
    rw [Int.add_emod, gap_div, Int.add_zero, Int.emod_emod, hx]
theorem lrows_count (S : Int) : ∀ (k : Nat) (x : Int), (lrows S k x).countP (fun y => decide (y.2 = 0)) = k
  | 0, _ => rfl
  | k + 1, x => by
    show ((x, 0) :: lrows S k (x + S)).countP _ = _
    rw [List.countP_cons, lrows_count S k]
    simp
theorem lone_low {P long ph n : Int} (p1 : 1 ≤ P) (hl : 1 ≤ long) : ∀ {r : List (Int × Nat)} {x e : Int} {k : Nat}, Rows P [⟨long, ph, n⟩] x e r → r.length = k + 1 → nxt P x ph + k * (long + gapOf P long) + long ≤ e
  | [], _, _, _, _, h => by cases h
  | (b, i) :: r, x, e, k, ⟨c, hc, h1, h2, h3⟩, hk => by
    have ei : c = ⟨long, ph, n⟩ := by
      cases i with
      | zero => simpa using hc.symm
      | succ i => simp at hc
    subst ei
    have hb : nxt P x ph ≤ b := nxt_le p1 h1 h2
    cases k with
    | zero =>
      have : r = [] := by
        cases r with
        | nil => rfl
        | cons y r => simp at hk
      subst this
      have h3 : b + long ≤ e := h3
      simp
      omega
    | succ k =>
      have hk : r.length = k + 1 := by simpa using hk
      have ih := lone_low p1 hl h3 hk
      have en : nxt P (b + long) ph = b + (long + gapOf P long) := by
        unfold nxt gapOf
        have h2 : b % P = ph := h2
        have : (ph - (b + long)) % P = (0 - long) % P := by
          rw [← h2, show b % P - (b + long) = b % P + (- (b + long)) by omega, Int.emod_add_emod]
          congr 1; omega
        rw [this]; omega
      have ih : nxt P (b + long) ph + k * (long + gapOf P long) + long ≤ e := ih
      rw [en] at ih
      have e1 : ((k + 1 : Nat) : Int) * (long + gapOf P long) = k * (long + gapOf P long) + (long + gapOf P long) := by rw [Int.natCast_add, Int.add_mul]; simp
      omega
def loneEnd (P long ph n : Int) : Int := ph + n * long + (n - 1) * gapOf P long
theorem lone_cw {P long ph n : Int} (p1 : 1 ≤ P) (hl : 1 ≤ long) (h0 : 0 ≤ ph) (h1 : ph < P) (hn : 1 ≤ n) : CW P [⟨long, ph, n⟩] := ⟨p1, fun c hc => by rw [List.mem_singleton.mp hc]; exact ⟨hl, h0, h1, hn⟩⟩
theorem lone_least {P long ph n : Int} (p1 : 1 ≤ P) (hl : 1 ≤ long) (h0 : 0 ≤ ph) (h1 : ph < P) (hn : 1 ≤ n) : IsLeast P [⟨long, ph, n⟩] (loneEnd P long ph n) := by
  have g0 : 0 ≤ gapOf P long := (emod_in (by omega)).1
  obtain ⟨k, hk⟩ : ∃ k : Nat, n = (k : Int) + 1 := ⟨(n - 1).toNat, by omega⟩
  have eE : loneEnd P long ph n = ph + k * (long + gapOf P long) + long := by
    unfold loneEnd
    rw [hk, Int.add_mul, Int.mul_add, show (k : Int) + 1 - 1 = k by omega]
    omega
  have kn : 0 ≤ (k : Int) * (long + gapOf P long) := Int.mul_nonneg (by omega) (by omega)
  have ok := lone_cw p1 hl h0 h1 hn
  refine IsLeast.lay ok (by omega) ⟨lrows (long + gapOf P long) (k + 1) ph, Rows.low h0 (lrows_rows p1 k ph _ (Int.emod_eq_of_lt h0 h1) (by omega)), fun i c hi => ?_⟩ fun e e0 he ⟨r, hr, hu⟩ => ?_
  · cases i with
    | zero =>
      have hi : (⟨long, ph, n⟩ : Cut) = c := by simpa using hi
      subst hi
      rw [lrows_count]
      show _ = n
      rw [hk]; rfl
    | succ i => simp at hi
  · have hlen : r.length = k + 1 := by
      have h2 := hu 0 _ rfl
      have h3 : r.countP (fun y => decide (y.2 = 0)) = r.length := by
        rw [List.countP_eq_length]
        intro y hy
        have := rows_ix hr y hy
        simp at this
        simp [this]
      rw [h3] at h2
      have h2 : (r.length : Int) = n := h2
      omega
    have := lone_low p1 hl hr hlen
    have en : nxt P 0 ph = ph := by
      unfold nxt
      rw [show ph - 0 = ph by omega, Int.emod_eq_of_lt h0 h1]; omega
    omega
theorem many_lone (long ph n k : Int) : many [⟨long, ph, n⟩] k = [⟨long, ph, n * k⟩] := rfl
theorem turned_lone (P long ph n t : Int) : turned P [⟨long, ph, n⟩] t = [⟨long, (ph - t) % P, n⟩] := rfl
theorem two_form {P f e m F E M : Int} {cs : List Cut} (ok : CW P cs) (hne : cs ≠ []) (h : IsForm P cs f e m) (h1 : IsLeast P cs F) (h2 : ∀ n, 2 ≤ n → IsLeast P (many cs n) (E * n + M)) : f = F ∧ e = E ∧ m = M := by
  have a2 := (h.manyL ok hne (n := 2) (by omega)).uniq (h2 2 (by omega))
  have a3 := (h.manyL ok hne (n := 3) (by omega)).uniq (h2 3 (by omega))
  exact ⟨h.least.uniq h1, by omega, by omega⟩
theorem lone_form {P long ph f e m : Int} (p1 : 1 ≤ P) (hl : 1 ≤ long) (h0 : 0 ≤ ph) (h1 : ph < P) (F : IsForm P [⟨long, ph, 1⟩] f e m) : f = ph + long ∧ e = long + gapOf P long ∧ m = ph - gapOf P long := by
  refine two_form (lone_cw p1 hl h0 h1 (by omega)) (by simp) F ?_ fun n hn => ?_
  · have := lone_least (n := 1) p1 hl h0 h1 (by omega)
    have e : loneEnd P long ph 1 = ph + long := by unfold loneEnd; simp
    rwa [e] at this
  · have := lone_least (n := n) p1 hl h0 h1 (by omega)
    have e : loneEnd P long ph n = (long + gapOf P long) * n + (ph - gapOf P long) := by
      unfold loneEnd
      rw [Int.sub_mul, Int.one_mul, Int.add_mul, Int.mul_comm n long, Int.mul_comm n (gapOf P long)]; omega
    rw [e] at this
    rw [many_lone, Int.one_mul]
    exact this
theorem lone_most {P long ph n x : Int} (p1 : 1 ≤ P) (hl : 1 ≤ long) (h0 : 0 ≤ ph) (h1 : ph < P) (hn : 1 ≤ n) (hx : loneEnd P long ph n ≤ x) (hx2 : x < loneEnd P long ph n + (long + gapOf P long)) : Most P [⟨long, ph, 1⟩] x n := by
  have L := fun n hn => lone_least (n := n) p1 hl h0 h1 hn
  have e0 : 0 ≤ loneEnd P long ph n := (L n hn).1
  refine Most.of (lone_cw p1 hl h0 h1 (by omega)) (by omega) (fun _ => ?_) fun h => ?_
  · rw [many_lone, Int.one_mul]
    exact ((L n hn).iff (lone_cw p1 hl h0 h1 hn) (by omega)).mpr hx
  · rw [many_lone, Int.one_mul] at h
    have := ((L (n + 1) (by omega)).iff (lone_cw p1 hl h0 h1 (by omega)) (by omega)).mp h
    have e : loneEnd P long ph (n + 1) = loneEnd P long ph n + (long + gapOf P long) := by
      unfold loneEnd
      rw [Int.add_mul, show n + 1 - 1 = (n - 1) + 1 by omega, Int.add_mul]; omega
    omega
theorem lone_most0 {P long ph n : Int} (p1 : 1 ≤ P) (hl : 1 ≤ long) (h0 : 0 ≤ ph) (h1 : ph < P) (hn : 1 ≤ n) : Most P [⟨long, ph, 1⟩] (loneEnd P long ph n - 1) (n - 1) := by
  have L := fun n hn => lone_least (n := n) p1 hl h0 h1 hn
  have g0 : 0 ≤ gapOf P long := (emod_in (by omega)).1
  have nn : 0 ≤ (n - 1) * gapOf P long := Int.mul_nonneg (by omega) g0
  have nl : 1 * 1 ≤ n * long := Int.mul_le_mul hn hl (by omega) (by omega)
  have e1 : 1 ≤ loneEnd P long ph n := by unfold loneEnd; omega
  refine Most.of (lone_cw p1 hl h0 h1 (by omega)) (by omega) (fun h2 => ?_) fun h => ?_
  · rw [many_lone, Int.one_mul]
    have e : loneEnd P long ph n = loneEnd P long ph (n - 1) + (long + gapOf P long) := by
      unfold loneEnd
      rw [show n - 1 - 1 = (n - 1) - 1 by omega, Int.sub_mul n 1 long, Int.sub_mul (n - 1) 1 (gapOf P long)]; omega
    exact ((L (n - 1) h2).iff (lone_cw p1 hl h0 h1 h2) (by omega)).mpr (by omega)
  · rw [many_lone, Int.one_mul, show n - 1 + 1 = n by omega] at h
    have := ((L n hn).iff (lone_cw p1 hl h0 h1 hn) (by omega)).mp h
    omega
/-! cuts that follow one another round the period -/
def Chain (P : Int) : Int → List Cut → Prop
  | _, [] => True
  | x, c :: cs => c.phase = x % P ∧ c.times = 1 ∧ 1 ≤ c.long ∧ Chain P (x + c.long) cs
def longs (cs : List Cut) : Int := (cs.map Cut.long).sum
theorem chain_ok {P : Int} (p1 : 1 ≤ P) : ∀ {cs : List Cut} {x : Int}, Chain P x cs → ∀ c ∈ cs, 1 ≤ c.long ∧ 0 ≤ c.phase ∧ c.phase < P ∧ 1 ≤ c.times
  | [], _, _, _, h => by cases h
  | d :: cs, x, ⟨h1, h2, h3, h4⟩, c, hc => by
    rcases List.mem_cons.mp hc with rfl | hc
    · obtain ⟨a, b⟩ := emod_in (a := x) (P := P) (by omega)
      exact ⟨h3, by omega, by omega, by omega⟩
    · exact chain_ok p1 h4 c hc
theorem chain_cover {P q : Int} (p1 : 1 ≤ P) (q0 : 0 ≤ q) (q1 : q < P) : ∀ {cs : List Cut} {x : Int}, Chain P x cs → cover P cs q = st P (x + longs cs) q - st P x q
  | [], x, _ => by show (0 : Int) = st P (x + 0) q - st P x q; rw [Int.add_zero]; omega
  | c :: cs, x, ⟨h1, h2, h3, h4⟩ => by
    have i := chain_cover p1 q0 q1 h4
    have l := st_len (b := x) (c := c) p1 q0 q1 h1.symm
    have e : cover P (c :: cs) q = c.times * cnt P c q + cover P cs q := by unfold cover; rw [List.map_cons, List.sum_cons]
    have e2 : longs (c :: cs) = c.long + longs cs := by unfold longs; rw [List.map_cons, List.sum_cons]
    rw [e, h2, Int.one_mul, i, e2, ← l]
    have : x + (c.long + longs cs) = x + c.long + longs cs := by omega
    rw [this]; omega
theorem chain_comp {P : Int} {R : Int → Int → Prop} : ∀ {cs : List Cut} {x : Int}, Chain P x cs → (∀ c ∈ cs, R c.phase ((c.long + c.phase) % P)) → CompR R (x % P) → ∀ c ∈ cs, CompR R c.phase
  | [], _, _, _, _, _, h => by cases h
  | d :: cs, x, ⟨h1, h2, h3, h4⟩, hR, hx, c, hc => by
    have hd : CompR R d.phase := by rw [h1]; exact hx
    rcases List.mem_cons.mp hc with rfl | hc
    · exact hd
    · refine chain_comp h4 (fun y hy => hR y (List.mem_cons_of_mem d hy)) ?_ c hc
      have := (CompR.step (hR d List.mem_cons_self)).mp hd
      rw [h1, Int.add_emod_emod, Int.add_comm] at this
      exact this
theorem longs_many {cs : List Cut} (m : Int) (h : ∀ c ∈ cs, c.times = 1) : ((many cs m).map fun c => c.times * c.long).sum = longs cs * m := by
  induction cs with
  | nil => show (0 : Int) = 0 * m; rw [Int.zero_mul]
  | cons c cs ih =>
    have i := ih fun y hy => h y (List.mem_cons_of_mem c hy)
    have h1 := h c List.mem_cons_self
    unfold many longs at *
    rw [List.map_cons, List.map_cons, List.sum_cons, i, List.map_cons, List.sum_cons, Int.add_mul]
    show c.times * m * c.long + _ = _
    rw [h1, Int.one_mul, Int.mul_comm]
theorem chain_times {P : Int} : ∀ {cs : List Cut} {x : Int}, Chain P x cs → ∀ c ∈ cs, c.times = 1
  | [], _, _, _, h => by cases h
  | d :: cs, x, ⟨h1, h2, h3, h4⟩, c, hc => by
    rcases List.mem_cons.mp hc with rfl | hc
    · exact h2
    · exact chain_times h4 c hc
theorem st_whole {P W q : Int} (p1 : 1 ≤ P) (q0 : 0 ≤ q) (h : W % P = 0) : st P W q = W / P := by
  unfold st
  rw [h, if_neg (by omega), Int.add_zero]
theorem round_cover {P q : Int} {cs : List Cut} (p1 : 1 ≤ P) (hc : Chain P 0 cs) (hW : longs cs % P = 0) (q0 : 0 ≤ q) (q1 : q < P) : cover P cs q = longs cs / P := by
  have h := chain_cover p1 q0 q1 hc
  rw [Int.zero_add, st_whole p1 q0 hW] at h
  have : st P 0 q = 0 := by rw [st_whole p1 q0 (Int.zero_emod P), Int.zero_ediv]
  omega
theorem round_least {P m : Int} {cs : List Cut} (p1 : 1 ≤ P) (hc : Chain P 0 cs) (hW : longs cs % P = 0) (hm : 1 ≤ m) : IsLeast P (many cs m) (longs cs * m) := by
  have okc : CW P cs := ⟨p1, chain_ok p1 hc⟩
  have ok := okc.many hm
  have W0 : 0 ≤ longs cs := by
    unfold longs
    have : ∀ l : List Cut, (∀ c ∈ l, 1 ≤ c.long) → 0 ≤ (l.map Cut.long).sum := fun l => by
      induction l with
      | nil => intro _; exact Int.le_refl 0
      | cons c l ih => intro h; rw [List.map_cons, List.sum_cons]; have := h c List.mem_cons_self; have := ih fun y hy => h y (List.mem_cons_of_mem c hy); omega
    exact this cs fun c h => (chain_ok p1 hc c h).1
  have hd := Int.emod_add_mul_ediv (longs cs) P
  have hE : (longs cs * m) % P = 0 := by rw [Int.mul_emod, hW]; simp
  have hq : (longs cs * m) / P = longs cs / P * m := by
    have : longs cs * m = P * (longs cs / P * m) := by rw [← Int.mul_assoc]; rw [hW, Int.zero_add] at hd; rw [hd]
    rw [this, Int.mul_ediv_cancel_left _ (by omega)]
  have hw : ∀ q, 0 ≤ q → q < P → wait P (many cs m) (longs cs * m) q = 0 := fun q q0 q1 => by
    rw [wait_st, st_whole p1 q0 hE, hq, cover_many, round_cover p1 hc hW q0 q1, Int.mul_comm m]; omega
  refine ⟨Int.mul_nonneg W0 (by omega), let_iff.mpr ⟨fun q q0 q1 => by rw [hw q q0 q1]; exact Int.le_refl 0, ?_⟩, fun e e0 he h => ?_⟩
  · intro x y r
    rcases r with ⟨c, hcm, rfl, _⟩ | ⟨⟨x0, x1, x2⟩, _⟩
    · obtain ⟨d, hd, rfl⟩ := List.mem_map.mp hcm
      refine chain_comp hc (fun c hc => .inl ⟨⟨c.long, c.phase, c.times * m⟩, List.mem_map.mpr ⟨c, hc, rfl⟩, rfl, rfl⟩) ?_ d hd
      rw [Int.zero_emod]; exact CompR.zero
    · rw [hw x x0 x1] at x2; omega
  · have := few_of_let ok h
    rw [longs_many m (chain_times hc)] at this
    omega
theorem round_form {P f e m : Int} {cs : List Cut} (p1 : 1 ≤ P) (hc : Chain P 0 cs) (hne : cs ≠ []) (hW : longs cs % P = 0) (F : IsForm P cs f e m) : f = longs cs ∧ e = longs cs ∧ m = 0 := by
  refine two_form ⟨p1, chain_ok p1 hc⟩ hne F ?_ fun n hn => ?_
  · have := round_least (m := 1) p1 hc hW (by omega)
    rwa [many_one, Int.mul_one] at this
  · rw [Int.add_zero]; exact round_least p1 hc hW (by omega)
theorem turned_sum (P t : Int) (cs : List Cut) : ((turned P cs t).map fun c => c.times * c.long).sum = (cs.map fun c => c.times * c.long).sum := by
  unfold turned
  rw [List.map_map]
  rfl
theorem turned_zero {P : Int} {cs : List Cut} (ok : CW P cs) : turned P cs 0 = cs := by
  unfold turned
  have : ∀ l : List Cut, (∀ c ∈ l, 0 ≤ c.phase ∧ c.phase < P) → l.map (fun c => (⟨c.long, (c.phase - 0) % P, c.times⟩ : Cut)) = l := fun l => by
    induction l with
    | nil => intro _; rfl
    | cons c l ih =>
      intro h
      obtain ⟨a, b⟩ := h c List.mem_cons_self
      rw [List.map_cons, ih fun y hy => h y (List.mem_cons_of_mem c hy), Int.sub_zero, Int.emod_eq_of_lt a b]
  exact this cs fun c hc => ⟨(ok.ok c hc).2.1, (ok.ok c hc).2.2.1⟩
theorem turned_cw {P t : Int} {cs : List Cut} (ok : CW P cs) : CW P (turned P cs t) := ⟨ok.p1, fun c hc => by
  obtain ⟨d, hd, rfl⟩ := List.mem_map.mp hc
  obtain ⟨a, b, c, e⟩ := ok.ok d hd
  have p1 := ok.p1
  obtain ⟨z1, z2⟩ := emod_in (a := d.phase - t) (P := P) (by omega)
  exact ⟨a, z1, z2, e⟩⟩
/-- where nothing is free at the beginning, the beginning is best -/
theorem tight_best {P m : Int} {cs : List Cut} {es : List Int} {j : Nat} (ok : CW P cs) (h : IsLeast P cs ((cs.map fun c => c.times * c.long).sum))
    (hB : es.length = P.toNat ∧ (∀ (i : Nat) (e : Int), es[i]? = some e → IsLeast P (turned P cs i) e) ∧ es[j]? = some m ∧ (∀ (i : Nat) (e : Int), es[i]? = some e → m ≤ e) ∧ ∀ (i : Nat) (e : Int), i < j → es[i]? = some e → e ≠ m) : j = 0 ∧ m = (cs.map fun c => c.times * c.long).sum := by
  obtain ⟨b1, b2, b3, b4, b5⟩ := hB
  have p1 := ok.p1
  have hz : es[0]? = some (es[0]'(by rw [b1]; omega)) := List.getElem?_eq_getElem _
  have e0 : es[0]'(by rw [b1]; omega) = (cs.map fun c => c.times * c.long).sum := by
    have := b2 0 _ hz
    have tz : turned P cs ((0 : Nat) : Int) = cs := turned_zero ok
    rw [tz] at this
    exact this.uniq h
  rw [e0] at hz
  have m1 := b4 0 _ hz
  have m2 := few_of_let (turned_cw ok) (b2 j m b3).2.1
  rw [turned_sum] at m2
  have em : m = (cs.map fun c => c.times * c.long).sum := by omega
  refine ⟨?_, em⟩
  by_cases z : 0 < j
  · exact absurd em.symm (b5 0 _ z hz)
  · omega
/-! period 1 -/
theorem unit_least {cs : List Cut} (ok : CW 1 cs) : IsLeast 1 cs ((cs.map fun c => c.times * c.long).sum) := by
  have ph : ∀ c ∈ cs, c.phase = 0 := fun c hc => by obtain ⟨_, a, b, _⟩ := ok.ok c hc; omega
  have hw := fun e => sum_wait (e := e) ok
  have s1 : ∀ e, wait 1 cs e 0 + (cs.map fun c => c.times * c.long).sum = e := fun e => by
    have := hw e
    have h2 : sN (1 : Int).toNat (wait 1 cs e) = wait 1 cs e 0 := by
      show (((List.range 1).map fun (n : Nat) => wait 1 cs e (n : Int))).sum = _
      simp
    rw [h2] at this
    exact this
  have s0 : 0 ≤ (cs.map fun c => c.times * c.long).sum := by
    have : ∀ l : List Cut, (∀ c ∈ l, 1 ≤ c.long ∧ 1 ≤ c.times) → 0 ≤ (l.map fun c => c.times * c.long).sum := fun l => by
      induction l with
      | nil => intro _; exact Int.le_refl 0
      | cons c l ih =>
        intro h
        rw [List.map_cons, List.sum_cons]
        obtain ⟨a, b⟩ := h c List.mem_cons_self
        have := Int.mul_nonneg (show 0 ≤ c.times by omega) (show 0 ≤ c.long by omega)
        have := ih fun y hy => h y (List.mem_cons_of_mem c hy)
        omega
    exact this cs fun c hc => ⟨(ok.ok c hc).1, (ok.ok c hc).2.2.2⟩
  refine ⟨s0, let_iff.mpr ⟨fun q q0 q1 => ?_, fun x y r => ?_⟩, fun e e0 he h => ?_⟩
  · have : q = 0 := by omega
    subst this
    have := s1 ((cs.map fun c => c.times * c.long).sum)
    omega
  · have : x = 0 := by
      rcases r with ⟨c, hc, rfl, _⟩ | ⟨⟨a, b, _⟩, _⟩
      · exact ph c hc
      · omega
    rw [this]; exact CompR.zero
  · have := few_of_let ok h
    omega
theorem unit_form {f e m : Int} {cs : List Cut} (ok : CW 1 cs) (hne : cs ≠ []) (F : IsForm 1 cs f e m) : f = (cs.map fun c => c.times * c.long).sum ∧ e = (cs.map fun c => c.times * c.long).sum ∧ m = 0 := by
  refine two_form ok hne F (unit_least ok) fun n hn => ?_
  have h := unit_least (ok.many (show 1 ≤ n by omega))
  have e : ((many cs n).map fun c => c.times * c.long).sum = (cs.map fun c => c.times * c.long).sum * n + 0 := by
    clear h F ok
    induction cs with
    | nil => show (0 : Int) = 0 * n + 0; simp
    | cons c cs ih =>
      by_cases z : cs = []
      · subst z
        show c.times * n * c.long + 0 = (c.times * c.long + 0) * n + 0
        rw [Int.add_zero, Int.add_zero, Int.add_zero, Int.mul_assoc, Int.mul_comm n, ← Int.mul_assoc]
      · have i := ih z
        unfold many at i ⊢
        rw [List.map_cons, List.map_cons, List.sum_cons, i, List.map_cons, List.sum_cons, Int.add_mul]
        show c.times * n * c.long + _ = _
        rw [Int.mul_assoc, Int.mul_comm n, ← Int.mul_assoc]; omega
  rw [e] at h
  exact h
/-! two cuts of whole rounds -/
def apart (P r one n other m : Int) : List Cut := [⟨r * P, one, n⟩, ⟨P, other, m⟩]
section
variable {P r one n other m : Int}
theorem apart_cw (p1 : 1 ≤ P) (r1 : 1 ≤ r) (n1 : 1 ≤ n) (m1 : 1 ≤ m) (a0 : 0 ≤ one) (a1 : one < P) (b0 : 0 ≤ other) (b1 : other < P) : CW P (apart P r one n other m) := ⟨p1, fun c hc => by
  have h1 : 1 * 1 ≤ r * P := Int.mul_le_mul r1 p1 (by omega) (by omega)
  simp only [apart, List.mem_cons, List.not_mem_nil, or_false] at hc
  rcases hc with rfl | rfl
  · exact ⟨by show 1 ≤ r * P; omega, a0, a1, n1⟩
  · exact ⟨p1, b0, b1, m1⟩⟩
theorem cnt_rounds {P k ph t q : Int} (p1 : 1 ≤ P) : cnt P ⟨k * P, ph, t⟩ q = k := by
  obtain ⟨y1, y2⟩ := emod_in (a := q - ph) (P := P) (by omega)
  unfold cnt
  dsimp only
  rw [Int.mul_ediv_cancel _ (by omega), Int.mul_emod_left, if_neg (by omega), Int.add_zero]
theorem apart_cover (p1 : 1 ≤ P) (q : Int) : cover P (apart P r one n other m) q = r * n + m := by
  have h1 := cnt_rounds (P := P) (k := r) (ph := one) (t := n) (q := q) p1
  have h2 := cnt_rounds (P := P) (k := 1) (ph := other) (t := m) (q := q) p1
  rw [Int.one_mul] at h2
  unfold cover apart
  simp only [List.map_cons, List.map_nil, List.sum_cons, List.sum_nil]
  rw [h1, h2, Int.mul_one, Int.mul_comm r n]; omega
def apartC (r n m : Int) : Int := r * n + m
theorem apart_wait (p1 : 1 ≤ P) {z q : Int} (z0 : 0 ≤ z) (z1 : z < P) : wait P (apart P r one n other m) (P * apartC r n m + z) q = if q < z then 1 else 0 := by
  obtain ⟨d1, d2⟩ := div_of (p := P) (a := apartC r n m) (l := z) z0 z1
  rw [wait_st, apart_cover p1]
  unfold st
  rw [Int.mul_comm P, d1, d2]
  unfold apartC
  omega
/-- what hangs together with 0 -/
theorem apart_comp (p1 : 1 ≤ P) (a0 : 0 ≤ one) (a1 : one < P) (b0 : 0 ≤ other) (b1 : other < P) {z q : Int} (z0 : 0 ≤ z) (z1 : z < P) : CompR (Ed P (apart P r one n other m) (Fr P (apart P r one n other m) (P * apartC r n m + z))) q ↔ 0 ≤ q ∧ q ≤ z := by
  constructor
  · intro h
    refine h (fun q => 0 ≤ q ∧ q ≤ z) ⟨Int.le_refl 0, z0⟩ fun x y ed => ?_
    rcases ed with ⟨c, hc, rfl, rfl⟩ | ⟨⟨x0, x1, x2⟩, rfl⟩
    · simp only [apart, List.mem_cons, List.not_mem_nil, or_false] at hc
      rcases hc with rfl | rfl
      · show _ ↔ 0 ≤ (r * P + one) % P ∧ (r * P + one) % P ≤ z
        rw [Int.mul_add_emod_self_right, Int.emod_eq_of_lt a0 a1]
      · show _ ↔ 0 ≤ (P + other) % P ∧ (P + other) % P ≤ z
        rw [Int.add_emod_left, Int.emod_eq_of_lt b0 b1]
    · rw [apart_wait p1 z0 z1] at x2
      by_cases hx : x < z
      · rw [Int.emod_eq_of_lt (by omega) (by omega)]
        omega
      · rw [if_neg hx] at x2; omega
  · rintro ⟨q0, q1⟩
    have key : ∀ k : Nat, (k : Int) ≤ z → CompR (Ed P (apart P r one n other m) (Fr P (apart P r one n other m) (P * apartC r n m + z))) (k : Int) := fun k => by
      induction k with
      | zero => intro _; exact CompR.zero
      | succ k ih =>
        intro hk
        have i := ih (by omega)
        have ed : Ed P (apart P r one n other m) (Fr P (apart P r one n other m) (P * apartC r n m + z)) (k : Int) (((k : Int) + 1) % P) := .inr ⟨⟨by omega, by omega, by rw [apart_wait p1 z0 z1, if_pos (by omega)]; omega⟩, rfl⟩
        have := (CompR.step ed).mp i
        rw [Int.emod_eq_of_lt (by omega) (by omega)] at this
        exact this
    have := key q.toNat (by omega)
    rwa [Int.toNat_of_nonneg q0] at this
theorem apart_least (p1 : 1 ≤ P) (r1 : 1 ≤ r) (n1 : 1 ≤ n) (m1 : 1 ≤ m) (a0 : 0 ≤ one) (a1 : one < P) (b0 : 0 ≤ other) (b1 : other < P) : IsLeast P (apart P r one n other m) (P * apartC r n m + max one other) := by
  have ok := apart_cw p1 r1 n1 m1 a0 a1 b0 b1
  have c0 : 0 ≤ apartC r n m := by unfold apartC; have := Int.mul_nonneg (show 0 ≤ r by omega) (show 0 ≤ n by omega); omega
  have pc : 0 ≤ P * apartC r n m := Int.mul_nonneg (by omega) c0
  refine ⟨by omega, let_iff.mpr ⟨fun q q0 q1 => ?_, fun x y ed => ?_⟩, fun e e0 he h => ?_⟩
  · rw [apart_wait p1 (by omega) (by omega)]; split <;> omega
  · refine (apart_comp p1 a0 a1 b0 b1 (by omega) (by omega)).mpr ?_
    rcases ed with ⟨c, hc, rfl, _⟩ | ⟨⟨x0, x1, x2⟩, _⟩
    · simp only [apart, List.mem_cons, List.not_mem_nil, or_false] at hc
      rcases hc with rfl | rfl
      · show 0 ≤ one ∧ one ≤ _; omega
      · show 0 ≤ other ∧ other ≤ _; omega
    · rw [apart_wait p1 (by omega) (by omega)] at x2
      split at x2 <;> omega
  · obtain ⟨hn, hh⟩ := let_iff.mp h
    have hge : P * apartC r n m ≤ e := by
      have := hn (P - 1) (by omega) (by omega)
      rw [wait_st, apart_cover p1] at this
      unfold st at this
      obtain ⟨y1, y2⟩ := emod_in (a := e) (P := P) (by omega)
      rw [if_neg (by omega)] at this
      have hd := Int.emod_add_mul_ediv e P
      have : P * apartC r n m ≤ P * (e / P) := Int.mul_le_mul_of_nonneg_left (by unfold apartC; omega) (by omega)
      omega
    obtain ⟨z, rfl⟩ : ∃ z, e = P * apartC r n m + z := ⟨e - P * apartC r n m, by omega⟩
    have h1 := hh one ((r * P + one) % P) (.inl ⟨⟨r * P, one, n⟩, by simp [apart], rfl, rfl⟩)
    have h2 := hh other ((P + other) % P) (.inl ⟨⟨P, other, m⟩, by simp [apart], rfl, rfl⟩)
    rw [apart_comp p1 a0 a1 b0 b1 (by omega) (by omega)] at h1 h2
    omega
theorem apart_many (k : Int) : many (apart P r one n other m) k = apart P r one (n * k) other (m * k) := rfl
theorem apart_turned (t : Int) : turned P (apart P r one n other m) t = apart P r ((one - t) % P) n ((other - t) % P) m := rfl
theorem apart_form {f e mo : Int} (p1 : 1 ≤ P) (r1 : 1 ≤ r) (n1 : 1 ≤ n) (m1 : 1 ≤ m) (a0 : 0 ≤ one) (a1 : one < P) (b0 : 0 ≤ other) (b1 : other < P) (F : IsForm P (apart P r one n other m) f e mo) : f = P * apartC r n m + max one other ∧ e = P * apartC r n m ∧ mo = max one other := by
  refine two_form (apart_cw p1 r1 n1 m1 a0 a1 b0 b1) (by simp [apart]) F (apart_least p1 r1 n1 m1 a0 a1 b0 b1) fun k hk => ?_
  have k1 : 1 * 1 ≤ n * k := Int.mul_le_mul n1 (by omega) (by omega) (by omega)
  have k2 : 1 * 1 ≤ m * k := Int.mul_le_mul m1 (by omega) (by omega) (by omega)
  have h := apart_least p1 r1 (n := n * k) (m := m * k) (by omega) (by omega) a0 a1 b0 b1
  have e : P * apartC r (n * k) (m * k) = P * apartC r n m * k := by
    unfold apartC
    rw [← Int.mul_assoc r, ← Int.add_mul, Int.mul_assoc]
  rw [apart_many, ← e]
  exact h
/-- the best beginning of two -/
theorem apart_best {mo : Int} {es : List Int} {j : Nat} (p1 : 1 ≤ P) (r1 : 1 ≤ r) (n1 : 1 ≤ n) (m1 : 1 ≤ m) (a0 : 0 ≤ one) (a1 : one < P) (b0 : 0 ≤ other) (b1 : other < P) (hne : one ≠ other)
    (hB : es.length = P.toNat ∧ (∀ (i : Nat) (e : Int), es[i]? = some e → IsLeast P (turned P (apart P r one n other m) i) e) ∧ es[j]? = some mo ∧ (∀ (i : Nat) (e : Int), es[i]? = some e → mo ≤ e) ∧ ∀ (i : Nat) (e : Int), i < j → es[i]? = some e → e ≠ mo) :
    (j : Int) = (if max one other - min one other ≤ min one other + P - max one other then min one other else max one other) ∧ mo = P * apartC r n m + min (max one other - min one other) (min one other + P - max one other) := by
  have hmod : ∀ x t, 0 ≤ x → x < P → 0 ≤ t → t < P → (x - t) % P = if t ≤ x then x - t else x - t + P := fun x t x0 x1 t0 t1 => by
    split
    · exact Int.emod_eq_of_lt (by omega) (by omega)
    · rw [← Int.add_emod_right, Int.emod_eq_of_lt (by omega) (by omega)]
  have hL : ∀ t, 0 ≤ t → t < P → IsLeast P (turned P (apart P r one n other m) t) (P * apartC r n m + max ((one - t) % P) ((other - t) % P)) := fun t t0 t1 => by
    obtain ⟨x0, x1⟩ := emod_in (a := one - t) (P := P) (by omega)
    obtain ⟨y0, y1⟩ := emod_in (a := other - t) (P := P) (by omega)
    exact apart_least p1 r1 n1 m1 x0 x1 y0 y1
  generalize hT : (if max one other - min one other ≤ min one other + P - max one other then min one other else max one other) = T
  have hT0 : 0 ≤ T ∧ T < P := by rw [← hT]; split <;> omega
  have val : max ((one - T) % P) ((other - T) % P) = min (max one other - min one other) (min one other + P - max one other) := by
    rw [hmod one T a0 a1 hT0.1 hT0.2, hmod other T b0 b1 hT0.1 hT0.2, ← hT]
    split <;> split <;> split <;> omega
  have hlow : ∀ t, 0 ≤ t → t < P → P * apartC r n m + max ((one - T) % P) ((other - T) % P) ≤ P * apartC r n m + max ((one - t) % P) ((other - t) % P) := fun t t0 t1 => by
    rw [val, hmod one t a0 a1 t0 t1, hmod other t b0 b1 t0 t1]
    split <;> split <;> omega
  have hfirst : ∀ t, 0 ≤ t → t < T → P * apartC r n m + max ((one - t) % P) ((other - t) % P) ≠ P * apartC r n m + max ((one - T) % P) ((other - T) % P) := fun t t0 t1 => by
    have t2 : t < P := by omega
    rw [val, hmod one t a0 a1 t0 t2, hmod other t b0 b1 t0 t2]
    rw [← hT] at t1
    split at t1 <;> split <;> split <;> omega
  obtain ⟨e1, e2⟩ := best_is (L := fun t => P * apartC r n m + max ((one - t) % P) ((other - t) % P)) (t0 := T) p1 hL hT0.1 hT0.2 hlow hfirst hB
  exact ⟨e1, by rw [e2]; show _ + max ((one - T) % P) ((other - T) % P) = _; rw [val]⟩
end
end K90


set_option pp.maxSteps 400
set_option maxHeartbeats 4000000
namespace K90
open PySem PySem.Spec PyProof.Rows L2 DL
variable {P : Program} {w : World} {K : PySem.W.Frag} {mg : Str → Option Value} {base : Heap} {a : Ad}
/-! ### Form.least, cover_of, lane; readings of == -/
theorem ifT {p q : Prop} (h : p) : if true = true then p else q := by rw [if_pos rfl]; exact h
theorem ifF {p q : Prop} (h : q) : if false = true then p else q := by rw [if_neg (by decide)]; exact h
theorem seq_skip {c : TDT} {t rest : TSd} {E : EndsD} {sl : SL} {k : Nat} (h : rest E sl k) (hc : rest E sl k → dIfS c t dNext { E with nx := rest E } sl k) : dSeq (dIfS c t dNext) rest E sl k := hc h
theorem ifs_or2 {A B : TDT} {t u : TSd} {E : EndsD} {sl : SL} {k : Nat} (h : B sl k fun b k' => if b = true then t E sl k' else u E sl k') (ha : (B sl k fun b k' => if b = true then t E sl k' else u E sl k') → A sl k fun b k' => if b = true then (if true = true then t E sl k' else u E sl k') else B sl k' fun b k' => if b = true then t E sl k' else u E sl k') :
    dIfS (dOr A B) t u E sl k := ha h
theorem or_skip2 {A B : TDT} {sl : SL} {k : Nat} {Q : Bool → Nat → Prop} (h : B sl k Q) (ha : B sl k Q → A sl k fun b k' => if b = true then Q true k' else B sl k' Q) : dOr A B sl k Q := ha h
theorem shaped_tints (ns : List Int) : SeqAt.shaped (.tuple (ns.map PyData.int)) = true := by
  obtain ⟨h1, h2⟩ := lay_ints ns
  unfold SeqAt.shaped
  have e1 : PyData.canLay0 (.tuple (ns.map PyData.int)) = true := by unfold PyData.canLay0; exact h1
  have e2 : PyData.depth (.tuple (ns.map PyData.int)) ≤ 64 := by unfold PyData.depth; omega
  rw [e1, decide_eq_true e2]
  rfl
theorem eqJ {neg : Bool} {i j : Int} {Q : D → Prop} (e : i = j) (q : Q (.bl (!neg))) : DL.rEqD neg (.int i) (.int j) Q := .inl ⟨i, j, rfl, rfl, by subst e; cases neg <;> simpa using q⟩
theorem eqT {neg : Bool} {ns ms : List Int} {Q : D → Prop} (e : ns = ms) (q : Q (.bl (!neg))) : DL.rEqD neg (.tup (ns.map D.int)) (.tup (ms.map D.int)) Q := by
  subst e
  have hpy : pyD (.tup (ns.map D.int)) = some (.tuple (ns.map PyData.int)) := by show (pyL _).map PyData.tuple = _; rw [py_ints]; rfl
  have hev : PyData.eqv (.tuple (ns.map PyData.int)) (.tuple (ns.map PyData.int)) = true := by unfold PyData.eqv; exact eqv_ints _
  refine .inr ⟨_, _, hpy, hpy, shaped_tints _, shaped_tints _, ?_⟩
  rw [hev]
  cases neg <;> exact q
theorem eqLi {neg : Bool} {ns ms : List Int} {Q : D → Prop} (e : ns = ms) (q : Q (.bl (!neg))) : DL.rEqD neg (intsD ns) (intsD ms) Q := by
  subst e
  have hpy : pyD (intsD ns) = some (.list (ns.map PyData.int)) := by show (pyL _).map PyData.list = _; rw [py_ints]; rfl
  have hev : PyData.eqv (.list (ns.map PyData.int)) (.list (ns.map PyData.int)) = true := by unfold PyData.eqv; exact eqv_ints _
  refine .inr ⟨_, _, hpy, hpy, shaped_ints _, shaped_ints _, ?_⟩
  rw [hev]
  cases neg <;> exact q
def fd_fleast (a : Ad) : FD := FD.all (fun i : Int × Int × Int × Int => [formD a i.1 i.2.1 i.2.2.1, .int i.2.2.2]) (fun i => 1 ≤ i.2.2.2 ∧ i.2.2.2 ≤ 1000000000000) fun i d => d = .int (if i.2.2.2 = 1 then i.1 else i.2.1 * i.2.2.2 + i.2.2.1)
theorem ok_Formleast (T : Tx P K mg a) : FnOk P w K mg base CX0 4 a.f_Formleast a.d_Formleast ["self", "copies"] (liftSp K (fd_fleast a)) := by
  refine def_ok T.F_Formleast sc_Formleast (fun ds Q h => ?_) fun cdv A outer s H E hr => ⟨_,
    (dss_cons (ds_expr (de_call (ok_need_number T) (hr.mono (by decide)) (by rfl) T.m_need_number T.F_need_number.kp T.b_need_number (da_cons de_str (da_cons (dv 1) (da_cons de_int (da_cons (de_globI (by rfl) T.c_MOST_LONG) da_nil))))))
      (dss_one (ds_ret (de_if (dt_cmp (os_eq hr.units) (dv 1) de_int) (de_fld (dv 0)) (de_op os_add (de_op os_mul (de_fld (dv 0)) (dv 1)) (de_fld (dv 0))))))), ?_⟩
  · obtain ⟨i, rfl, _⟩ := h; rfl
  · intro ds Q h
    obtain ⟨⟨f, e, m, n⟩, rfl, ⟨h1, h2⟩, q⟩ := h
    dsimp only at h1 h2 q
    obtain ⟨ff, fe, fm⟩ := fld_form T
    refine ⟨_, rfl, _, ⟨_, _, _, _, rfl, h1, h2, rfl⟩, ?_⟩
    refine ⟨_, rfl, .inl ⟨_, _, rfl, rfl, _, rfl, ?_⟩⟩
    refine if_b (c := decide (n = 1)) rfl (fun hh => ?_) fun hh => ?_
    · refine ⟨_, rfl, _, _, _, rfl, ff, rfl, q _ ?_⟩
      rw [if_pos (of_decide_eq_true hh)]
    · refine ⟨_, rfl, _, _, _, rfl, fe, rfl, _, rfl, _, _, rfl, rfl, .inr ⟨by dsimp only; omega, by dsimp only; omega⟩, _, rfl, _, _, _, rfl, fm, rfl, _, _, rfl, rfl, q _ ?_⟩
      rw [if_neg (of_decide_eq_false hh)]
def fd_cover_of : FD := FD.all (fun i : Int × Bool × List Cut => [.int i.1, cutsE i.2.1 i.2.2]) (fun i => CutsOk i.1 i.2.2) fun i d => d = .tup ((rng i.1 (cover i.1 i.2.2)).map D.int)
theorem ok_cover_of (T : Tx P K mg a) : FnOk P w K mg base CX0 5 a.f_cover_of a.d_cover_of ["period", "cuts"] (liftSp K fd_cover_of) := by
  refine def_ok T.F_cover_of sc_cover_of (fun ds Q h => ?_) fun cdv A outer s H E hr => ⟨_,
    (dss_one (ds_ret (dn_ty cg_tuple (by rfl) T.m_tuple (by decide +kernel) (da_cons (de_call (ok_taken_by T) (hr.mono (by decide)) (by rfl) T.m_taken_by T.F_taken_by.kp T.b_taken_by (da_cons (dv 0) (da_cons (de_call (ok_need_cuts T) (hr.mono (by decide)) (by rfl) T.m_need_cuts T.F_need_cuts.kp T.b_need_cuts (da_cons (dv 0) (da_cons (dv 1) da_nil))) da_nil))) da_nil)).de)), ?_⟩
  · obtain ⟨i, rfl, _⟩ := h; rfl
  · intro ds Q h
    obtain ⟨⟨p, b, cs⟩, rfl, ok, q⟩ := h
    dsimp only at ok q
    refine ⟨_, rfl, _, rfl, _, rfl, _, ⟨p, cs, ?_, ok, rfl⟩, _, ⟨p, cs, rfl, ok, rfl⟩, _, _, rfl, .inl rfl, q _ rfl⟩
    cases b with
    | true => exact .inr rfl
    | false => exact .inl rfl
def bigE : Int := 1000000000000000000000000000000
def fd_lane (a : Ad) : FD := FD.all (fun i : Int × Bool × List Cut × Int => [.int i.1, cutsE i.2.1 i.2.2.1, .int i.2.2.2]) (fun i => CutsOk i.1 i.2.2.1 ∧ 0 ≤ i.2.2.2 ∧ i.2.2.2 ≤ bigE) fun i d => ∃ C fs b, d = .ins C fs ∧ isTrue a C b ∧ (fs.all fun u => u.1 != "IS_TRUE") = true ∧ (b = true ↔ Let i.1 i.2.2.1 i.2.2.2) ∧ LaneIs a i.1 i.2.2.1 i.2.2.2 d
theorem ok_lane (T : Tx P K mg a) : FnOk P w K mg base CX0 12 a.f_lane a.d_lane ["period", "cuts", "end"] (liftSp K (fd_lane a)) := by
  refine def_ok T.F_lane sc_lane (fun ds Q h => ?_) fun cdv A outer s H E hr => ⟨_,
    (dss_cons (ds_set (i := 3) sc_lane.nd rfl (.inl rfl) (dv_d (de_call (ok_need_cuts T) (hr.mono (by decide)) (by rfl) T.m_need_cuts T.F_need_cuts.kp T.b_need_cuts (da_cons (dv 0) (da_cons (dv 1) da_nil)))))
    (dss_cons (ds_expr (de_call (ok_need_number T) (hr.mono (by decide)) (by rfl) T.m_need_number T.F_need_number.kp T.b_need_number (da_cons de_str (da_cons (dv 2) (da_cons de_int (da_cons (de_globI (by rfl) T.c_MOST_END) da_nil))))))
    (dss_one (ds_ret (de_call (ok_lane_by T) (hr.mono (by decide)) (by rfl) T.m_lane_by T.F_lane_by.kp T.b_lane_by (da_cons (dv 0) (da_cons (dv 3) (da_cons (de_call (ok_taken_by T) (hr.mono (by decide)) (by rfl) T.m_taken_by T.F_taken_by.kp T.b_taken_by (da_cons (dv 0) (da_cons (dv 3) da_nil))) (da_cons (dv 2) da_nil))))))))), ?_⟩
  · obtain ⟨i, rfl, _⟩ := h; rfl
  · intro ds Q h
    obtain ⟨⟨p, b, cs, e⟩, rfl, ⟨ok, e0, e1⟩, q⟩ := h
    dsimp only at ok e0 e1 q
    refine ⟨_, rfl, _, rfl, _, ⟨p, cs, by cases b <;> first | exact .inl rfl | exact .inr rfl, ok, rfl⟩, ?_⟩
    refine ⟨_, rfl, _, ⟨_, e, 0, bigE, rfl, e0, e1, rfl⟩, ?_⟩
    exact ⟨_, rfl, _, rfl, _, rfl, _, rfl, _, ⟨p, cs, rfl, ok, rfl⟩, _, rfl, (p, cs, e), rfl, ⟨ok, e0⟩, q⟩
theorem form_copies {p f e m n : Int} {cs : List Cut} (F : IsForm p cs f e m) (ok : CW p cs) (hne : cs ≠ []) (hn : 1 ≤ n) : IsLeast p (many cs n) (if n = 1 then f else e * n + m) := by
  by_cases h1 : n = 1
  · rw [if_pos h1, h1, many_one]; exact F.least
  · rw [if_neg h1]; exact F.manyL ok hne (by omega)
theorem seq_two2 {c : TDT} {t u rest : TSd} {E : EndsD} {sl : SL} {k : Nat} (J : SL → Nat → Prop) (h : ∀ sl' k', J sl' k' → rest E sl' k') (hc : (∀ sl' k', J sl' k' → rest E sl' k') → dIfS c t u { E with nx := rest E } sl k) : dSeq (dIfS c t u) rest E sl k := hc h
def fp_y : FP := ⟨fun k ds Q => ds = [] ∧ k ≤ 50000 ∧ ∀ k', k' ≤ k + 100 → Q (.bl true) k', fun k ds P Q h ⟨a, b, q⟩ => ⟨a, b, fun k' x => h _ _ (q k' x)⟩⟩
theorem cp9 : CPow 10 9 := ⟨by decide, by decide, by decide⟩
theorem pick2 {x M : Int} {md : D} (h : md ∈ [D.int x, D.int (10 ^ (9 : Int).toNat)]) (hx : 0 ≤ x) (hM : x ≤ 1000000000) : ∃ m : Int, md = .int m ∧ 0 ≤ m ∧ m ≤ 1000000000 := by
  simp only [List.mem_cons, List.not_mem_nil, or_false] at h
  rcases h with rfl | rfl
  · exact ⟨x, rfl, hx, hM⟩
  · exact ⟨_, rfl, by decide, by decide⟩
end K90


set_option pp.maxSteps 400
set_option maxHeartbeats 4000000
namespace K90
open PySem PySem.Spec PyProof.Rows L2 DL
variable {P : Program} {w : World} {K : PySem.W.Frag} {mg : Str → Option Value} {base : Heap} {a : Ad}
/-! ### one cut -/
theorem lone_ok {p long ph n : Int} (p1 : 1 ≤ p) (p60 : p ≤ 60) (l1 : 1 ≤ long) (l2 : long ≤ 1000000000000) (h0 : 0 ≤ ph) (h1 : ph < p) (n1 : 1 ≤ n) (n2 : n ≤ 1000000000000) : CutsOk p [⟨long, ph, n⟩] := ⟨p1, p60, fun c hc => by rw [List.mem_singleton.mp hc]; exact ⟨l1, l2, h0, h1, n1, n2⟩, Nat.le_of_ble_eq_true rfl⟩
theorem ok__law_lone_right (T : Tx P K mg a) : FnOk P w K mg base CX0 15 a.f__law_lone_right a.d__law_lone_right ["pen"] (liftSpP K fp_y) := by
  refine def_okP T.F__law_lone_right sc__law_lone_right (fun k ds Q h => ?_) fun cdv A outer s H E hr => ⟨_,
    (dss_cons (ds_set (i := 1) sc__law_lone_right.nd rfl (.inl rfl) (dv_d (de_op os_add de_int (de_callP (ok__law_draw T) (hr.mono (by decide)) (by rfl) T.m__law_draw T.F__law_draw.kp T.b__law_draw (pv 0) (da_cons de_int da_nil)))))
    (dss_cons (ds_par3 (i := 2) (j := 3) (l := 4) rfl sc__law_lone_right.nd rfl rfl rfl (by decide) (by decide) (by decide) rfl rfl rfl (dvs_cons (dv_d (de_op os_add de_int (de_callP (ok__law_draw T) (hr.mono (by decide)) (by rfl) T.m__law_draw T.F__law_draw.kp T.b__law_draw (pv 0) (da_cons de_int da_nil)))) (dvs_cons (dv_d (de_callP (ok__law_draw T) (hr.mono (by decide)) (by rfl) T.m__law_draw T.F__law_draw.kp T.b__law_draw (pv 0) (da_cons (dv 1) da_nil))) (dvs_cons (dv_d (de_op os_add de_int (de_callP (ok__law_pick T) (hr.mono (by decide)) (by rfl) T.m__law_pick T.F__law_pick.kp T.b__law_pick (pv 0) (da_cons (dn_lst (da_cons (de_callP (ok__law_draw T) (hr.mono (by decide)) (by rfl) T.m__law_draw T.F__law_draw.kp T.b__law_draw (pv 0) (da_cons de_int da_nil)) (da_cons (de_op os_pow de_int de_int) da_nil))).de da_nil)))) dvs_nil))) (by rfl))
    (dss_cons (ds_set (i := 5) sc__law_lone_right.nd rfl (.inl rfl) (dv_d (de_op os_mod (dn_ty cg_int (by rfl) T.m_int (by decide +kernel) (da_cons (de_op os_sub de_int (dv 2)) da_nil)).de (dv 1))))
    (dss_cons (ds_set (i := 6) sc__law_lone_right.nd rfl (.inl rfl) (dv_d (de_op os_add (de_op os_add (dv 3) (de_op os_mul (dv 4) (dv 2))) (de_op os_mul (de_op os_sub (dv 4) de_int) (dv 5)))))
    (dss_cons (ds_if (dt_w (dw_or (dt_cmp (os_ne hr.units) (de_call (ok_least_end T) (hr.mono (by decide)) (by rfl) T.m_least_end T.F_least_end.kp T.b_least_end (da_cons (dv 1) (da_cons (dn_lst (da_cons (de_tup (da_cons (dv 2) (da_cons (dv 3) (da_cons (dv 4) da_nil)))) da_nil)).de da_nil))) (dv 6)) (dw_or1 (dt_cmp (os_ne hr.units) (de_meth (de_call (ok_form T) (hr.mono (by decide)) (by rfl) T.m_form T.F_form.kp T.b_form (da_cons (dv 1) (da_cons (dn_lst (da_cons (de_tup (da_cons (dv 2) (da_cons (dv 3) (da_cons de_int da_nil)))) da_nil)).de da_nil))) T.cl_Form T.me_Formleast (ok_Formleast T) (hr.mono (by decide)) T.b_Formleast (da_cons (dv 4) da_nil)) (dv 6)))))
      (dss_one (ds_ret de_bl))
      dss_nil)
    (dss_cons (ds_set (i := 7) sc__law_lone_right.nd rfl (.inl rfl) (dv_d (de_call (ok_form T) (hr.mono (by decide)) (by rfl) T.m_form T.F_form.kp T.b_form (da_cons (dv 1) (da_cons (dn_lst (da_cons (de_tup (da_cons (dv 2) (da_cons (dv 3) (da_cons de_int da_nil)))) da_nil)).de da_nil)))))
    (dss_cons (ds_if (dt_w (dw_or (dt_cmp (os_ne hr.units) (de_tup (da_cons (de_fld (dv 7)) (da_cons (de_fld (dv 7)) (da_cons (de_fld (dv 7)) da_nil)))) (de_tup (da_cons (de_op os_add (dv 3) (dv 2)) (da_cons (de_op os_add (dv 2) (dv 5)) (da_cons (de_op os_sub (dv 3) (dv 5)) da_nil))))) (dw_or1 (dt_cmp (os_ne hr.units) (de_call (ok_best_begin T) (hr.mono (by decide)) (by rfl) T.m_best_begin T.F_best_begin.kp T.b_best_begin (da_cons (dv 1) (da_cons (dn_lst (da_cons (de_tup (da_cons (dv 2) (da_cons (dv 3) (da_cons (dv 4) da_nil)))) da_nil)).de da_nil))) (de_tup (da_cons (dv 3) (da_cons (de_op os_sub (dv 6) (dv 3)) da_nil)))))))
      (dss_one (ds_ret de_bl))
      dss_nil)
    (dss_cons (ds_set (i := 8) sc__law_lone_right.nd rfl (.inl rfl) (dv_d (de_op os_add (dv 6) (de_callP (ok__law_draw T) (hr.mono (by decide)) (by rfl) T.m__law_draw T.F__law_draw.kp T.b__law_draw (pv 0) (da_cons (de_op os_add (dv 2) (dv 5)) da_nil)))))
    (dss_one (ds_ret (de_and (de_cmp (os_eq hr.units) (de_call (ok_copies_within T) (hr.mono (by decide)) (by rfl) T.m_copies_within T.F_copies_within.kp T.b_copies_within (da_cons (dv 1) (da_cons (dn_lst (da_cons (de_tup (da_cons (dv 2) (da_cons (dv 3) (da_cons de_int da_nil)))) da_nil)).de (da_cons (dv 8) da_nil)))) (dv 4)) (de_one (de_cmp (os_eq hr.units) (de_call (ok_copies_within T) (hr.mono (by decide)) (by rfl) T.m_copies_within T.F_copies_within.kp T.b_copies_within (da_cons (dv 1) (da_cons (dn_lst (da_cons (de_tup (da_cons (dv 2) (da_cons (dv 3) (da_cons de_int da_nil)))) da_nil)).de (da_cons (de_op os_sub (dv 6) de_int) da_nil)))) (de_op os_sub (dv 4) de_int)))))))))))))), ?_⟩
  · obtain ⟨rfl, _⟩ := h; rfl
  · intro k ds Q h
    obtain ⟨rfl, hk, q⟩ := h
    refine ⟨rfl, by rfl, 12, rfl, by omega, by omega, by omega, fun v v0 v1 => ?_⟩
    refine ⟨_, _, rfl, rfl, ?_⟩
    dsimp only
    generalize hp : 1 + v = p at *
    have p1 : 1 ≤ p := by omega
    have p12 : p ≤ 12 := by omega
    refine ⟨rfl, by rfl, 40, rfl, by omega, by omega, by omega, fun l l0 l1' => ?_⟩
    refine ⟨_, _, rfl, rfl, ?_⟩
    refine ⟨rfl, by rfl, _, rfl, p, rfl, by omega, by omega, by omega, fun ph h0 h1 => ?_⟩
    refine ⟨rfl, by rfl, rfl, by rfl, 5, rfl, by omega, by omega, by omega, fun x x0 x1 => ?_⟩
    refine ⟨_, _, rfl, rfl, cp9, Nat.le_of_ble_eq_true rfl, _, rfl, (fun z => by cases z), Nat.le_of_ble_eq_true rfl, by omega, fun md hmd => ?_⟩
    obtain ⟨M, rfl, M0, M1⟩ := pick2 (M := 0) hmd x0 (by omega)
    refine ⟨_, _, rfl, rfl, rfl, ?_⟩
    dsimp only
    generalize hl : 1 + l = long at *
    generalize hn : 1 + M = n at *
    have l1 : 1 ≤ long := by omega
    have l40 : long ≤ 40 := by omega
    have n1 : 1 ≤ n := by omega
    have n2 : n ≤ 1000000001 := by omega
    clear hmd
    have ok := lone_ok p1 (by omega) l1 (by omega) h0 h1 n1 (by omega)
    have ok1 := lone_ok (n := 1) p1 (by omega) l1 (by omega) h0 h1 (by omega) (by omega)
    have hL := lone_least p1 l1 h0 h1 n1
    have g0 : 0 ≤ gapOf p long := (emod_in (by omega)).1
    have g1 : gapOf p long < p := (emod_in (by omega)).2
    obtain ⟨ff, fe, fm⟩ := fld_form T
    -- gap, due
    refine ⟨_, rfl, _, _, rfl, rfl, .inl ⟨_, rfl, _, rfl, _, _, rfl, rfl, by omega, ?_⟩⟩
    refine ⟨_, rfl, _, rfl, _, rfl, _, _, rfl, rfl, .inl ⟨by omega, by omega⟩, _, _, rfl, rfl, _, rfl, _, _, rfl, rfl, _, rfl, _, _, rfl, rfl, .inl ⟨by omega, by omega⟩, _, _, rfl, rfl, ?_⟩
    dsimp only
    have eg : (0 - long) % p = gapOf p long := rfl
    have ed : ph + n * long + (n - 1) * ((0 - long) % p) = loneEnd p long ph n := rfl
    rw [ed, eg]
    generalize hD : loneEnd p long ph n = due at *
    have D0 := hL.1
    have bn : n * long ≤ 1000000001 * 40 := Int.mul_le_mul n2 l40 (by omega) (by omega)
    have bg : (n - 1) * gapOf p long ≤ 1000000001 * 12 := Int.mul_le_mul (by omega) (by omega) g0 (by omega)
    have DB : due ≤ 1000000000000 := by
      rw [← hD]; unfold loneEnd; omega
    -- the least end
    refine seq_skip ?s1 fun nx => ?g1
    case g1 =>
      refine ifs_or2 ?b1 fun nb => ?a1
      case a1 =>
        refine ⟨_, rfl, _, rfl, _, rfl, _, rfl, Nat.le_of_ble_eq_true rfl, Nat.le_of_ble_eq_true rfl, (p, false, [⟨long, ph, n⟩]), rfl, ok, fun d hd => ?_⟩
        obtain ⟨L, rfl, hL2⟩ := hd
        exact ⟨_, rfl, eqJ (hL2.uniq hL) ⟨false, rfl, ifF nb⟩⟩
      refine ⟨_, rfl, _, rfl, _, rfl, Nat.le_of_ble_eq_true rfl, Nat.le_of_ble_eq_true rfl, (p, false, [⟨long, ph, 1⟩]), rfl, ok1, fun d hd => ?_⟩
      obtain ⟨f, e, m, rfl, F⟩ := hd
      obtain ⟨rfl, rfl, rfl⟩ := lone_form p1 l1 h0 h1 F
      refine ⟨_, rfl, rfl, _, rfl, (_, _, _, n), rfl, ⟨n1, by show n ≤ 1000000000000; omega⟩, fun d hd => ?_⟩
      subst hd
      refine ⟨_, rfl, eqJ ?_ ⟨false, rfl, ifF nx⟩⟩
      dsimp only
      have hc := form_copies F ok1.cw (by simp) n1
      rw [many_lone, Int.one_mul] at hc
      exact hc.uniq hL
    -- the Form
    refine ⟨_, rfl, _, rfl, _, rfl, Nat.le_of_ble_eq_true rfl, Nat.le_of_ble_eq_true rfl, (p, false, [⟨long, ph, 1⟩]), rfl, ok1, fun d hd => ?_⟩
    obtain ⟨f, e, m, rfl, F⟩ := hd
    obtain ⟨rfl, rfl, rfl⟩ := lone_form p1 l1 h0 h1 F
    dsimp only
    refine seq_skip ?s2 fun nx => ?g2
    case g2 =>
      refine ifs_or2 ?b2 fun nb => ?a2
      case a2 =>
        refine ⟨_, rfl, _, _, _, rfl, ff, rfl, _, rfl, _, _, _, rfl, fe, rfl, _, rfl, _, _, _, rfl, fm, rfl, Nat.le_of_ble_eq_true rfl, ?_⟩
        refine ⟨_, rfl, _, rfl, _, _, rfl, rfl, _, rfl, _, rfl, _, _, rfl, rfl, _, rfl, _, rfl, _, _, rfl, rfl, Nat.le_of_ble_eq_true rfl, ?_⟩
        exact eqT (ns := [ph + long, long + gapOf p long, ph - gapOf p long]) (ms := [ph + long, long + gapOf p long, ph - gapOf p long]) rfl ⟨false, rfl, ifF nb⟩
      refine ⟨_, rfl, _, rfl, _, rfl, _, rfl, Nat.le_of_ble_eq_true rfl, Nat.le_of_ble_eq_true rfl, (p, false, [⟨long, ph, n⟩]), rfl, ok, fun d hd => ?_⟩
      obtain ⟨es, j, mn, hB, rfl⟩ := hd
      have hb := best_is (L := fun t => loneEnd p long ((ph - t) % p) n) (t0 := ph) p1 (fun t t0 t1 => by
        obtain ⟨z0, z1⟩ := emod_in (a := ph - t) (P := p) (by omega)
        exact lone_least p1 l1 z0 z1 n1) h0 h1 (fun t t0 t1 => by
        obtain ⟨z0, z1⟩ := emod_in (a := ph - t) (P := p) (by omega)
        show loneEnd p long ((ph - ph) % p) n ≤ loneEnd p long ((ph - t) % p) n
        unfold loneEnd
        rw [Int.sub_self, Int.zero_emod]; omega) (fun t t0 t1 => by
        show loneEnd p long ((ph - t) % p) n ≠ loneEnd p long ((ph - ph) % p) n
        unfold loneEnd
        rw [Int.sub_self, Int.zero_emod, Int.emod_eq_of_lt (show 0 ≤ ph - t by omega) (by omega)]; omega) hB
      obtain ⟨hj, hm⟩ := hb
      have hm2 : mn = due - ph := by
        rw [hm, ← hD]
        show loneEnd p long ((ph - ph) % p) n = _
        unfold loneEnd
        rw [Int.sub_self, Int.zero_emod]; omega
      refine ⟨_, rfl, _, rfl, _, rfl, _, _, rfl, rfl, Nat.le_of_ble_eq_true rfl, ?_⟩
      exact eqT (ns := [(j : Int), mn]) (ms := [ph, due - ph]) (by rw [hj, hm2]) ⟨false, rfl, ifF nx⟩
    -- copies within
    refine ⟨_, rfl, rfl, by rfl, _, rfl, _, rfl, _, _, rfl, rfl, long + gapOf p long, rfl, by omega, by omega, by omega, fun y y0 y1 => ?_⟩
    refine ⟨_, _, rfl, rfl, ?_⟩
    have ht : total [(⟨long, ph, 1⟩ : Cut)] ≤ 10000000 := by
      show long * 1 + 0 ≤ 10000000
      omega
    refine ⟨_, rfl, _, rfl, _, rfl, Nat.le_of_ble_eq_true rfl, Nat.le_of_ble_eq_true rfl, _, rfl, (p, false, [⟨long, ph, 1⟩], due + y), rfl, ⟨ok1, by simp, by show 0 ≤ due + y; omega, by show due + y ≤ 10 ^ 30; omega, ht⟩, fun d hd => ?_⟩
    obtain ⟨n', rfl, hm1⟩ := hd
    have e1 : n' = n := hm1.uniq (lone_most p1 l1 h0 h1 n1 (by show loneEnd p long ph n ≤ due + y; omega) (by show due + y < loneEnd p long ph n + (long + gapOf p long); omega))
    refine ⟨_, rfl, eqJ e1 ⟨true, rfl, ifT ?_⟩⟩
    refine ⟨_, rfl, _, rfl, _, rfl, Nat.le_of_ble_eq_true rfl, Nat.le_of_ble_eq_true rfl, _, rfl, _, _, rfl, rfl, (p, false, [⟨long, ph, 1⟩], due - 1), rfl, ⟨ok1, by simp, ?_, by show due - 1 ≤ 10 ^ 30; omega, ht⟩, fun d hd => ?_⟩
    · have : 1 * 1 ≤ n * long := Int.mul_le_mul n1 l1 (by omega) (by omega)
      have := Int.mul_nonneg (show 0 ≤ n - 1 by omega) g0
      show 0 ≤ due - 1
      rw [← hD]; unfold loneEnd; omega
    obtain ⟨n', rfl, hm2⟩ := hd
    have e2 : n' = n - 1 := hm2.uniq (by rw [← hD]; exact lone_most0 p1 l1 h0 h1 n1)
    refine ⟨_, rfl, _, _, rfl, rfl, eqJ e2 ⟨rfl, q _ (by omega)⟩⟩
end K90


set_option pp.maxSteps 400
set_option maxHeartbeats 4000000
namespace K90
open PySem PySem.Spec PyProof.Rows L2 DL
variable {P : Program} {w : World} {K : PySem.W.Frag} {mg : Str → Option Value} {base : Heap} {a : Ad}
/-! ### cuts that follow one another round the period -/
theorem chain_snoc {P : Int} {d : Cut} : ∀ {cs : List Cut} {x : Int}, Chain P x cs → d.phase = (x + longs cs) % P → d.times = 1 → 1 ≤ d.long → Chain P x (cs ++ [d])
  | [], x, _, h1, h2, h3 => ⟨by rw [h1]; show (x + 0) % P = _; rw [Int.add_zero], h2, h3, trivial⟩
  | c :: cs, x, ⟨a1, a2, a3, a4⟩, h1, h2, h3 => ⟨a1, a2, a3, chain_snoc a4 (by
    rw [h1]
    unfold longs
    rw [List.map_cons, List.sum_cons]
    congr 1; omega) h2 h3⟩
theorem longs_snoc (cs : List Cut) (d : Cut) : longs (cs ++ [d]) = longs cs + d.long := by unfold longs; simp
theorem longs_pos {P x : Int} (p1 : 1 ≤ P) {cs : List Cut} (h : Chain P x cs) : 0 ≤ longs cs := by
  unfold longs
  have : ∀ l : List Cut, (∀ c ∈ l, 1 ≤ c.long) → 0 ≤ (l.map Cut.long).sum := fun l => by
    induction l with
    | nil => intro _; exact Int.le_refl 0
    | cons c l ih => intro h; rw [List.map_cons, List.sum_cons]; have := h c List.mem_cons_self; have := ih fun y hy => h y (List.mem_cons_of_mem c hy); omega
  exact this cs fun c hc => (chain_ok p1 h c hc).1
theorem longs_times {cs : List Cut} (h : ∀ c ∈ cs, c.times = 1) : (cs.map fun c => c.times * c.long).sum = longs cs := by
  have := longs_many 1 h
  rw [many_one, Int.mul_one] at this
  exact this
theorem rng_const (P x : Int) : rng P (fun _ => x) = List.replicate P.toNat x := by
  unfold rng
  rw [List.map_const', List.length_range]
def mcA (n : Int) : D → D
  | .tup [x, y, _] => .tup [x, y, .int n]
  | z => z
theorem many_mc {cs : List Cut} (n : Int) (h : ∀ c ∈ cs, c.times = 1) : D.lst ((cs.map Cut.d).map (mcA n)) = cutsL (many cs n) := by
  unfold cutsL many
  rw [List.map_map, List.map_map]
  refine congrArg D.lst (List.map_congr_left fun c hc => ?_)
  show D.tup [.int c.long, .int c.phase, .int n] = D.tup [.int c.long, .int c.phase, .int (c.times * n)]
  rw [h c hc, Int.one_mul]
theorem ok__law_round_right (T : Tx P K mg a) : FnOk P w K mg base CX0 15 a.f__law_round_right a.d__law_round_right ["pen"] (liftSpP K fp_y) := by
  refine def_okP T.F__law_round_right sc__law_round_right (fun k ds Q h => ?_) fun cdv A outer s H E hr => ⟨_,
    (dss_cons (ds_par3 (i := 1) (j := 2) (l := 3) rfl sc__law_round_right.nd rfl rfl rfl (by decide) (by decide) (by decide) rfl rfl rfl (dvs_cons (dv_d (de_op os_add de_int (de_callP (ok__law_draw T) (hr.mono (by decide)) (by rfl) T.m__law_draw T.F__law_draw.kp T.b__law_draw (pv 0) (da_cons de_int da_nil)))) (dvs_cons (dv_d de_int) (dvs_cons (dv_o (dn_lst (fl := .c) da_nil)) dvs_nil))) (by rfl))
    (dss_cons (ds_for PassesOwn.never rfl (di_range (by rfl) T.m_range (de_op os_add de_int (de_callP (ok__law_draw T) (hr.mono (by decide)) (by rfl) T.m__law_draw T.F__law_draw.kp T.b__law_draw (pv 0) (da_cons de_int da_nil)))) (dg_name (i := 4) sc__law_round_right.nd rfl (.inl rfl))
      (dss_cons (ds_set (i := 5) sc__law_round_right.nd rfl (.inl rfl) (dv_d (de_op os_add de_int (de_callP (ok__law_draw T) (hr.mono (by decide)) (by rfl) T.m__law_draw T.F__law_draw.kp T.b__law_draw (pv 0) (da_cons (de_op os_mul de_int (dv 1)) da_nil)))))
    (dss_cons (ds_append (i := 3) (de_tup (da_cons (dv 5) (da_cons (de_op os_mod (dn_ty cg_int (by rfl) T.m_int (by decide +kernel) (da_cons (dv 2) da_nil)).de (dv 1)) (da_cons de_int da_nil)))) (pv 3))
    (dss_one (ds_set (i := 2) sc__law_round_right.nd rfl (.inl rfl) (dv_d (de_op os_add (dv 2) (dv 5))))))))
    (dss_cons (ds_set (i := 6) sc__law_round_right.nd rfl (.inl rfl) (dv_d (de_op os_mod (dn_ty cg_int (by rfl) T.m_int (by decide +kernel) (da_cons (de_op os_sub de_int (dv 2)) da_nil)).de (dv 1))))
    (dss_cons (ds_if (dt_cmp os_gt (dv 6) de_int)
      (dss_one (ds_append (i := 3) (de_tup (da_cons (dv 6) (da_cons (de_op os_mod (dn_ty cg_int (by rfl) T.m_int (by decide +kernel) (da_cons (dv 2) da_nil)).de (dv 1)) (da_cons de_int da_nil)))) (pv 3)))
      dss_nil)
    (dss_frz 3 (dss_cons (ds_parN (is := [7, 8]) rfl (pgs_cons (pg_name (i := 7) sc__law_round_right.nd rfl (.inl rfl)) (pgs_cons (pg_name (i := 8) sc__law_round_right.nd rfl (.inr rfl)) pgs_nil)) (dvs_cons (dv_d (de_op os_add (dv 2) (dv 6))) (dvs_cons (dv_d (de_op os_add de_int (de_callP (ok__law_pick T) (hr.mono (by decide)) (by rfl) T.m__law_pick T.F__law_pick.kp T.b__law_pick (pv 0) (da_cons (dn_lst (da_cons (de_callP (ok__law_draw T) (hr.mono (by decide)) (by rfl) T.m__law_draw T.F__law_draw.kp T.b__law_draw (pv 0) (da_cons de_int da_nil)) (da_cons (de_op os_pow de_int de_int) da_nil))).de da_nil)))) dvs_nil)) (by decide) rfl)
    (dss_cons (ds_set (i := 9) sc__law_round_right.nd rfl (.inl rfl) (dv_d (de_call (ok_form T) (hr.mono (by decide)) (by rfl) T.m_form T.F_form.kp T.b_form (da_cons (dv 1) (da_cons (dv 3) da_nil)))))
    (dss_cons (ds_if (dt_w (dw_or (dt_cmp (os_ne hr.units) (de_tup (da_cons (de_fld (dv 9)) (da_cons (de_fld (dv 9)) (da_cons (de_fld (dv 9)) da_nil)))) (de_tup (da_cons (dv 7) (da_cons (dv 7) (da_cons de_int da_nil))))) (dw_or1 (dt_cmp (os_ne hr.units) (de_call (ok_cover_of T) (hr.mono (by decide)) (by rfl) T.m_cover_of T.F_cover_of.kp T.b_cover_of (da_cons (dv 1) (da_cons (dv 3) da_nil))) (dn_ty cg_tuple (by rfl) T.m_tuple (by decide +kernel) (da_cons (dn_op og_rep (dn_lst (da_cons (de_op os_div (dn_ty cg_int (by rfl) T.m_int (by decide +kernel) (da_cons (dv 7) da_nil)).de (dv 1)) da_nil)).de (dv 1)).de da_nil)).de))))
      (dss_one (ds_ret de_bl))
      dss_nil)
    (dss_one (ds_ret (de_and (de_cmp (os_eq hr.units) (de_call (ok_least_end T) (hr.mono (by decide)) (by rfl) T.m_least_end T.F_least_end.kp T.b_least_end (da_cons (dv 1) (da_cons (dn_lc rfl sc__law_round_right.nd (LcOk.mk (own := [("cut", 10)]) (blkOk_by (N := ["pen", "period", "place", "cuts", "turn", "long", "rest", "whole", "many", "told", "cut"]) (sc := defScope st__law_round_right) (by decide +kernel)) (di_list (dv 3)) (fun _ _ _ _ _ => (dg_name (i := 10) sc__law_round_right.nd rfl (.inl rfl))) (fun _ _ _ _ _ => dts_nil) (fun _ _ _ _ _ => (de_tup (da_cons (de_ix (dv 10) de_int) (da_cons (de_ix (dv 10) de_int) (da_cons (dv 8) da_nil))))) (by decide)) s).de da_nil))) (de_op os_mul (dv 7) (dv 8))) (de_and (de_cmp (os_eq hr.units) (de_call (ok_least_end T) (hr.mono (by decide)) (by rfl) T.m_least_end T.F_least_end.kp T.b_least_end (da_cons (dv 1) (da_cons (dv 3) da_nil))) (dv 7)) (de_one (de_cmp (os_eq hr.units) (de_call (ok_best_begin T) (hr.mono (by decide)) (by rfl) T.m_best_begin T.F_best_begin.kp T.b_best_begin (da_cons (dv 1) (da_cons (dv 3) da_nil))) (de_tup (da_cons de_int (da_cons (dv 7) da_nil))))))))))))))))), ?_⟩
  · obtain ⟨rfl, _⟩ := h; rfl
  · intro k ds Q h
    obtain ⟨rfl, hk, q⟩ := h
    refine ⟨rfl, by rfl, 9, rfl, by omega, by omega, by omega, fun v v0 v1 => ?_⟩
    refine ⟨_, _, rfl, rfl, Nat.le_of_ble_eq_true rfl, rfl, rfl, ?_⟩
    dsimp only
    generalize hp : 2 + v = p at *
    have p1 : 1 ≤ p := by omega
    have p10 : p ≤ 10 := by omega
    obtain ⟨ff, fe, fm⟩ := fld_form T
    refine ⟨rfl, by rfl, 6, rfl, by omega, by omega, by omega, fun u u0 u1 => ?_⟩
    refine ⟨_, _, rfl, rfl, 1 + u, rfl, by omega, by omega, ?_⟩
    refine ⟨fun j sl k' => ∃ (cs : List Cut) (s4 s5 : Slot), s4 ≠ .pen ∧ s5 ≠ .pen ∧ sl = [.pen, .d (.int p), .d (.int (longs cs)), .own (cutsL cs), s4, s5, .un, .un, .un, .un, .un] ∧ Chain p 0 cs ∧ cs.length = j ∧ longs cs ≤ 20 * j ∧ (∀ c ∈ cs, c.long ≤ 20) ∧ k' ≤ k + 3 + j, ⟨[], .un, .un, (fun z => by cases z), (fun z => by cases z), rfl, trivial, rfl, Int.le_refl 0, (fun c hc => by cases hc), by omega⟩, fun j x sl k' hx hI => ?_, fun sl k' hI => ?_⟩
    · obtain ⟨cs, s4, s5, h4, h5, rfl, hc, hl, hb, hb2, hk'⟩ := hI
      obtain ⟨hj, rfl⟩ := range_at hx
      have hj6 : j < 6 := by omega
      refine ⟨rfl, (by cases s5 <;> first | exact absurd rfl h5 | rfl), _, rfl, _, _, rfl, rfl, .inl ⟨by omega, by omega⟩, 2 * p, rfl, by omega, by omega, by omega, fun w w0 w1 => ?_⟩
      refine ⟨_, _, rfl, rfl, ?_⟩
      refine ⟨_, rfl, _, rfl, _, rfl, .inl ⟨_, rfl, _, rfl, _, _, rfl, rfl, by omega, Nat.le_of_ble_eq_true rfl, by rw [List.length_map]; omega, ?_⟩⟩
      refine ⟨_, rfl, _, rfl, _, _, rfl, rfl, ?_⟩
      refine ⟨cs ++ [⟨1 + w, longs cs % p, 1⟩], .d (.int (0 + (j : Int))), .d (.int (1 + w)), (fun z => by cases z), (fun z => by cases z), ?_, chain_snoc hc (by rw [Int.zero_add]) rfl (by show 1 ≤ 1 + w; omega), by rw [List.length_append, hl]; rfl, ?_, fun c hm => ?_, by omega⟩
      · rw [longs_snoc]
        unfold cutsL
        rw [List.map_append]
        rfl
      · rw [longs_snoc]
        show longs cs + (1 + w) ≤ 20 * ((j + 1 : Nat) : Int)
        omega
      · rcases List.mem_append.mp hm with z | z
        · exact hb2 c z
        · rw [List.mem_singleton.mp z]; show 1 + w ≤ 20; omega
    obtain ⟨cs, s4, s5, h4, h5, rfl, hc, hl, hb, hb2, hk'⟩ := hI
    rw [List.length_map, List.length_range] at hl hb hk'
    have hl1 : 1 ≤ cs.length := by omega
    have hl6 : cs.length ≤ 6 := by omega
    have hL0 := longs_pos p1 hc
    have hLB : longs cs ≤ 120 := by omega
    have hk2 : k' ≤ k + 10 := by omega
    clear hl hb hk'
    refine ⟨_, rfl, _, _, rfl, rfl, .inl ⟨_, rfl, _, rfl, _, _, rfl, rfl, by omega, ?_⟩⟩
    dsimp only
    obtain ⟨r0, r1⟩ := emod_in (a := 0 - longs cs) (P := p) (by omega)
    have rz : (longs cs + (0 - longs cs) % p) % p = 0 := by rw [Int.add_emod_emod, show longs cs + (0 - longs cs) = 0 by omega, Int.zero_emod]
    generalize hr : (0 - longs cs) % p = r at *
    refine seq_two2 (fun sl' k'' => ∃ ds : List Cut, sl' = [.pen, .d (.int p), .d (.int (longs cs)), .own (cutsL ds), s4, s5, .d (.int r), .un, .un, .un, .un] ∧ Chain p 0 ds ∧ longs ds = longs cs + r ∧ 1 ≤ ds.length ∧ ds.length ≤ 7 ∧ (∀ c ∈ ds, c.long ≤ 20) ∧ k'' ≤ k + 10) ?rest fun nx => ?app
    case app =>
      refine ⟨_, rfl, _, _, rfl, rfl, _, rfl, if_b (c := decide (0 < r)) rfl (fun hh => ?_) fun hh => ?_⟩
      · have hh := of_decide_eq_true hh
        refine ⟨_, rfl, _, rfl, _, rfl, .inl ⟨_, rfl, _, rfl, _, _, rfl, rfl, by omega, Nat.le_of_ble_eq_true rfl, by rw [List.length_map]; omega, ?_⟩⟩
        refine nx _ _ ⟨cs ++ [⟨r, longs cs % p, 1⟩], ?_, chain_snoc hc (by rw [Int.zero_add]) rfl (by show 1 ≤ r; omega), longs_snoc _ _, by rw [List.length_append]; omega, by rw [List.length_append]; show cs.length + 1 ≤ 7; omega, fun c hm => ?_, hk2⟩
        · unfold cutsL
          rw [List.map_append]
          rfl
        · rcases List.mem_append.mp hm with z | z
          · exact hb2 c z
          · rw [List.mem_singleton.mp z]; show r ≤ 20; omega
      · have hh := of_decide_eq_false hh
        exact nx _ _ ⟨cs, rfl, hc, by omega, hl1, by omega, hb2, hk2⟩
    rintro sl' k'' ⟨ds, rfl, hd, hds, d1, d7, db, hk3⟩
    have hne : ds ≠ [] := fun z => by subst z; cases d1
    have htm := chain_times hd
    have hWz : longs ds % p = 0 := by rw [hds]; exact rz
    have hco := chain_ok p1 hd
    have ok : CutsOk p ds := ⟨p1, by omega, fun c hcm => by
      obtain ⟨z1, z2, z3, z4⟩ := hco c hcm
      have := htm c hcm
      have := db c hcm
      exact ⟨z1, by omega, z2, z3, z4, by omega⟩, by omega⟩
    have hd0 : 0 ≤ longs ds := longs_pos p1 hd
    have hdB : longs ds ≤ 130 := by omega
    refine ⟨_, rfl, ?_⟩
    refine ⟨_, rfl, _, rfl, _, _, rfl, rfl, ?_⟩
    dsimp only
    rw [← hds]
    generalize hW : longs ds = W at *
    refine ⟨rfl, (by cases s4 <;> first | exact absurd rfl h4 | (cases s5 <;> first | exact absurd rfl h5 | rfl)), rfl, (by cases s4 <;> first | exact absurd rfl h4 | (cases s5 <;> first | exact absurd rfl h5 | rfl)), 5, rfl, by omega, by omega, by omega, fun x x0 x1 => ?_⟩
    refine ⟨_, _, rfl, rfl, cp9, Nat.le_of_ble_eq_true rfl, _, rfl, (fun z => by cases z), Nat.le_of_ble_eq_true rfl, by omega, fun md hmd => ?_⟩
    obtain ⟨M, rfl, M0, M1⟩ := pick2 (M := 0) hmd x0 (by omega)
    refine ⟨_, _, rfl, rfl, rfl, ?_⟩
    dsimp only
    generalize hn : 1 + M = n at *
    have n1 : 1 ≤ n := by omega
    have n2 : n ≤ 1000000001 := by omega
    clear hmd
    -- the Form, the cover
    refine ⟨_, rfl, _, rfl, (p, false, ds), rfl, ok, fun d hd2 => ?_⟩
    obtain ⟨f, e, m, rfl, F⟩ := hd2
    obtain ⟨rfl, rfl, rfl⟩ := round_form p1 hd hne (by rw [hW]; exact hWz) F
    rw [hW]
    dsimp only
    refine seq_skip ?s2 fun nx => ?g2
    case g2 =>
      refine ifs_or2 ?b2 fun nb => ?a2
      case a2 =>
        refine ⟨_, rfl, _, _, _, rfl, ff, rfl, _, rfl, _, _, _, rfl, fe, rfl, _, rfl, _, _, _, rfl, fm, rfl, Nat.le_of_ble_eq_true rfl, ?_⟩
        refine ⟨_, rfl, _, rfl, Nat.le_of_ble_eq_true rfl, ?_⟩
        exact eqT (ns := [W, W, 0]) (ms := [W, W, 0]) rfl ⟨false, rfl, ifF nb⟩
      refine ⟨_, rfl, _, rfl, (p, false, ds), rfl, ok, fun d hd2 => ?_⟩
      subst hd2
      refine ⟨_, rfl, .inl ⟨_, rfl, _, rfl, _, _, rfl, rfl, ⟨by omega, by omega⟩, Nat.le_of_ble_eq_true rfl, _, rfl, _, _, rfl, rfl, by omega, by omega, by show 1 * p.toNat ≤ 100000; omega, _, _, rfl, .inl rfl, ?_⟩⟩
      have er : (List.replicate p.toNat [D.int (W / p)]).flatten = (List.replicate p.toNat (W / p)).map D.int := by
        induction p.toNat with
        | zero => rfl
        | succ n ih => rw [List.replicate_succ, List.flatten_cons, ih]; rfl
      rw [er]
      refine eqT ?_ ⟨false, rfl, ifF nx⟩
      rw [← rng_const]
      exact rng_congr fun t t0 t1 => by rw [round_cover p1 hd (by rw [hW]; exact hWz) t0 t1, hW]
    -- what is told at last
    have hln : (ds.map Cut.d).length ≤ 100000 := by rw [List.length_map]; omega
    have okm : CutsOk p (many ds n) := ⟨p1, by omega, fun c hcm => by
      obtain ⟨c0, hc0, rfl⟩ := List.mem_map.mp hcm
      obtain ⟨z1, z2, z3, z4, z5, z6⟩ := ok.ok c0 hc0
      have ht := htm c0 hc0
      exact ⟨z1, z2, z3, z4, by show 1 ≤ c0.times * n; rw [ht]; omega, by show c0.times * n ≤ 1000000000000; rw [ht]; omega⟩, by unfold many; rw [List.length_map]; omega⟩
    refine ⟨_, rfl, allI rfl, _, rfl, _, rfl, ?_⟩
    refine lc_map (mcA n) hln (fun y hy A hA => ?_) ?_
    · obtain ⟨c, hcm, rfl⟩ := List.mem_map.mp hy
      exact ⟨_, rfl, _, _, _, .inr rfl, rfl, rfl, _, rfl, _, _, _, .inr rfl, rfl, rfl, _, rfl, Nat.le_of_ble_eq_true rfl, hA⟩
    rw [many_mc n htm]
    refine ⟨(p, false, many ds n), rfl, okm, fun d hd2 => ?_⟩
    obtain ⟨L, rfl, hL⟩ := hd2
    have eL : L = W * n := by
      have := hL.uniq (round_least p1 hd (by rw [hW]; exact hWz) n1)
      rw [hW] at this; exact this
    refine ⟨_, rfl, _, rfl, _, _, rfl, rfl, .inl ⟨by omega, by omega⟩, eqJ eL ⟨true, rfl, ifT ?_⟩⟩
    refine ⟨_, rfl, _, rfl, (p, false, ds), rfl, ok, fun d hd2 => ?_⟩
    obtain ⟨L1, rfl, hL1⟩ := hd2
    have hl1 := round_least (m := 1) p1 hd (by rw [hW]; exact hWz) (by omega)
    rw [many_one, Int.mul_one, hW] at hl1
    refine ⟨_, rfl, eqJ (hL1.uniq hl1) ⟨true, rfl, ifT ?_⟩⟩
    refine ⟨_, rfl, _, rfl, (p, false, ds), rfl, ok, fun d hd2 => ?_⟩
    obtain ⟨es, j, mn, hB, rfl⟩ := hd2
    obtain ⟨e1, e2⟩ := tight_best ok.cw (by rw [longs_times htm, hW]; exact hl1) hB
    rw [longs_times htm, hW] at e2
    refine ⟨_, rfl, Nat.le_of_ble_eq_true rfl, ?_⟩
    exact eqT (ns := [(j : Int), mn]) (ms := [0, W]) (by rw [e1, e2]; rfl) ⟨rfl, q _ (by omega)⟩
end K90


set_option pp.maxSteps 400
set_option maxHeartbeats 4000000
namespace K90
open PySem PySem.Spec PyProof.Rows L2 DL
variable {P : Program} {w : World} {K : PySem.W.Frag} {mg : Str → Option Value} {base : Heap} {a : Ad}
/-! ### two cuts of whole rounds -/
theorem asc_eqY : ∀ {xs ys : List Int}, xs.Pairwise (· < ·) → ys.Pairwise (· < ·) → (∀ j, j ∈ xs ↔ j ∈ ys) → xs = ys
  | [], [], _, _, _ => rfl
  | [], y :: ys, _, _, h => absurd ((h y).mpr List.mem_cons_self) (by simp)
  | x :: xs, [], _, _, h => absurd ((h x).mp List.mem_cons_self) (by simp)
  | x :: xs, y :: ys, h1, h2, h => by
    obtain ⟨a1, b1⟩ := List.pairwise_cons.mp h1
    obtain ⟨a2, b2⟩ := List.pairwise_cons.mp h2
    have e : x = y := by
      rcases List.mem_cons.mp ((h x).mp List.mem_cons_self) with e | e
      · exact e
      · rcases List.mem_cons.mp ((h y).mpr List.mem_cons_self) with e' | e'
        · exact e'.symm
        · have := a1 y e'
          have := a2 x e
          omega
    subst e
    rw [asc_eqY b1 b2 fun j => ⟨fun hj => ?_, fun hj => ?_⟩]
    · rcases List.mem_cons.mp ((h j).mp (List.mem_cons_of_mem _ hj)) with e | e
      · have := a1 j hj; omega
      · exact e
    · rcases List.mem_cons.mp ((h j).mpr (List.mem_cons_of_mem _ hj)) with e | e
      · have := a2 j hj; omega
      · exact e
def shA : D → D
  | .tup [.str x, .int n] => .str (PyData.shown (.tuple [.str x, .int n]))
  | y => y
theorem b_laidY (T : Tx P K mg a) {b : Bool} (h : isTrue a a.C_Laid b) : b = true := by
  have h1 := (isTrue_con T h).2.at_
  rw [T.con_Laid.at_] at h1
  cases b with
  | true => rfl
  | false => cases h1
theorem lane_apart (T : Tx P K mg a) {p r one n other m z : Int} {d : D} {C : Addr} {fs : List (Str × D)} {b : Bool} (ok : CutsOk p (apart p r one n other m)) (p2 : 2 ≤ p) (r1 : 1 ≤ r) (n1 : 1 ≤ n) (m1 : 1 ≤ m) (a0 : 0 ≤ one) (a1 : one < p) (b0 : 0 ≤ other) (b1 : other < p) (z0 : 0 ≤ z) (z1 : z < max one other)
    (e : d = .ins C fs) (hC : isTrue a C b) (hb : b = true ↔ Let p (apart p r one n other m) (p * apartC r n m + z)) (h : LaneIs a p (apart p r one n other m) (p * apartC r n m + z) d) : d = splitD a (rng (z + 1) id) := by
  have c0 : 0 ≤ apartC r n m := by unfold apartC; have := Int.mul_nonneg (show 0 ≤ r by omega) (show 0 ≤ n by omega); omega
  have pc : 0 ≤ p * apartC r n m := Int.mul_nonneg (by omega) c0
  have hl := apart_least (P := p) (r := r) (one := one) (n := n) (other := other) (m := m) (by omega) r1 n1 m1 a0 a1 b0 b1
  cases h with
  | laid rows ks nn tr al few =>
    injection e with e1 e2
    subst e1
    have hbt := b_laidY T hC
    exact absurd (hb.mp hbt) (hl.2.2 _ (by omega) (by omega))
  | short q q0 q1 lt low =>
    have hw : wait p (apart p r one n other m) (p * apartC r n m + z) q < 0 := lt
    rw [apart_wait (by omega) z0 (by omega)] at hw
    split at hw <;> omega
  | split ns nn asc all off few =>
    have : ns = rng (z + 1) id := by
      refine asc_eqY asc ?_ fun x => (all x).trans ?_
      · exact rng_asc _
      · rw [show Comp (links p (apart p r one n other m) (cover p (apart p r one n other m)) (p * apartC r n m + z)) x ↔ _ from comp_iff (fun x y => ed_links (fun q => freeAt_mem)) x, apart_comp (by omega) a0 a1 b0 b1 z0 (by omega), rng_mem]
        constructor
        · rintro ⟨x0, x1⟩; exact ⟨x, x0, by omega, rfl⟩
        · rintro ⟨y, y0, y1, hy⟩; have hy : x = y := hy; omega
    rw [this]
theorem rows_asc {P : Int} {cs : List Cut} (hl : ∀ c ∈ cs, 1 ≤ c.long) : ∀ {r : List (Int × Nat)} {x e : Int}, Rows P cs x e r → (r.map Prod.fst).Pairwise (· < ·) ∧ (∀ b ∈ r.map Prod.fst, x ≤ b) ∧ x + r.length ≤ e
  | [], x, e, h => ⟨List.Pairwise.nil, (fun b hb => by cases hb), by have h : x ≤ e := h; simpa using h⟩
  | (b, i) :: r, x, e, ⟨c, hc, h1, h2, h3⟩ => by
    have hc1 := hl c (List.mem_of_getElem? hc)
    obtain ⟨i1, i2, i3⟩ := rows_asc hl h3
    refine ⟨List.pairwise_cons.mpr ⟨fun y hy => by have := i2 y hy; show b < y; omega, i1⟩, fun y hy => ?_, ?_⟩
    · rcases List.mem_cons.mp hy with z | z
      · have z : y = b := z
        omega
      · have := i2 y z; omega
    · rw [List.length_cons]; omega
theorem sorted_one {ns ms : List Int} (hp : ms.Perm ns) (hs : ms.Pairwise (· ≤ ·)) (ha : ns.Pairwise (· < ·)) : ms = ns := by
  refine asc_eqY ?_ ha fun j => hp.mem_iff
  have nd : ms.Nodup := hp.nodup_iff.mpr (ha.imp fun h => Int.ne_of_lt h)
  exact (hs.and nd).imp fun h => by have h1 := h.1; have h2 := h.2; omega
def begA : D → D
  | .tup [x, _] => x
  | y => y
theorem beg_rows (rs : List (Int × Nat)) : D.lst ((rs.map rowP).map begA) = intsD (rs.map Prod.fst) := by
  unfold intsD
  rw [List.map_map, List.map_map]
  rfl
theorem ok__law_apart_right (T : Tx P K mg a) : FnOk P w K mg base CX0 15 a.f__law_apart_right a.d__law_apart_right ["pen"] (liftSpP K fp_y) := by
  refine def_okP T.F__law_apart_right sc__law_apart_right (fun k ds Q h => ?_) fun cdv A outer s H E hr => ⟨_,
    (dss_cons (ds_set (i := 1) sc__law_apart_right.nd rfl (.inl rfl) (dv_d (de_op os_add de_int (de_callP (ok__law_draw T) (hr.mono (by decide)) (by rfl) T.m__law_draw T.F__law_draw.kp T.b__law_draw (pv 0) (da_cons de_int da_nil)))))
    (dss_cons (ds_set (i := 2) sc__law_apart_right.nd rfl (.inl rfl) (dv_d (de_callP (ok__law_draw T) (hr.mono (by decide)) (by rfl) T.m__law_draw T.F__law_draw.kp T.b__law_draw (pv 0) (da_cons (dv 1) da_nil))))
    (dss_cons (ds_set (i := 3) sc__law_apart_right.nd rfl (.inl rfl) (dv_d (de_op os_mod (dn_ty cg_int (by rfl) T.m_int (by decide +kernel) (da_cons (de_op os_add (de_op os_add (dv 2) de_int) (de_callP (ok__law_draw T) (hr.mono (by decide)) (by rfl) T.m__law_draw T.F__law_draw.kp T.b__law_draw (pv 0) (da_cons (de_op os_sub (dv 1) de_int) da_nil))) da_nil)).de (dv 1))))
    (dss_cons (ds_par2 (i := 4) (j := 5) rfl sc__law_apart_right.nd rfl rfl (by decide) rfl rfl (dvs_cons (dv_d (dn_bi cg_min2 (by rfl) T.m_min (by decide +kernel) (da_cons (dv 2) (da_cons (dv 3) da_nil))).de) (dvs_cons (dv_d (dn_bi cg_max2 (by rfl) T.m_max (by decide +kernel) (da_cons (dv 2) (da_cons (dv 3) da_nil))).de) dvs_nil)) (by rfl))
    (dss_cons (ds_par3 (i := 6) (j := 7) (l := 8) rfl sc__law_apart_right.nd rfl rfl rfl (by decide) (by decide) (by decide) rfl rfl rfl (dvs_cons (dv_d (de_op os_add de_int (de_callP (ok__law_draw T) (hr.mono (by decide)) (by rfl) T.m__law_draw T.F__law_draw.kp T.b__law_draw (pv 0) (da_cons de_int da_nil)))) (dvs_cons (dv_d (de_op os_add de_int (de_callP (ok__law_draw T) (hr.mono (by decide)) (by rfl) T.m__law_draw T.F__law_draw.kp T.b__law_draw (pv 0) (da_cons de_int da_nil)))) (dvs_cons (dv_d (de_op os_add de_int (de_callP (ok__law_pick T) (hr.mono (by decide)) (by rfl) T.m__law_pick T.F__law_pick.kp T.b__law_pick (pv 0) (da_cons (dn_lst (da_cons (de_callP (ok__law_draw T) (hr.mono (by decide)) (by rfl) T.m__law_draw T.F__law_draw.kp T.b__law_draw (pv 0) (da_cons de_int da_nil)) (da_cons (de_op os_pow de_int de_int) da_nil))).de da_nil)))) dvs_nil))) (by rfl))
    (dss_cons (ds_set (i := 9) sc__law_apart_right.nd rfl (.inl rfl) (dv_d (dn_lst (da_cons (de_tup (da_cons (de_op os_mul (dv 6) (dv 1)) (da_cons (dv 2) (da_cons (dv 7) da_nil)))) (da_cons (de_tup (da_cons (dv 1) (da_cons (dv 3) (da_cons (dv 8) da_nil)))) da_nil))).de))
    (dss_cons (ds_set (i := 10) sc__law_apart_right.nd rfl (.inl rfl) (dv_d (de_op os_add (de_op os_mul (dv 1) (de_op os_add (de_op os_mul (dv 6) (dv 7)) (dv 8))) (dv 5))))
    (dss_cons (ds_if (dt_w (dw_or (dt_cmp (os_ne hr.units) (de_call (ok_least_end T) (hr.mono (by decide)) (by rfl) T.m_least_end T.F_least_end.kp T.b_least_end (da_cons (dv 1) (da_cons (dv 9) da_nil))) (dv 10)) (dw_or1 (dt_cmp (os_ne hr.units) (de_call (ok_best_begin T) (hr.mono (by decide)) (by rfl) T.m_best_begin T.F_best_begin.kp T.b_best_begin (da_cons (dv 1) (da_cons (dv 9) da_nil))) (de_tup (da_cons (de_if (dt_cmp os_le (de_op os_sub (dv 5) (dv 4)) (de_op os_sub (de_op os_add (dv 4) (dv 1)) (dv 5))) (dv 4) (dv 5)) (da_cons (de_op os_add (de_op os_sub (dv 10) (dv 5)) (dn_bi cg_min2 (by rfl) T.m_min (by decide +kernel) (da_cons (de_op os_sub (dv 5) (dv 4)) (da_cons (de_op os_sub (de_op os_add (dv 4) (dv 1)) (dv 5)) da_nil))).de) da_nil)))))))
      (dss_one (ds_ret de_bl))
      dss_nil)
    (dss_cons (ds_set (i := 11) sc__law_apart_right.nd rfl (.inl rfl) (dv_d (de_call (ok_form T) (hr.mono (by decide)) (by rfl) T.m_form T.F_form.kp T.b_form (da_cons (dv 1) (da_cons (dv 9) da_nil)))))
    (dss_cons (ds_if (dt_w (dw_or (dt_cmp (os_ne hr.units) (de_tup (da_cons (de_fld (dv 11)) (da_cons (de_fld (dv 11)) (da_cons (de_fld (dv 11)) da_nil)))) (de_tup (da_cons (dv 10) (da_cons (de_op os_sub (dv 10) (dv 5)) (da_cons (dv 5) da_nil))))) (dw_or1 (dt_cmp (os_ne hr.units) (de_fld (de_call (ok_lane T) (hr.mono (by decide)) (by rfl) T.m_lane T.F_lane.kp T.b_lane (da_cons (dv 1) (da_cons (dv 9) (da_cons (de_op os_sub (dv 10) de_int) da_nil))))) (dn_tupRg rfl (by rfl) T.m_tuple (by rfl) T.m_range (dv 5)).de))))
      (dss_one (ds_ret de_bl))
      dss_nil)
    (dss_cons (ds_if (dt_w (dw_and (dt_cmp os_lt (de_op os_add (dv 4) de_int) (dv 5)) (dw_and1 (dt_cmp (os_ne hr.units) (de_fld (de_call (ok_lane T) (hr.mono (by decide)) (by rfl) T.m_lane T.F_lane.kp T.b_lane (da_cons (dv 1) (da_cons (dv 9) (da_cons (de_op os_add (de_op os_add (de_op os_sub (dv 10) (dv 5)) (dv 4)) de_int) da_nil))))) (dn_tupRg rfl (by rfl) T.m_tuple (by rfl) T.m_range (de_op os_add (dv 4) de_int)).de))))
      (dss_one (ds_ret de_bl))
      dss_nil)
    (dss_one (ds_ret (de_or (de_cmp os_gt (de_op os_add (dv 7) (dv 8)) de_int) (de_one (de_cmp (os_eq hr.units) (dn_lc rfl sc__law_apart_right.nd (LcOk.mk (own := [("row", 12)]) (blkOk_by (N := ["pen", "period", "one", "other", "low", "high", "rounds", "many", "more", "cuts", "due", "told", "row"]) (sc := defScope st__law_apart_right) (by decide +kernel)) (di_tup (de_call (ok_order T) (hr.mono (by decide)) (by rfl) T.m_order T.F_order.kp T.b_order (da_cons (dv 1) (da_cons (dv 9) da_nil)))) (fun _ _ _ _ _ => (dg_name (i := 12) sc__law_apart_right.nd rfl (.inl rfl))) (fun _ _ _ _ _ => dts_nil) (fun _ _ _ _ _ => (de_ix (dv 12) de_int)) (by decide)) s).de (dn_bi cg_sorted (by rfl) T.m_sorted (by decide +kernel) (da_cons (dn_lc rfl sc__law_apart_right.nd (LcOk.mk (own := [("row", 12)]) (blkOk_by (N := ["pen", "period", "one", "other", "low", "high", "rounds", "many", "more", "cuts", "due", "told", "row"]) (sc := defScope st__law_apart_right) (by decide +kernel)) (di_tup (de_call (ok_order T) (hr.mono (by decide)) (by rfl) T.m_order T.F_order.kp T.b_order (da_cons (dv 1) (da_cons (dv 9) da_nil)))) (fun _ _ _ _ _ => (dg_name (i := 12) sc__law_apart_right.nd rfl (.inl rfl))) (fun _ _ _ _ _ => dts_nil) (fun _ _ _ _ _ => (de_ix (dv 12) de_int)) (by decide)) s).de da_nil)).de)))))))))))))))), ?_⟩
  · obtain ⟨rfl, _⟩ := h; rfl
  · intro k ds Q h
    obtain ⟨rfl, hk, q⟩ := h
    refine ⟨rfl, by rfl, 8, rfl, by omega, by omega, by omega, fun v v0 v1 => ?_⟩
    refine ⟨_, _, rfl, rfl, ?_⟩
    dsimp only
    generalize hp : 2 + v = p at *
    have p2 : 2 ≤ p := by omega
    have p9 : p ≤ 9 := by omega
    obtain ⟨ff, fe, fm⟩ := fld_form T
    refine ⟨rfl, by rfl, _, rfl, p, rfl, by omega, by omega, by omega, fun one a0 a1 => ?_⟩
    refine ⟨_, rfl, _, _, rfl, rfl, rfl, by rfl, _, rfl, _, _, rfl, rfl, p - 1, rfl, by omega, by omega, by omega, fun w w0 w1 => ?_⟩
    refine ⟨_, _, rfl, rfl, ?_⟩
    refine .inl ⟨_, rfl, _, rfl, _, _, rfl, rfl, by omega, ?_⟩
    dsimp only
    obtain ⟨b0, b1⟩ := emod_in (a := one + 1 + w) (P := p) (by omega)
    have hne : one ≠ (one + 1 + w) % p := fun z => by
      by_cases hw : one + 1 + w < p
      · rw [Int.emod_eq_of_lt (by omega) hw] at z; omega
      · have : (one + 1 + w) % p = one + 1 + w - p := by rw [← Int.sub_emod_right, Int.emod_eq_of_lt (by omega) (by omega)]
        omega
    generalize ho : (one + 1 + w) % p = other at *
    refine ⟨_, rfl, _, rfl, _, _, rfl, _, rfl, _, rfl, _, _, rfl, rfl, ?_⟩
    refine ⟨rfl, by rfl, 4, rfl, by omega, by omega, by omega, fun r r0 r1 => ?_⟩
    refine ⟨_, _, rfl, rfl, rfl, by rfl, 5, rfl, by omega, by omega, by omega, fun n n0 n1 => ?_⟩
    refine ⟨_, _, rfl, rfl, rfl, by rfl, rfl, by rfl, 5, rfl, by omega, by omega, by omega, fun x x0 x1 => ?_⟩
    refine ⟨_, _, rfl, rfl, cp9, Nat.le_of_ble_eq_true rfl, _, rfl, (fun z => by cases z), Nat.le_of_ble_eq_true rfl, by omega, fun md hmd => ?_⟩
    obtain ⟨M, rfl, M0, M1⟩ := pick2 (M := 0) hmd x0 (by omega)
    refine ⟨_, _, rfl, rfl, rfl, ?_⟩
    dsimp only
    clear hmd
    generalize hr : 1 + r = R at *
    generalize hn : 1 + n = N at *
    generalize hm : 1 + M = O at *
    have R1 : 1 ≤ R := by omega
    have R4 : R ≤ 4 := by omega
    have N1 : 1 ≤ N := by omega
    have N5 : N ≤ 5 := by omega
    have O1 : 1 ≤ O := by omega
    have O2 : O ≤ 1000000001 := by omega
    refine ⟨_, rfl, _, rfl, _, _, rfl, rfl, .inl ⟨by omega, by omega⟩, _, rfl, _, rfl, Nat.le_of_ble_eq_true rfl, _, rfl, _, rfl, _, rfl, Nat.le_of_ble_eq_true rfl, Nat.le_of_ble_eq_true rfl, ?_⟩
    refine ⟨_, rfl, _, rfl, _, rfl, _, _, rfl, rfl, .inl ⟨by omega, by omega⟩, _, rfl, _, _, rfl, rfl, _, _, rfl, rfl, .inl ⟨by omega, by omega⟩, _, rfl, _, _, rfl, rfl, ?_⟩
    dsimp only
    have c0 : 1 ≤ apartC R N O := by unfold apartC; have := Int.mul_nonneg (show 0 ≤ R by omega) (show 0 ≤ N by omega); omega
    have cB : apartC R N O ≤ 2000000000 := by
      have : R * N ≤ 4 * 5 := Int.mul_le_mul R4 N5 (by omega) (by omega)
      unfold apartC; omega
    have pC : p * apartC R N O ≤ 9 * 2000000000 := Int.mul_le_mul p9 cB (by omega) (by omega)
    have pC0 : 1 * 1 ≤ p * apartC R N O := Int.mul_le_mul (by omega) c0 (by omega) (by omega)
    have pR : R * p ≤ 4 * 9 := Int.mul_le_mul R4 p9 (by omega) (by omega)
    have pR0 : 1 * 1 ≤ R * p := Int.mul_le_mul (by omega) (by omega) (by omega) (by omega)
    have ok : CutsOk p (apart p R one N other O) := ⟨by omega, by omega, fun c hc => by
      simp only [apart, List.mem_cons, List.not_mem_nil, or_false] at hc
      rcases hc with rfl | rfl
      · exact ⟨by show 1 ≤ R * p; omega, by show R * p ≤ _; omega, a0, by show one < p; omega, N1, by show N ≤ _; omega⟩
      · exact ⟨by show 1 ≤ p; omega, by show p ≤ _; omega, b0, b1, O1, by show O ≤ _; omega⟩, Nat.le_of_ble_eq_true rfl⟩
    have hl := apart_least (P := p) (r := R) (n := N) (m := O) (by omega) R1 N1 O1 a0 (by omega) b0 b1
    have ec : R * N + O = apartC R N O := rfl
    rw [ec]
    refine seq_skip ?s1 fun nx => ?g1
    case g1 =>
      refine ifs_or2 ?b1 fun nb => ?a1
      case a1 =>
        refine ⟨_, rfl, _, rfl, (p, false, apart p R one N other O), rfl, ok, fun d hd => ?_⟩
        obtain ⟨L, rfl, hL2⟩ := hd
        exact ⟨_, rfl, eqJ (hL2.uniq hl) ⟨false, rfl, ifF nb⟩⟩
      refine ⟨_, rfl, _, rfl, (p, false, apart p R one N other O), rfl, ok, fun d hd => ?_⟩
      obtain ⟨es, j, mn, hB, rfl⟩ := hd
      obtain ⟨e1, e2⟩ := apart_best (P := p) (r := R) (n := N) (m := O) (by omega) R1 N1 O1 a0 (by omega) b0 b1 hne hB
      refine ⟨_, rfl, _, rfl, _, _, rfl, rfl, _, rfl, _, rfl, _, _, rfl, rfl, _, rfl, _, _, rfl, rfl, _, _, rfl, rfl, _, rfl, if_b (c := decide (max one other - min one other ≤ min one other + p - max one other)) rfl (fun hh => ?_) fun hh => ?_⟩
      · have hh := of_decide_eq_true hh
        refine ⟨_, rfl, _, rfl, _, rfl, _, _, rfl, rfl, _, rfl, _, rfl, _, _, rfl, rfl, _, rfl, _, rfl, _, _, rfl, rfl, _, rfl, _, _, rfl, rfl, _, _, rfl, _, _, rfl, rfl, Nat.le_of_ble_eq_true rfl, ?_⟩
        refine eqT (ns := [(j : Int), mn]) (ms := [min one other, p * apartC R N O + max one other - max one other + min (max one other - min one other) (min one other + p - max one other)]) ?_ ⟨false, rfl, ifF nx⟩
        rw [e1, e2, if_pos hh, Int.add_sub_cancel]
      · have hh := of_decide_eq_false hh
        refine ⟨_, rfl, _, rfl, _, rfl, _, _, rfl, rfl, _, rfl, _, rfl, _, _, rfl, rfl, _, rfl, _, rfl, _, _, rfl, rfl, _, rfl, _, _, rfl, rfl, _, _, rfl, _, _, rfl, rfl, Nat.le_of_ble_eq_true rfl, ?_⟩
        refine eqT (ns := [(j : Int), mn]) (ms := [max one other, p * apartC R N O + max one other - max one other + min (max one other - min one other) (min one other + p - max one other)]) ?_ ⟨false, rfl, ifF nx⟩
        rw [e1, e2, if_neg hh, Int.add_sub_cancel]
    obtain ⟨ff, fe, fm⟩ := fld_form T
    refine ⟨_, rfl, _, rfl, (p, false, apart p R one N other O), rfl, ok, fun d hd => ?_⟩
    obtain ⟨f, e, mo, rfl, F⟩ := hd
    obtain ⟨rfl, rfl, rfl⟩ := apart_form (P := p) (r := R) (n := N) (m := O) (by omega) R1 N1 O1 a0 (by omega) b0 b1 F
    dsimp only
    refine seq_skip ?s2 fun nx => ?g2
    case g2 =>
      refine ifs_or2 ?b2 fun nb => ?a2
      case a2 =>
        refine ⟨_, rfl, _, _, _, rfl, ff, rfl, _, rfl, _, _, _, rfl, fe, rfl, _, rfl, _, _, _, rfl, fm, rfl, Nat.le_of_ble_eq_true rfl, ?_⟩
        refine ⟨_, rfl, _, rfl, _, rfl, _, _, rfl, rfl, _, rfl, Nat.le_of_ble_eq_true rfl, ?_⟩
        exact eqT (ns := [p * apartC R N O + max one other, p * apartC R N O, max one other]) (ms := [p * apartC R N O + max one other, p * apartC R N O + max one other - max one other, max one other]) (by rw [Int.add_sub_cancel]) ⟨false, rfl, ifF nb⟩
      refine ⟨_, rfl, _, rfl, _, rfl, _, _, rfl, rfl, (p, false, apart p R one N other O, p * apartC R N O + max one other - 1), rfl, ⟨ok, by show 0 ≤ p * apartC R N O + max one other - 1; omega, by show p * apartC R N O + max one other - 1 ≤ bigE; unfold bigE; omega⟩, fun d hd => ?_⟩
      obtain ⟨C, fs, b, rfl, hC, hfs, hb, hL⟩ := hd
      dsimp only at hb hL
      have ez : p * apartC R N O + max one other - 1 = p * apartC R N O + (max one other - 1) := by omega
      rw [ez] at hb hL
      have hd2 := lane_apart T ok p2 R1 N1 O1 a0 (by omega) b0 b1 (by omega) (by omega) rfl hC hb hL
      rw [hd2]
      refine ⟨_, _, _, rfl, ⟨T.cl_Split, T.n_Split_phases⟩, rfl, _, rfl, _, rfl, by omega, by omega, ?_⟩
      refine eqT (ns := rng (max one other - 1 + 1) id) (ms := rng (max one other) id) (by rw [Int.sub_add_cancel]) ⟨false, rfl, ifF nx⟩
    refine seq_skip ?s3 fun nx => ?g3
    case g3 =>
      refine ⟨_, rfl, _, _, rfl, rfl, _, rfl, _, _, rfl, rfl, _, rfl, if_b (c := decide (min one other + 1 < max one other)) rfl (fun hh => ?_) fun hh => ?_⟩
      · have hh := of_decide_eq_true hh
        refine ⟨_, rfl, _, rfl, _, rfl, _, rfl, _, _, rfl, rfl, _, rfl, _, _, rfl, rfl, _, _, rfl, rfl, (p, false, apart p R one N other O, p * apartC R N O + max one other - max one other + min one other + 1), rfl, ⟨ok, by show 0 ≤ p * apartC R N O + max one other - max one other + min one other + 1; omega, by show p * apartC R N O + max one other - max one other + min one other + 1 ≤ bigE; unfold bigE; omega⟩, fun d hd => ?_⟩
        obtain ⟨C, fs, b, rfl, hC, hfs, hb, hL⟩ := hd
        dsimp only at hb hL
        have ez : p * apartC R N O + max one other - max one other + min one other + 1 = p * apartC R N O + (min one other + 1) := by omega
        rw [ez] at hb hL
        have hd2 := lane_apart T ok p2 R1 N1 O1 a0 (by omega) b0 b1 (by omega) (by omega) rfl hC hb hL
        rw [hd2]
        refine ⟨_, _, _, rfl, ⟨T.cl_Split, T.n_Split_phases⟩, rfl, _, rfl, _, _, rfl, rfl, _, rfl, by omega, by omega, ?_⟩
        refine eqT (ns := rng (min one other + 1 + 1) id) (ms := rng (min one other + 2) id) (by rw [show min one other + 1 + 1 = min one other + 2 by omega]) ⟨false, rfl, ifF nx⟩
      · exact ifF nx
    refine ⟨_, rfl, _, rfl, _, _, rfl, rfl, _, _, rfl, rfl, _, rfl, if_b (c := decide (100 < N + O)) rfl (fun hh => ?_) fun hh => ?_⟩
    · exact ⟨rfl, q _ (by omega)⟩
    have hh := of_decide_eq_false hh
    have few : ((apart p R one N other O).map Cut.times).sum ≤ 1000 := by show N + (O + 0) ≤ 1000; omega
    have cB2 : apartC R N O ≤ 200 := by
      have : R * N ≤ 4 * 5 := Int.mul_le_mul R4 N5 (by omega) (by omega)
      unfold apartC; omega
    have pC2 : p * apartC R N O ≤ 9 * 200 := Int.mul_le_mul p9 cB2 (by omega) (by omega)
    have hlong : ∀ c ∈ apart p R one N other O, 1 ≤ c.long := fun c hc => (ok.ok c hc).1
    refine ⟨allI rfl, _, rfl, _, rfl, (p, false, apart p R one N other O), rfl, ⟨ok, few⟩, fun d hd => ?_⟩
    obtain ⟨L, rows, rfl, hL, hr, hu, ho⟩ := hd
    dsimp only at hL hr ho
    obtain rfl := hL.uniq hl
    have ra := rows_asc hlong hr
    refine ⟨_, rfl, lc_map begA (by rw [List.length_map]; omega) (fun y hy A hA => ?_) ?_⟩
    · obtain ⟨r, _, rfl⟩ := List.mem_map.mp hy
      exact ⟨_, rfl, _, _, _, .inr rfl, rfl, rfl, hA⟩
    rw [beg_rows]
    refine ⟨allI rfl, _, rfl, _, rfl, (p, false, apart p R one N other O), rfl, ⟨ok, few⟩, fun d hd => ?_⟩
    obtain ⟨L2, rows2, rfl, hL2, hr2, hu2, ho2⟩ := hd
    dsimp only at hL2 hr2 ho2
    obtain rfl := hL2.uniq hl
    have ra2 := rows_asc hlong hr2
    refine ⟨_, rfl, lc_map begA (by rw [List.length_map]; omega) (fun y hy A hA => ?_) ?_⟩
    · obtain ⟨r, _, rfl⟩ := List.mem_map.mp hy
      exact ⟨_, rfl, _, _, _, .inr rfl, rfl, rfl, hA⟩
    rw [beg_rows]
    obtain rfl := ho.one ho2
    refine ⟨_, rfl, fun ns' hp hs => ?_⟩
    exact eqLi (sorted_one hp hs ra.1).symm ⟨rfl, q _ (by omega)⟩
end K90


set_option pp.maxSteps 900
set_option maxHeartbeats 4000000
namespace K90
open PySem PySem.Spec PyProof.Rows L2 DL
variable {P : Program} {w : World} {K : PySem.W.Frag} {mg : Str → Option Value} {base : Heap} {a : Ad}
theorem cp6 : CPow 10 6 := ⟨by decide, by decide, by decide⟩
theorem yes_t {te : TD} {sl : SL} {i : Nat} {x : D} {k : Nat} {A : D → Nat → Prop} {B : SL → Nat → Prop} (h : te (sl.set i (.d x)) k A) : gdName i x sl fun sl2 => dYes sl2 k fun b k2 => if b = true then te sl2 k2 A else B sl2 k2 := by
  show if true = true then te (sl.set i (.d x)) k A else B (sl.set i (.d x)) k
  rw [if_pos rfl]
  exact h
def mlA : D → D
  | .tup [.int x, _, .int z] => .int (x * z)
  | y => y
theorem mls (cs : List Cut) : D.lst ((cs.map Cut.d).map mlA) = intsD (cs.map fun c => c.long * c.times) := by
  unfold intsD
  rw [List.map_map, List.map_map]
  rfl
theorem mls_sum (cs : List Cut) : (cs.map fun c => c.long * c.times).sum = (cs.map fun c => c.times * c.long).sum := by
  congr 1
  exact List.map_congr_left fun c _ => Int.mul_comm _ _
theorem ok_law (T : Tx P K mg a) : FnG P w K mg base 16 a.f_law a.d_law ["script"] (spLaw K) := by
  refine DL.Fun.okG T.F_law sc_law (fun vs H Q E h => ?_) fun cdv A outer s H vs Q E hA hr h => ?_
  · obtain ⟨x, ns, rfl, _⟩ := h; rfl
  · obtain ⟨x, ns, rfl, sq, hl, q⟩ := h
    refine ⟨_, pss_cons (ps_set (i := 1) sc_law.nd rfl (.inr rfl) (pe_call (ok__law_pen T) (hr.mono (by decide)) (by rfl) T.m__law_pen T.F__law_pen.kp T.b__law_pen   .nil pass0 (pa_cons (pv 0) pa_nil)))
      (dss_cons (ds_for PassesOwn.never rfl (di_range (by rfl) T.m_range de_int) (dg_name (i := 2) sc_law.nd rfl (.inl rfl))
      (dss_one (ds_if (dt_w (dw_or (dt_not (dt_val (de_callP (ok__law_lone_right T) (hr.mono (by decide)) (by rfl) T.m__law_lone_right T.F__law_lone_right.kp T.b__law_lone_right (pv 1) da_nil))) (dw_or (dt_not (dt_val (de_callP (ok__law_round_right T) (hr.mono (by decide)) (by rfl) T.m__law_round_right T.F__law_round_right.kp T.b__law_round_right (pv 1) da_nil))) (dw_or1 (dt_not (dt_val (de_callP (ok__law_apart_right T) (hr.mono (by decide)) (by rfl) T.m__law_apart_right T.F__law_apart_right.kp T.b__law_apart_right (pv 1) da_nil)))))))
      (dss_one (ds_ret de_bl))
      dss_nil)))
    (dss_cons (ds_setLc (i := 3) (wr := vD) (fun _ _ _ _ z => wr_d z) wm_d rfl sc_law.nd rfl rfl (sw_true rfl rfl rfl (by decide +kernel)) (LcOk.mk (own := [("turn", 2)]) (blkOk_by (N := ["script", "pen", "turn", "some", "whole", "told", "cut"]) (sc := defScope st_law) (by decide +kernel)) (di_range (by rfl) T.m_range de_int) (fun _ _ _ _ _ => (dg_name (i := 2) sc_law.nd rfl (.inl rfl))) (fun _ _ _ _ _ => dts_nil) (fun _ _ _ _ _ => (de_tup (da_cons (de_op os_add de_int (de_callP (ok__law_draw T) (hr.mono (by decide)) (by rfl) T.m__law_draw T.F__law_draw.kp T.b__law_draw (pv 1) (da_cons de_int da_nil))) (da_cons de_int (da_cons (de_op os_add de_int (de_callP (ok__law_draw T) (hr.mono (by decide)) (by rfl) T.m__law_draw T.F__law_draw.kp T.b__law_draw (pv 1) (da_cons (de_op os_pow de_int de_int) da_nil))) da_nil))))) (by decide)) s)
    (dss_cons (ds_set (i := 4) sc_law.nd rfl (.inl rfl) (dv_d (dn_bi cg_sum (by rfl) T.m_sum (by decide +kernel) (da_cons (dn_lc rfl sc_law.nd (LcOk.mk (own := [("cut", 6)]) (blkOk_by (N := ["script", "pen", "turn", "some", "whole", "told", "cut"]) (sc := defScope st_law) (by decide +kernel)) (di_list (dv 3)) (fun _ _ _ _ _ => (dg_name (i := 6) sc_law.nd rfl (.inl rfl))) (fun _ _ _ _ _ => dts_nil) (fun _ _ _ _ _ => (de_op os_mul (de_ix (dv 6) de_int) (de_ix (dv 6) de_int))) (by decide)) s).de da_nil)).de))
    (dss_cons (ds_set (i := 5) sc_law.nd rfl (.inl rfl) (dv_d (de_call (ok_form T) (hr.mono (by decide)) (by rfl) T.m_form T.F_form.kp T.b_form (da_cons de_int (da_cons (dv 3) da_nil)))))
    (dss_one (ds_ret (de_and (de_cmp (os_eq hr.units) (de_call (ok_least_end T) (hr.mono (by decide)) (by rfl) T.m_least_end T.F_least_end.kp T.b_least_end (da_cons de_int (da_cons (dv 3) da_nil))) (dv 4)) (de_and (de_cmp (os_eq hr.units) (de_tup (da_cons (de_fld (dv 5)) (da_cons (de_fld (dv 5)) (da_cons (de_fld (dv 5)) da_nil)))) (de_tup (da_cons (dv 4) (da_cons (dv 4) (da_cons de_int da_nil))))) (de_one (de_cmp (os_eq hr.units) (de_call (ok_best_begin T) (hr.mono (by decide)) (by rfl) T.m_best_begin T.F_best_begin.kp T.b_best_begin (da_cons de_int (da_cons (dv 3) da_nil))) (de_tup (da_cons de_int (da_cons (dv 4) da_nil))))))))))))).pss, ?_⟩
    refine ⟨.ref x, rfl, x, ns, rfl, sq, hl, fun H1 p b hk hp hb h1 h2 => ?_⟩
    refine ⟨⟨fun _ => False, fun _ => False, H, b, ns, p⟩, [.un, .pen, .un, .un, .un, .un, .un], 0, lawEnds, pen_env (n := 5) rfl hl hk hp h1 h2, lawLk q, ?_⟩
    refine ⟨5, rfl, by omega, by omega, fun j sl k => (∃ s, (s = .un ∨ ∃ d, s = .d d) ∧ sl = [.un, .pen, s, .un, .un, .un, .un]) ∧ k ≤ 300 * j, ⟨⟨.un, .inl rfl, rfl⟩, Nat.zero_le _⟩, fun j x sl k hx hI => ?_, fun sl k hI => ?_⟩
    · obtain ⟨⟨s, _, rfl⟩, hk'⟩ := hI
      obtain ⟨hj, rfl⟩ := range_at hx
      have hj : j < 5 := hj
      exact ⟨rfl, by rfl, rfl, by omega, fun k1 hk1 => ⟨true, rfl, ifF ⟨rfl, by rfl, rfl, by omega, fun k2 hk2 => ⟨true, rfl, ifF ⟨rfl, by rfl, rfl, by omega, fun k3 hk3 => ⟨true, rfl, ifF ⟨⟨.d (.int (0 + j)), .inr ⟨_, rfl⟩, rfl⟩, by omega⟩⟩⟩⟩⟩⟩⟩
    obtain ⟨⟨s, hs, rfl⟩, hk'⟩ := hI
    have hk' : k ≤ 1500 := hk'
    refine ⟨?pl, 4, rfl, by omega, by omega, ?lc⟩
    case pl => rcases hs with rfl | ⟨d, rfl⟩ <;> rfl
    refine ⟨by decide, fun j acc k' => ∃ cs : List Cut, acc = cs.map Cut.d ∧ cs.length = j ∧ (∀ c ∈ cs, 1 ≤ c.long ∧ c.long ≤ 9 ∧ c.phase = 0 ∧ 1 ≤ c.times ∧ c.times ≤ 1000000) ∧ k' ≤ 1500 + 2 * j, ⟨[], rfl, rfl, (fun c hc => by cases hc), hk'⟩, fun j x acc k' hx hI => ?_, fun acc k' hI => ?_⟩
    · obtain ⟨cs, rfl, hl, hb, hk2⟩ := hI
      obtain ⟨hj, rfl⟩ := range_at hx
      have hj : j < 4 := hj
      refine yes_t ?_
      refine ⟨rfl, by rfl, 9, rfl, by omega, by omega, by omega, fun l l0 l1 => ?_⟩
      refine ⟨_, _, rfl, rfl, rfl, by rfl, _, _, rfl, rfl, cp6, 1000000, rfl, by omega, by omega, by omega, fun t t0 t1 => ?_⟩
      refine ⟨_, _, rfl, rfl, Nat.le_of_ble_eq_true rfl, cs ++ [⟨1 + l, 0, 1 + t⟩], ?_, by rw [List.length_append, hl]; rfl, fun c hc => ?_, by omega⟩
      · rw [List.map_append]; rfl
      · rcases List.mem_append.mp hc with z | z
        · exact hb c z
        · rw [List.mem_singleton.mp z]
          exact ⟨by show 1 ≤ 1 + l; omega, by show 1 + l ≤ 9; omega, rfl, by show 1 ≤ 1 + t; omega, by show 1 + t ≤ 1000000; omega⟩
    obtain ⟨cs, rfl, hl, hb, hk2⟩ := hI
    have hl : cs.length = 4 := hl
    have hk2 : k' ≤ 1508 := hk2
    have hne : cs ≠ [] := fun z => by rw [z] at hl; cases hl
    have ok : CutsOk 1 cs := ⟨by omega, by omega, fun c hc => by
      obtain ⟨z1, z2, z3, z4, z5⟩ := hb c hc
      exact ⟨z1, by omega, by omega, by omega, z4, by omega⟩, by omega⟩
    have hln : (cs.map Cut.d).length ≤ 100000 := by rw [List.length_map]; omega
    obtain ⟨ff, fe, fm⟩ := fld_form T
    have okc := ok.cw
    generalize hW : (cs.map fun c => c.times * c.long).sum = W at *
    have hWl := unit_least okc
    rw [hW] at hWl
    refine ⟨?pl2, _, rfl, _, rfl, ?lc2⟩
    case pl2 => rcases hs with rfl | ⟨d, rfl⟩ <;> rfl
    refine lc_map mlA hln (fun y hy A hA => ?_) ?_
    · obtain ⟨c, hcm, rfl⟩ := List.mem_map.mp hy
      obtain ⟨z1, z2, z3, z4, z5⟩ := hb c hcm
      exact ⟨_, rfl, _, _, _, .inr rfl, rfl, rfl, _, rfl, _, _, _, .inr rfl, rfl, rfl, _, _, rfl, rfl, .inl ⟨by omega, by omega⟩, hA⟩
    rw [mls]
    refine ⟨_, rfl, ?_⟩
    rw [mls_sum, hW]
    refine ⟨_, rfl, (1, false, cs), rfl, ok, fun d hd => ?_⟩
    obtain ⟨f, e, m, rfl, F⟩ := hd
    obtain ⟨rfl, rfl, rfl⟩ := unit_form okc hne F
    rw [hW]
    refine ⟨_, rfl, (1, false, cs), rfl, ok, fun d hd => ?_⟩
    obtain ⟨L, rfl, hL⟩ := hd
    refine ⟨_, rfl, eqJ (hL.uniq hWl) ⟨true, rfl, ifT ?_⟩⟩
    refine ⟨_, rfl, _, _, _, rfl, ff, rfl, _, rfl, _, _, _, rfl, fe, rfl, _, rfl, _, _, _, rfl, fm, rfl, Nat.le_of_ble_eq_true rfl, ?_⟩
    refine ⟨_, rfl, _, rfl, Nat.le_of_ble_eq_true rfl, ?_⟩
    refine eqT (ns := [W, W, 0]) (ms := [W, W, 0]) rfl ⟨true, rfl, ifT ?_⟩
    refine ⟨_, rfl, (1, false, cs), rfl, ok, fun d hd => ?_⟩
    obtain ⟨es, j, mn, hB, rfl⟩ := hd
    obtain ⟨e1, e2⟩ := tight_best okc (by rw [hW]; exact hWl) hB
    rw [hW] at e2
    refine ⟨_, rfl, Nat.le_of_ble_eq_true rfl, ?_⟩
    exact eqT (ns := [(j : Int), mn]) (ms := [0, W]) (by rw [e1, e2]; rfl) rfl
end K90


namespace K90
open PySem PySem.Spec PyProof.Rows L2 DL
set_option maxHeartbeats 0 in
theorem all_mk {P : Program} {w : World} {K : PySem.W.Frag} {h : Heap} {mg : Str → Option Value} {fa : Addr} {f1 f2 f3 f4 f5 f6 f7 f8 f9 f10 f11 f12 f13 f14 f15 f16 f17 f18 f19 f20 f21 f22 f23 f24 f25 f26 f27 f28 f29 f30 f31 f32 f33 f34 f35 f36 f37 f38 f39 f40 f41 f42 f43 : Addr} {od1 an1 od2 an2 od3 an3 od4 an4 od5 an5 od6 an6 od7 an7 od8 an8 od9 an9 od10 an10 od11 an11 od12 an12 od13 an13 od14 an14 od15 an15 od16 an16 od17 an17 od18 an18 od19 an19 od20 an20 od21 an21 od22 an22 od23 an23 od24 an24 od25 an25 od26 an26 od27 an27 od28 an28 od29 an29 od30 an30 od31 an31 od32 an32 od33 an33 od34 an34 od35 an35 od36 an36 od37 an37 od38 an38 od39 an39 od40 an40 od41 an41 od42 an42 od43 an43 : Option Addr} {sl1 sl2 sl3 sl4 sl5 sl6 sl7 sl8 sl9 sl10 sl11 sl12 sl13 sl14 sl15 sl16 sl17 sl18 sl19 sl20 sl21 sl22 sl23 sl24 sl25 sl26 sl27 sl28 sl29 sl30 sl31 sl32 sl33 sl34 sl35 sl36 sl37 sl38 sl39 sl40 sl41 sl42 sl43 : Array (Option Value)} {oc1 kV1 dc1 pm1 ct1 cd1 oc2 kV2 dc2 pm2 ct2 cd2 oc3 kV3 dc3 pm3 ct3 cd3 oc4 kV4 dc4 pm4 ct4 cd4 oc5 kV5 dc5 pm5 ct5 cd5 oc6 kV6 dc6 pm6 ct6 cd6 oc7 kV7 dc7 pm7 ct7 cd7 oc8 kV8 dc8 pm8 ct8 cd8 oc9 kV9 dc9 pm9 ct9 cd9 oc10 kV10 dc10 pm10 ct10 cd10 oc11 kV11 dc11 pm11 ct11 cd11 oc12 kV12 dc12 pm12 ct12 cd12 oc13 kV13 dc13 pm13 ct13 cd13 oc14 kV14 dc14 pm14 ct14 cd14 oc15 kV15 dc15 pm15 ct15 cd15 oc16 kV16 dc16 pm16 ct16 cd16 oc17 kV17 dc17 pm17 ct17 cd17 oc18 kV18 dc18 pm18 ct18 cd18 oc19 kV19 dc19 pm19 ct19 cd19 oc20 kV20 dc20 pm20 ct20 cd20 oc21 kV21 dc21 pm21 ct21 cd21 oc22 kV22 dc22 pm22 ct22 cd22 oc23 kV23 dc23 pm23 ct23 cd23 oc24 kV24 dc24 pm24 ct24 cd24 oc25 kV25 dc25 pm25 ct25 cd25 oc26 kV26 dc26 pm26 ct26 cd26 oc27 kV27 dc27 pm27 ct27 cd27 oc28 kV28 dc28 pm28 ct28 cd28 oc29 kV29 dc29 pm29 ct29 cd29 oc30 kV30 dc30 pm30 ct30 cd30 oc31 kV31 dc31 pm31 ct31 cd31 oc32 kV32 dc32 pm32 ct32 cd32 oc33 kV33 dc33 pm33 ct33 cd33 oc34 kV34 dc34 pm34 ct34 cd34 oc35 kV35 dc35 pm35 ct35 cd35 oc36 kV36 dc36 pm36 ct36 oc37 kV37 dc37 pm37 ct37 oc38 kV38 dc38 pm38 ct38 oc39 kV39 dc39 pm39 ct39 oc40 kV40 dc40 pm40 ct40 cd40 oc41 kV41 dc41 pm41 ct41 cd41 oc42 kV42 dc42 pm42 ct42 cd42 oc43 kV43 dc43 pm43 ct43 cd43 : Value} {ca36 cc36 ca37 cc37 ca38 cc38 ca39 cc39 : Addr} {ccl36 cl36 ccl37 cl37 ccl38 cl38 ccl39 cl39 : Value} {cdd36 cld36 cdd37 cld37 cdd38 cld38 cdd39 cld39 : Option Addr} {ccs36 csl36 ccs37 csl37 ccs38 csl38 ccs39 csl39 : Array (Option Value)} {vs36 vs37 vs38 vs39 : Array Value} {fi36 fi37 fi38 fi39 : Str} {tf36 tf37 tf38 tf39 : Tok} {cD36 cD37 cD38 cD39 : ClassData} {C_Paper C_Laid C_Short C_Split C_Form : Addr} {C_Trail : Addr} {tk_MOST_PERIOD tk_MOST_CUTS tk_MOST_LONG tk_MOST_END tk_MOST_PIECES : Tok} (X : K.In h) (G : h.Ns mainGlobals mg) (hfa : mg "law" = some (.ref fa))
    (a1 : PySem.W.nsIn K mainGlobals "is_integer" = some (some (.ref f1)))
    (l1 : K.lookup f1 = some ⟨oc1, od1, .func (PySem.W.fnOf "is_integer" "is_integer" (defArgs st_is_integer) (defBody st_is_integer) (defScope st_is_integer) .none kV1 dc1 pm1 an1 cd1 ct1), sl1⟩)
    (c1 : PySem.W.codeIn K cd1 "is_integer" = true)
    (k1 : PySem.W.keepIn K (.ref f1) = true)
    (a2 : PySem.W.nsIn K mainGlobals "is_list" = some (some (.ref f2)))
    (l2 : K.lookup f2 = some ⟨oc2, od2, .func (PySem.W.fnOf "is_list" "is_list" (defArgs st_is_list) (defBody st_is_list) (defScope st_is_list) .none kV2 dc2 pm2 an2 cd2 ct2), sl2⟩)
    (c2 : PySem.W.codeIn K cd2 "is_list" = true)
    (k2 : PySem.W.keepIn K (.ref f2) = true)
    (a3 : PySem.W.nsIn K mainGlobals "is_between" = some (some (.ref f3)))
    (l3 : K.lookup f3 = some ⟨oc3, od3, .func (PySem.W.fnOf "is_between" "is_between" (defArgs st_is_between) (defBody st_is_between) (defScope st_is_between) .none kV3 dc3 pm3 an3 cd3 ct3), sl3⟩)
    (c3 : PySem.W.codeIn K cd3 "is_between" = true)
    (k3 : PySem.W.keepIn K (.ref f3) = true)
    (a4 : PySem.W.nsIn K mainGlobals "copied" = some (some (.ref f4)))
    (l4 : K.lookup f4 = some ⟨oc4, od4, .func (PySem.W.fnOf "copied" "copied" (defArgs st_copied) (defBody st_copied) (defScope st_copied) .none kV4 dc4 pm4 an4 cd4 ct4), sl4⟩)
    (c4 : PySem.W.codeIn K cd4 "copied" = true)
    (k4 : PySem.W.keepIn K (.ref f4) = true)
    (a5 : PySem.W.nsIn K mainGlobals "need_number" = some (some (.ref f5)))
    (l5 : K.lookup f5 = some ⟨oc5, od5, .func (PySem.W.fnOf "need_number" "need_number" (defArgs st_need_number) (defBody st_need_number) (defScope st_need_number) .none kV5 dc5 pm5 an5 cd5 ct5), sl5⟩)
    (c5 : PySem.W.codeIn K cd5 "need_number" = true)
    (k5 : PySem.W.keepIn K (.ref f5) = true)
    (a6 : PySem.W.nsIn K mainGlobals "is_cut" = some (some (.ref f6)))
    (l6 : K.lookup f6 = some ⟨oc6, od6, .func (PySem.W.fnOf "is_cut" "is_cut" (defArgs st_is_cut) (defBody st_is_cut) (defScope st_is_cut) .none kV6 dc6 pm6 an6 cd6 ct6), sl6⟩)
    (c6 : PySem.W.codeIn K cd6 "is_cut" = true)
    (k6 : PySem.W.keepIn K (.ref f6) = true)
    (a7 : PySem.W.nsIn K mainGlobals "need_cuts" = some (some (.ref f7)))
    (l7 : K.lookup f7 = some ⟨oc7, od7, .func (PySem.W.fnOf "need_cuts" "need_cuts" (defArgs st_need_cuts) (defBody st_need_cuts) (defScope st_need_cuts) .none kV7 dc7 pm7 an7 cd7 ct7), sl7⟩)
    (c7 : PySem.W.codeIn K cd7 "need_cuts" = true)
    (k7 : PySem.W.keepIn K (.ref f7) = true)
    (a8 : PySem.W.nsIn K mainGlobals "taken_by" = some (some (.ref f8)))
    (l8 : K.lookup f8 = some ⟨oc8, od8, .func (PySem.W.fnOf "taken_by" "taken_by" (defArgs st_taken_by) (defBody st_taken_by) (defScope st_taken_by) .none kV8 dc8 pm8 an8 cd8 ct8), sl8⟩)
    (c8 : PySem.W.codeIn K cd8 "taken_by" = true)
    (k8 : PySem.W.keepIn K (.ref f8) = true)
    (a9 : PySem.W.nsIn K mainGlobals "free_by" = some (some (.ref f9)))
    (l9 : K.lookup f9 = some ⟨oc9, od9, .func (PySem.W.fnOf "free_by" "free_by" (defArgs st_free_by) (defBody st_free_by) (defScope st_free_by) .none kV9 dc9 pm9 an9 cd9 ct9), sl9⟩)
    (c9 : PySem.W.codeIn K cd9 "free_by" = true)
    (k9 : PySem.W.keepIn K (.ref f9) = true)
    (a10 : PySem.W.nsIn K mainGlobals "links_by" = some (some (.ref f10)))
    (l10 : K.lookup f10 = some ⟨oc10, od10, .func (PySem.W.fnOf "links_by" "links_by" (defArgs st_links_by) (defBody st_links_by) (defScope st_links_by) .none kV10 dc10 pm10 an10 cd10 ct10), sl10⟩)
    (c10 : PySem.W.codeIn K cd10 "links_by" = true)
    (k10 : PySem.W.keepIn K (.ref f10) = true)
    (a11 : PySem.W.nsIn K mainGlobals "grown_from" = some (some (.ref f11)))
    (l11 : K.lookup f11 = some ⟨oc11, od11, .func (PySem.W.fnOf "grown_from" "grown_from" (defArgs st_grown_from) (defBody st_grown_from) (defScope st_grown_from) .none kV11 dc11 pm11 an11 cd11 ct11), sl11⟩)
    (c11 : PySem.W.codeIn K cd11 "grown_from" = true)
    (k11 : PySem.W.keepIn K (.ref f11) = true)
    (a12 : PySem.W.nsIn K mainGlobals "hang_together" = some (some (.ref f12)))
    (l12 : K.lookup f12 = some ⟨oc12, od12, .func (PySem.W.fnOf "hang_together" "hang_together" (defArgs st_hang_together) (defBody st_hang_together) (defScope st_hang_together) .none kV12 dc12 pm12 an12 cd12 ct12), sl12⟩)
    (c12 : PySem.W.codeIn K cd12 "hang_together" = true)
    (k12 : PySem.W.keepIn K (.ref f12) = true)
    (a13 : PySem.W.nsIn K mainGlobals "lane_by" = some (some (.ref f13)))
    (l13 : K.lookup f13 = some ⟨oc13, od13, .func (PySem.W.fnOf "lane_by" "lane_by" (defArgs st_lane_by) (defBody st_lane_by) (defScope st_lane_by) .none kV13 dc13 pm13 an13 cd13 ct13), sl13⟩)
    (c13 : PySem.W.codeIn K cd13 "lane_by" = true)
    (k13 : PySem.W.keepIn K (.ref f13) = true)
    (a14 : PySem.W.nsIn K mainGlobals "covered_end" = some (some (.ref f14)))
    (l14 : K.lookup f14 = some ⟨oc14, od14, .func (PySem.W.fnOf "covered_end" "covered_end" (defArgs st_covered_end) (defBody st_covered_end) (defScope st_covered_end) .none kV14 dc14 pm14 an14 cd14 ct14), sl14⟩)
    (c14 : PySem.W.codeIn K cd14 "covered_end" = true)
    (k14 : PySem.W.keepIn K (.ref f14) = true)
    (a15 : PySem.W.nsIn K mainGlobals "least_by" = some (some (.ref f15)))
    (l15 : K.lookup f15 = some ⟨oc15, od15, .func (PySem.W.fnOf "least_by" "least_by" (defArgs st_least_by) (defBody st_least_by) (defScope st_least_by) .none kV15 dc15 pm15 an15 cd15 ct15), sl15⟩)
    (c15 : PySem.W.codeIn K cd15 "least_by" = true)
    (k15 : PySem.W.keepIn K (.ref f15) = true)
    (a16 : PySem.W.nsIn K mainGlobals "more_by" = some (some (.ref f16)))
    (l16 : K.lookup f16 = some ⟨oc16, od16, .func (PySem.W.fnOf "more_by" "more_by" (defArgs st_more_by) (defBody st_more_by) (defScope st_more_by) .none kV16 dc16 pm16 an16 cd16 ct16), sl16⟩)
    (c16 : PySem.W.codeIn K cd16 "more_by" = true)
    (k16 : PySem.W.keepIn K (.ref f16) = true)
    (a17 : PySem.W.nsIn K mainGlobals "form_by" = some (some (.ref f17)))
    (l17 : K.lookup f17 = some ⟨oc17, od17, .func (PySem.W.fnOf "form_by" "form_by" (defArgs st_form_by) (defBody st_form_by) (defScope st_form_by) .none kV17 dc17 pm17 an17 cd17 ct17), sl17⟩)
    (c17 : PySem.W.codeIn K cd17 "form_by" = true)
    (k17 : PySem.W.keepIn K (.ref f17) = true)
    (a18 : PySem.W.nsIn K mainGlobals "order_by" = some (some (.ref f18)))
    (l18 : K.lookup f18 = some ⟨oc18, od18, .func (PySem.W.fnOf "order_by" "order_by" (defArgs st_order_by) (defBody st_order_by) (defScope st_order_by) .none kV18 dc18 pm18 an18 cd18 ct18), sl18⟩)
    (c18 : PySem.W.codeIn K cd18 "order_by" = true)
    (k18 : PySem.W.keepIn K (.ref f18) = true)
    (a19 : PySem.W.nsIn K mainGlobals "turned_by" = some (some (.ref f19)))
    (l19 : K.lookup f19 = some ⟨oc19, od19, .func (PySem.W.fnOf "turned_by" "turned_by" (defArgs st_turned_by) (defBody st_turned_by) (defScope st_turned_by) .none kV19 dc19 pm19 an19 cd19 ct19), sl19⟩)
    (c19 : PySem.W.codeIn K cd19 "turned_by" = true)
    (k19 : PySem.W.keepIn K (.ref f19) = true)
    (a20 : PySem.W.nsIn K mainGlobals "cover_of" = some (some (.ref f20)))
    (l20 : K.lookup f20 = some ⟨oc20, od20, .func (PySem.W.fnOf "cover_of" "cover_of" (defArgs st_cover_of) (defBody st_cover_of) (defScope st_cover_of) .none kV20 dc20 pm20 an20 cd20 ct20), sl20⟩)
    (c20 : PySem.W.codeIn K cd20 "cover_of" = true)
    (k20 : PySem.W.keepIn K (.ref f20) = true)
    (a21 : PySem.W.nsIn K mainGlobals "lane" = some (some (.ref f21)))
    (l21 : K.lookup f21 = some ⟨oc21, od21, .func (PySem.W.fnOf "lane" "lane" (defArgs st_lane) (defBody st_lane) (defScope st_lane) .none kV21 dc21 pm21 an21 cd21 ct21), sl21⟩)
    (c21 : PySem.W.codeIn K cd21 "lane" = true)
    (k21 : PySem.W.keepIn K (.ref f21) = true)
    (a22 : PySem.W.nsIn K mainGlobals "least_end" = some (some (.ref f22)))
    (l22 : K.lookup f22 = some ⟨oc22, od22, .func (PySem.W.fnOf "least_end" "least_end" (defArgs st_least_end) (defBody st_least_end) (defScope st_least_end) .none kV22 dc22 pm22 an22 cd22 ct22), sl22⟩)
    (c22 : PySem.W.codeIn K cd22 "least_end" = true)
    (k22 : PySem.W.keepIn K (.ref f22) = true)
    (a23 : PySem.W.nsIn K mainGlobals "form" = some (some (.ref f23)))
    (l23 : K.lookup f23 = some ⟨oc23, od23, .func (PySem.W.fnOf "form" "form" (defArgs st_form) (defBody st_form) (defScope st_form) .none kV23 dc23 pm23 an23 cd23 ct23), sl23⟩)
    (c23 : PySem.W.codeIn K cd23 "form" = true)
    (k23 : PySem.W.keepIn K (.ref f23) = true)
    (a24 : PySem.W.nsIn K mainGlobals "copies_within" = some (some (.ref f24)))
    (l24 : K.lookup f24 = some ⟨oc24, od24, .func (PySem.W.fnOf "copies_within" "copies_within" (defArgs st_copies_within) (defBody st_copies_within) (defScope st_copies_within) .none kV24 dc24 pm24 an24 cd24 ct24), sl24⟩)
    (c24 : PySem.W.codeIn K cd24 "copies_within" = true)
    (k24 : PySem.W.keepIn K (.ref f24) = true)
    (a25 : PySem.W.nsIn K mainGlobals "order" = some (some (.ref f25)))
    (l25 : K.lookup f25 = some ⟨oc25, od25, .func (PySem.W.fnOf "order" "order" (defArgs st_order) (defBody st_order) (defScope st_order) .none kV25 dc25 pm25 an25 cd25 ct25), sl25⟩)
    (c25 : PySem.W.codeIn K cd25 "order" = true)
    (k25 : PySem.W.keepIn K (.ref f25) = true)
    (a26 : PySem.W.nsIn K mainGlobals "best_begin" = some (some (.ref f26)))
    (l26 : K.lookup f26 = some ⟨oc26, od26, .func (PySem.W.fnOf "best_begin" "best_begin" (defArgs st_best_begin) (defBody st_best_begin) (defScope st_best_begin) .none kV26 dc26 pm26 an26 cd26 ct26), sl26⟩)
    (c26 : PySem.W.codeIn K cd26 "best_begin" = true)
    (k26 : PySem.W.keepIn K (.ref f26) = true)
    (a27 : PySem.W.nsIn K mainGlobals "_law_pen" = some (some (.ref f27)))
    (l27 : K.lookup f27 = some ⟨oc27, od27, .func (PySem.W.fnOf "_law_pen" "_law_pen" (defArgs st__law_pen) (defBody st__law_pen) (defScope st__law_pen) .none kV27 dc27 pm27 an27 cd27 ct27), sl27⟩)
    (c27 : PySem.W.codeIn K cd27 "_law_pen" = true)
    (k27 : PySem.W.keepIn K (.ref f27) = true)
    (a28 : PySem.W.nsIn K mainGlobals "_law_draw" = some (some (.ref f28)))
    (l28 : K.lookup f28 = some ⟨oc28, od28, .func (PySem.W.fnOf "_law_draw" "_law_draw" (defArgs st__law_draw) (defBody st__law_draw) (defScope st__law_draw) .none kV28 dc28 pm28 an28 cd28 ct28), sl28⟩)
    (c28 : PySem.W.codeIn K cd28 "_law_draw" = true)
    (k28 : PySem.W.keepIn K (.ref f28) = true)
    (a29 : PySem.W.nsIn K mainGlobals "_law_pick" = some (some (.ref f29)))
    (l29 : K.lookup f29 = some ⟨oc29, od29, .func (PySem.W.fnOf "_law_pick" "_law_pick" (defArgs st__law_pick) (defBody st__law_pick) (defScope st__law_pick) .none kV29 dc29 pm29 an29 cd29 ct29), sl29⟩)
    (c29 : PySem.W.codeIn K cd29 "_law_pick" = true)
    (k29 : PySem.W.keepIn K (.ref f29) = true)
    (a30 : PySem.W.nsIn K mainGlobals "_law_lone_right" = some (some (.ref f30)))
    (l30 : K.lookup f30 = some ⟨oc30, od30, .func (PySem.W.fnOf "_law_lone_right" "_law_lone_right" (defArgs st__law_lone_right) (defBody st__law_lone_right) (defScope st__law_lone_right) .none kV30 dc30 pm30 an30 cd30 ct30), sl30⟩)
    (c30 : PySem.W.codeIn K cd30 "_law_lone_right" = true)
    (k30 : PySem.W.keepIn K (.ref f30) = true)
    (a31 : PySem.W.nsIn K mainGlobals "_law_round_right" = some (some (.ref f31)))
    (l31 : K.lookup f31 = some ⟨oc31, od31, .func (PySem.W.fnOf "_law_round_right" "_law_round_right" (defArgs st__law_round_right) (defBody st__law_round_right) (defScope st__law_round_right) .none kV31 dc31 pm31 an31 cd31 ct31), sl31⟩)
    (c31 : PySem.W.codeIn K cd31 "_law_round_right" = true)
    (k31 : PySem.W.keepIn K (.ref f31) = true)
    (a32 : PySem.W.nsIn K mainGlobals "_law_apart_right" = some (some (.ref f32)))
    (l32 : K.lookup f32 = some ⟨oc32, od32, .func (PySem.W.fnOf "_law_apart_right" "_law_apart_right" (defArgs st__law_apart_right) (defBody st__law_apart_right) (defScope st__law_apart_right) .none kV32 dc32 pm32 an32 cd32 ct32), sl32⟩)
    (c32 : PySem.W.codeIn K cd32 "_law_apart_right" = true)
    (k32 : PySem.W.keepIn K (.ref f32) = true)
    (a33 : PySem.W.nsIn K mainGlobals "law" = some (some (.ref f33)))
    (l33 : K.lookup f33 = some ⟨oc33, od33, .func (PySem.W.fnOf "law" "law" (defArgs st_law) (defBody st_law) (defScope st_law) .none kV33 dc33 pm33 an33 cd33 ct33), sl33⟩)
    (c33 : PySem.W.codeIn K cd33 "law" = true)
    (k33 : PySem.W.keepIn K (.ref f33) = true)
    (aC_Paper : PySem.W.nsIn K mainGlobals "Paper" = some (some (.ref C_Paper)))
    (aC_Laid : PySem.W.nsIn K mainGlobals "Laid" = some (some (.ref C_Laid)))
    (aC_Short : PySem.W.nsIn K mainGlobals "Short" = some (some (.ref C_Short)))
    (aC_Split : PySem.W.nsIn K mainGlobals "Split" = some (some (.ref C_Split)))
    (aC_Form : PySem.W.nsIn K mainGlobals "Form" = some (some (.ref C_Form)))
    (fi_Paperinit : PySem.W.findIn K (.ref C_Paper) "__init__" = some (some (.ref f34)))
    (l34 : K.lookup f34 = some ⟨oc34, od34, .func (PySem.W.fnOf "__init__" "Paper.__init__" (defArgs st_Paperinit) (defBody st_Paperinit) (defScope st_Paperinit) .none kV34 dc34 pm34 an34 cd34 ct34), sl34⟩)
    (c34 : PySem.W.codeIn K cd34 "Paper.__init__" = true)
    (k34 : PySem.W.keepIn K (.ref f34) = true)
    (fi_Paperbool : PySem.W.findIn K (.ref C_Paper) "__bool__" = some (some (.ref f35)))
    (l35 : K.lookup f35 = some ⟨oc35, od35, .func (PySem.W.fnOf "__bool__" "Paper.__bool__" (defArgs st_Paperbool) (defBody st_Paperbool) (defScope st_Paperbool) .none kV35 dc35 pm35 an35 cd35 ct35), sl35⟩)
    (c35 : PySem.W.codeIn K cd35 "Paper.__bool__" = true)
    (k35 : PySem.W.keepIn K (.ref f35) = true)
    (fi_Laidinit : PySem.W.findIn K (.ref C_Laid) "__init__" = some (some (.ref f36)))
    (l36 : K.lookup f36 = some ⟨oc36, od36, .func (PySem.W.ksFn "__init__" "Laid.__init__" (defArgs st_Laidinit) (defBody st_Laidinit) (defScope st_Laidinit) .none kV36 dc36 pm36 an36 (.ref ca36) ct36 cc36), sl36⟩)
    (c36 : PySem.W.codeIn K (.ref ca36) "Laid.__init__" = true)
    (fi_Shortinit : PySem.W.findIn K (.ref C_Short) "__init__" = some (some (.ref f37)))
    (l37 : K.lookup f37 = some ⟨oc37, od37, .func (PySem.W.ksFn "__init__" "Short.__init__" (defArgs st_Shortinit) (defBody st_Shortinit) (defScope st_Shortinit) .none kV37 dc37 pm37 an37 (.ref ca37) ct37 cc37), sl37⟩)
    (c37 : PySem.W.codeIn K (.ref ca37) "Short.__init__" = true)
    (fi_Splitinit : PySem.W.findIn K (.ref C_Split) "__init__" = some (some (.ref f38)))
    (l38 : K.lookup f38 = some ⟨oc38, od38, .func (PySem.W.ksFn "__init__" "Split.__init__" (defArgs st_Splitinit) (defBody st_Splitinit) (defScope st_Splitinit) .none kV38 dc38 pm38 an38 (.ref ca38) ct38 cc38), sl38⟩)
    (c38 : PySem.W.codeIn K (.ref ca38) "Split.__init__" = true)
    (fi_Forminit : PySem.W.findIn K (.ref C_Form) "__init__" = some (some (.ref f39)))
    (l39 : K.lookup f39 = some ⟨oc39, od39, .func (PySem.W.ksFn "__init__" "Form.__init__" (defArgs st_Forminit) (defBody st_Forminit) (defScope st_Forminit) .none kV39 dc39 pm39 an39 (.ref ca39) ct39 cc39), sl39⟩)
    (c39 : PySem.W.codeIn K (.ref ca39) "Form.__init__" = true)
    (fi_Formleast : PySem.W.findIn K (.ref C_Form) "least" = some (some (.ref f40)))
    (l40 : K.lookup f40 = some ⟨oc40, od40, .func (PySem.W.fnOf "least" "Form.least" (defArgs st_Formleast) (defBody st_Formleast) (defScope st_Formleast) .none kV40 dc40 pm40 an40 cd40 ct40), sl40⟩)
    (c40 : PySem.W.codeIn K cd40 "Form.least" = true)
    (k40 : PySem.W.keepIn K (.ref f40) = true)
    (aC_Trail : PySem.W.nsIn K mainGlobals "Trail" = some (some (.ref C_Trail)))
    (fi_Trailinit : PySem.W.findIn K (.ref C_Trail) "__init__" = some (some (.ref f41)))
    (l41 : K.lookup f41 = some ⟨oc41, od41, .func (PySem.W.fnOf "__init__" "Trail.__init__" (defArgs st_Trailinit) (defBody st_Trailinit) (defScope st_Trailinit) .none kV41 dc41 pm41 an41 cd41 ct41), sl41⟩)
    (c41 : PySem.W.codeIn K cd41 "Trail.__init__" = true)
    (k41 : PySem.W.keepIn K (.ref f41) = true)
    (tm_Trailinit : PySem.W.isFn K (.ref f41) = true)
    (fi_Trailnext_link : PySem.W.findIn K (.ref C_Trail) "next_link" = some (some (.ref f42)))
    (l42 : K.lookup f42 = some ⟨oc42, od42, .func (PySem.W.fnOf "next_link" "Trail.next_link" (defArgs st_Trailnext_link) (defBody st_Trailnext_link) (defScope st_Trailnext_link) .none kV42 dc42 pm42 an42 cd42 ct42), sl42⟩)
    (c42 : PySem.W.codeIn K cd42 "Trail.next_link" = true)
    (k42 : PySem.W.keepIn K (.ref f42) = true)
    (tm_Trailnext_link : PySem.W.isFn K (.ref f42) = true)
    (fi_Trailwalked : PySem.W.findIn K (.ref C_Trail) "walked" = some (some (.ref f43)))
    (l43 : K.lookup f43 = some ⟨oc43, od43, .func (PySem.W.fnOf "walked" "Trail.walked" (defArgs st_Trailwalked) (defBody st_Trailwalked) (defScope st_Trailwalked) .none kV43 dc43 pm43 an43 cd43 ct43), sl43⟩)
    (c43 : PySem.W.codeIn K cd43 "Trail.walked" = true)
    (k43 : PySem.W.keepIn K (.ref f43) = true)
    (tm_Trailwalked : PySem.W.isFn K (.ref f43) = true)
    (mk_Trail : PySem.W.makesIn K C_Trail = true)
    (kc_Trail : PySem.W.keepIn K (.ref C_Trail) = true)
    (pg_Trail : PySem.W.plainGet K C_Trail Str.empty = true)
    (hd_Trail : PySem.W.hasDictIn K C_Trail = true)
    (po_Trail : PySem.W.plainOver K C_Trail = true)
    (sa_Trail : PySem.W.findIn K (.ref C_Trail) "__setattr__" = some (some (.builtin "object.__setattr__")))
    (no_Trail_left : PySem.W.findIn K (.ref C_Trail) "left" = some none)
    (no_Trail_links : PySem.W.findIn K (.ref C_Trail) "links" = some none)
    (no_Trail_out : PySem.W.findIn K (.ref C_Trail) "out" = some none)
    (z_abs : PySem.W.nsIn K mainGlobals "abs" = some none)
    (z_all : PySem.W.nsIn K mainGlobals "all" = some none)
    (z_bool : PySem.W.nsIn K mainGlobals "bool" = some none)
    (z_dict : PySem.W.nsIn K mainGlobals "dict" = some none)
    (z_divmod : PySem.W.nsIn K mainGlobals "divmod" = some none)
    (z_enumerate : PySem.W.nsIn K mainGlobals "enumerate" = some none)
    (z_int : PySem.W.nsIn K mainGlobals "int" = some none)
    (z_isinstance : PySem.W.nsIn K mainGlobals "isinstance" = some none)
    (z_len : PySem.W.nsIn K mainGlobals "len" = some none)
    (z_list : PySem.W.nsIn K mainGlobals "list" = some none)
    (z_max : PySem.W.nsIn K mainGlobals "max" = some none)
    (z_min : PySem.W.nsIn K mainGlobals "min" = some none)
    (z_range : PySem.W.nsIn K mainGlobals "range" = some none)
    (z_set : PySem.W.nsIn K mainGlobals "set" = some none)
    (z_sorted : PySem.W.nsIn K mainGlobals "sorted" = some none)
    (z_sum : PySem.W.nsIn K mainGlobals "sum" = some none)
    (z_tuple : PySem.W.nsIn K mainGlobals "tuple" = some none)
    (v_MOST_PERIOD : PySem.W.nsIn K mainGlobals "MOST_PERIOD" = some (some (.int 60 tk_MOST_PERIOD)))
    (v_MOST_CUTS : PySem.W.nsIn K mainGlobals "MOST_CUTS" = some (some (.int 40 tk_MOST_CUTS)))
    (v_MOST_LONG : PySem.W.nsIn K mainGlobals "MOST_LONG" = some (some (.int 1000000000000 tk_MOST_LONG)))
    (v_MOST_END : PySem.W.nsIn K mainGlobals "MOST_END" = some (some (.int 1000000000000000000000000000000 tk_MOST_END)))
    (v_MOST_PIECES : PySem.W.nsIn K mainGlobals "MOST_PIECES" = some (some (.int 1000 tk_MOST_PIECES)))
    (z_super : PySem.W.nsIn K mainGlobals "super" = some none)
    (opaq : PySem.W.nsIn K cStatics "thirdparty.any" = some none)
    (tI : PySem.W.typeIn K (.ref f34) = some (.type "function"))
    (nI : PySem.W.fnIn K f34 = true)
    (tB : PySem.W.isFn K (.ref f35) = true)
    (tm_Formleast : PySem.W.isFn K (.ref f40) = true)
    (if_Laid : PySem.W.isFn K (.ref f36) = true)
    (mk_Laid : PySem.W.makesIn K C_Laid = true)
    (kc_Laid : PySem.W.keepIn K (.ref C_Laid) = true)
    (pg_Laid : PySem.W.plainGet K C_Laid Str.empty = true)
    (hd_Laid : PySem.W.hasDictIn K C_Laid = true)
    (po_Laid : PySem.W.plainOver K C_Laid = true)
    (sa_Laid : PySem.W.findIn K (.ref C_Laid) "__setattr__" = some (some (.builtin "object.__setattr__")))
    (lca_Laid : K.lookup ca36 = some ⟨ccl36, cdd36, .fields vs36, ccs36⟩)
    (lvs_Laid : vs36[2]? = some (.str fi36 tf36))
    (lfi_Laid : (P.main.file == fi36) = true)
    (lcc_Laid : K.lookup cc36 = some ⟨cl36, cld36, .cell (some (.ref C_Laid)), csl36⟩)
    (ci_Laid : PySem.W.clsIn K C_Laid = some cD36)
    (mi_Laid : PySem.W.mroIn K C_Laid (.ref C_Laid) = some true)
    (si_Laid : PySem.W.ks_superIn K C_Laid C_Laid "__init__" = some (some (.ref f34)))
    (co_Laid : PySem.W.findIn K (.ref C_Laid) "IS_TRUE" = some (some (.bool true)))
    (cg_Laid : PySem.W.specialIn K (.bool true) "__get__" = some none)
    (fb_Laid : PySem.W.findIn K (.ref C_Laid) "__bool__" = some (some (.ref f35)))
    (no_Laid_own_parts : PySem.W.findIn K (.ref C_Laid) "own_parts" = some none)
    (no_Laid_waits : PySem.W.findIn K (.ref C_Laid) "waits" = some none)
    (no_Laid_tree : PySem.W.findIn K (.ref C_Laid) "tree" = some none)
    (if_Short : PySem.W.isFn K (.ref f37) = true)
    (mk_Short : PySem.W.makesIn K C_Short = true)
    (kc_Short : PySem.W.keepIn K (.ref C_Short) = true)
    (pg_Short : PySem.W.plainGet K C_Short Str.empty = true)
    (hd_Short : PySem.W.hasDictIn K C_Short = true)
    (po_Short : PySem.W.plainOver K C_Short = true)
    (sa_Short : PySem.W.findIn K (.ref C_Short) "__setattr__" = some (some (.builtin "object.__setattr__")))
    (lca_Short : K.lookup ca37 = some ⟨ccl37, cdd37, .fields vs37, ccs37⟩)
    (lvs_Short : vs37[2]? = some (.str fi37 tf37))
    (lfi_Short : (P.main.file == fi37) = true)
    (lcc_Short : K.lookup cc37 = some ⟨cl37, cld37, .cell (some (.ref C_Short)), csl37⟩)
    (ci_Short : PySem.W.clsIn K C_Short = some cD37)
    (mi_Short : PySem.W.mroIn K C_Short (.ref C_Short) = some true)
    (si_Short : PySem.W.ks_superIn K C_Short C_Short "__init__" = some (some (.ref f34)))
    (co_Short : PySem.W.findIn K (.ref C_Short) "IS_TRUE" = some (some (.bool false)))
    (cg_Short : PySem.W.specialIn K (.bool false) "__get__" = some none)
    (fb_Short : PySem.W.findIn K (.ref C_Short) "__bool__" = some (some (.ref f35)))
    (no_Short_own_parts : PySem.W.findIn K (.ref C_Short) "own_parts" = some none)
    (no_Short_phase : PySem.W.findIn K (.ref C_Short) "phase" = some none)
    (if_Split : PySem.W.isFn K (.ref f38) = true)
    (mk_Split : PySem.W.makesIn K C_Split = true)
    (kc_Split : PySem.W.keepIn K (.ref C_Split) = true)
    (pg_Split : PySem.W.plainGet K C_Split Str.empty = true)
    (hd_Split : PySem.W.hasDictIn K C_Split = true)
    (po_Split : PySem.W.plainOver K C_Split = true)
    (sa_Split : PySem.W.findIn K (.ref C_Split) "__setattr__" = some (some (.builtin "object.__setattr__")))
    (lca_Split : K.lookup ca38 = some ⟨ccl38, cdd38, .fields vs38, ccs38⟩)
    (lvs_Split : vs38[2]? = some (.str fi38 tf38))
    (lfi_Split : (P.main.file == fi38) = true)
    (lcc_Split : K.lookup cc38 = some ⟨cl38, cld38, .cell (some (.ref C_Split)), csl38⟩)
    (ci_Split : PySem.W.clsIn K C_Split = some cD38)
    (mi_Split : PySem.W.mroIn K C_Split (.ref C_Split) = some true)
    (si_Split : PySem.W.ks_superIn K C_Split C_Split "__init__" = some (some (.ref f34)))
    (co_Split : PySem.W.findIn K (.ref C_Split) "IS_TRUE" = some (some (.bool false)))
    (cg_Split : PySem.W.specialIn K (.bool false) "__get__" = some none)
    (fb_Split : PySem.W.findIn K (.ref C_Split) "__bool__" = some (some (.ref f35)))
    (no_Split_own_parts : PySem.W.findIn K (.ref C_Split) "own_parts" = some none)
    (no_Split_phases : PySem.W.findIn K (.ref C_Split) "phases" = some none)
    (if_Form : PySem.W.isFn K (.ref f39) = true)
    (mk_Form : PySem.W.makesIn K C_Form = true)
    (kc_Form : PySem.W.keepIn K (.ref C_Form) = true)
    (pg_Form : PySem.W.plainGet K C_Form Str.empty = true)
    (hd_Form : PySem.W.hasDictIn K C_Form = true)
    (po_Form : PySem.W.plainOver K C_Form = true)
    (sa_Form : PySem.W.findIn K (.ref C_Form) "__setattr__" = some (some (.builtin "object.__setattr__")))
    (lca_Form : K.lookup ca39 = some ⟨ccl39, cdd39, .fields vs39, ccs39⟩)
    (lvs_Form : vs39[2]? = some (.str fi39 tf39))
    (lfi_Form : (P.main.file == fi39) = true)
    (lcc_Form : K.lookup cc39 = some ⟨cl39, cld39, .cell (some (.ref C_Form)), csl39⟩)
    (ci_Form : PySem.W.clsIn K C_Form = some cD39)
    (mi_Form : PySem.W.mroIn K C_Form (.ref C_Form) = some true)
    (si_Form : PySem.W.ks_superIn K C_Form C_Form "__init__" = some (some (.ref f34)))
    (co_Form : PySem.W.findIn K (.ref C_Form) "IS_TRUE" = some (some (.bool true)))
    (cg_Form : PySem.W.specialIn K (.bool true) "__get__" = some none)
    (fb_Form : PySem.W.findIn K (.ref C_Form) "__bool__" = some (some (.ref f35)))
    (no_Form_own_parts : PySem.W.findIn K (.ref C_Form) "own_parts" = some none)
    (no_Form_first : PySem.W.findIn K (.ref C_Form) "first" = some none)
    (no_Form_each : PySem.W.findIn K (.ref C_Form) "each" = some none)
    (no_Form_more : PySem.W.findIn K (.ref C_Form) "more" = some none)
    (htop : (List.lookup ("super" : Str) P.main.scope.names).isSome = false)
    : ∃ fd : FuncData, (∀ (s : Shared) (v : Value), BindsTo s fd ⟨[v], []⟩ [("script", v)]) ∧ ∀ base : Heap, K.In base → base.Ns mainGlobals mg → FnG P w K mg base 16 fa fd ["script"] (spLaw K) := by
  have e := hfa.symm.trans (PySem.W.mg_of X G a33)
  cases e
  have F1 := fun_mk (st := st_is_integer) l1 c1 k1
  have F2 := fun_mk (st := st_is_list) l2 c2 k2
  have F3 := fun_mk (st := st_is_between) l3 c3 k3
  have F4 := fun_mk (st := st_copied) l4 c4 k4
  have F5 := fun_mk (st := st_need_number) l5 c5 k5
  have F6 := fun_mk (st := st_is_cut) l6 c6 k6
  have F7 := fun_mk (st := st_need_cuts) l7 c7 k7
  have F8 := fun_mk (st := st_taken_by) l8 c8 k8
  have F9 := fun_mk (st := st_free_by) l9 c9 k9
  have F10 := fun_mk (st := st_links_by) l10 c10 k10
  have F11 := fun_mk (st := st_grown_from) l11 c11 k11
  have F12 := fun_mk (st := st_hang_together) l12 c12 k12
  have F13 := fun_mk (st := st_lane_by) l13 c13 k13
  have F14 := fun_mk (st := st_covered_end) l14 c14 k14
  have F15 := fun_mk (st := st_least_by) l15 c15 k15
  have F16 := fun_mk (st := st_more_by) l16 c16 k16
  have F17 := fun_mk (st := st_form_by) l17 c17 k17
  have F18 := fun_mk (st := st_order_by) l18 c18 k18
  have F19 := fun_mk (st := st_turned_by) l19 c19 k19
  have F20 := fun_mk (st := st_cover_of) l20 c20 k20
  have F21 := fun_mk (st := st_lane) l21 c21 k21
  have F22 := fun_mk (st := st_least_end) l22 c22 k22
  have F23 := fun_mk (st := st_form) l23 c23 k23
  have F24 := fun_mk (st := st_copies_within) l24 c24 k24
  have F25 := fun_mk (st := st_order) l25 c25 k25
  have F26 := fun_mk (st := st_best_begin) l26 c26 k26
  have F27 := fun_mk (st := st__law_pen) l27 c27 k27
  have F28 := fun_mk (st := st__law_draw) l28 c28 k28
  have F29 := fun_mk (st := st__law_pick) l29 c29 k29
  have F30 := fun_mk (st := st__law_lone_right) l30 c30 k30
  have F31 := fun_mk (st := st__law_round_right) l31 c31 k31
  have F32 := fun_mk (st := st__law_apart_right) l32 c32 k32
  have F33 := fun_mk (st := st_law) l33 c33 k33
  have F34 := fun_mk (st := st_Paperinit) l34 c34 k34
  have F35 := fun_mk (st := st_Paperbool) l35 c35 k35
  have F36 := funS_mk (st := st_Laidinit) l36 c36 lca_Laid lvs_Laid lfi_Laid lcc_Laid htop
  have F37 := funS_mk (st := st_Shortinit) l37 c37 lca_Short lvs_Short lfi_Short lcc_Short htop
  have F38 := funS_mk (st := st_Splitinit) l38 c38 lca_Split lvs_Split lfi_Split lcc_Split htop
  have F39 := funS_mk (st := st_Forminit) l39 c39 lca_Form lvs_Form lfi_Form lcc_Form htop
  have F40 := fun_mk (st := st_Formleast) l40 c40 k40
  have F41 := fun_mk (st := st_Trailinit) l41 c41 k41
  have F42 := fun_mk (st := st_Trailnext_link) l42 c42 k42
  have F43 := fun_mk (st := st_Trailwalked) l43 c43 k43
  have T : Tx P K mg ⟨f1, (PySem.W.fnOf "is_integer" "is_integer" (defArgs st_is_integer) (defBody st_is_integer) (defScope st_is_integer) .none kV1 dc1 pm1 an1 cd1 ct1), f2, (PySem.W.fnOf "is_list" "is_list" (defArgs st_is_list) (defBody st_is_list) (defScope st_is_list) .none kV2 dc2 pm2 an2 cd2 ct2), f3, (PySem.W.fnOf "is_between" "is_between" (defArgs st_is_between) (defBody st_is_between) (defScope st_is_between) .none kV3 dc3 pm3 an3 cd3 ct3), f4, (PySem.W.fnOf "copied" "copied" (defArgs st_copied) (defBody st_copied) (defScope st_copied) .none kV4 dc4 pm4 an4 cd4 ct4), f5, (PySem.W.fnOf "need_number" "need_number" (defArgs st_need_number) (defBody st_need_number) (defScope st_need_number) .none kV5 dc5 pm5 an5 cd5 ct5), f6, (PySem.W.fnOf "is_cut" "is_cut" (defArgs st_is_cut) (defBody st_is_cut) (defScope st_is_cut) .none kV6 dc6 pm6 an6 cd6 ct6), f7, (PySem.W.fnOf "need_cuts" "need_cuts" (defArgs st_need_cuts) (defBody st_need_cuts) (defScope st_need_cuts) .none kV7 dc7 pm7 an7 cd7 ct7), f8, (PySem.W.fnOf "taken_by" "taken_by" (defArgs st_taken_by) (defBody st_taken_by) (defScope st_taken_by) .none kV8 dc8 pm8 an8 cd8 ct8), f9, (PySem.W.fnOf "free_by" "free_by" (defArgs st_free_by) (defBody st_free_by) (defScope st_free_by) .none kV9 dc9 pm9 an9 cd9 ct9), f10, (PySem.W.fnOf "links_by" "links_by" (defArgs st_links_by) (defBody st_links_by) (defScope st_links_by) .none kV10 dc10 pm10 an10 cd10 ct10), f11, (PySem.W.fnOf "grown_from" "grown_from" (defArgs st_grown_from) (defBody st_grown_from) (defScope st_grown_from) .none kV11 dc11 pm11 an11 cd11 ct11), f12, (PySem.W.fnOf "hang_together" "hang_together" (defArgs st_hang_together) (defBody st_hang_together) (defScope st_hang_together) .none kV12 dc12 pm12 an12 cd12 ct12), f13, (PySem.W.fnOf "lane_by" "lane_by" (defArgs st_lane_by) (defBody st_lane_by) (defScope st_lane_by) .none kV13 dc13 pm13 an13 cd13 ct13), f14, (PySem.W.fnOf "covered_end" "covered_end" (defArgs st_covered_end) (defBody st_covered_end) (defScope st_covered_end) .none kV14 dc14 pm14 an14 cd14 ct14), f15, (PySem.W.fnOf "least_by" "least_by" (defArgs st_least_by) (defBody st_least_by) (defScope st_least_by) .none kV15 dc15 pm15 an15 cd15 ct15), f16, (PySem.W.fnOf "more_by" "more_by" (defArgs st_more_by) (defBody st_more_by) (defScope st_more_by) .none kV16 dc16 pm16 an16 cd16 ct16), f17, (PySem.W.fnOf "form_by" "form_by" (defArgs st_form_by) (defBody st_form_by) (defScope st_form_by) .none kV17 dc17 pm17 an17 cd17 ct17), f18, (PySem.W.fnOf "order_by" "order_by" (defArgs st_order_by) (defBody st_order_by) (defScope st_order_by) .none kV18 dc18 pm18 an18 cd18 ct18), f19, (PySem.W.fnOf "turned_by" "turned_by" (defArgs st_turned_by) (defBody st_turned_by) (defScope st_turned_by) .none kV19 dc19 pm19 an19 cd19 ct19), f20, (PySem.W.fnOf "cover_of" "cover_of" (defArgs st_cover_of) (defBody st_cover_of) (defScope st_cover_of) .none kV20 dc20 pm20 an20 cd20 ct20), f21, (PySem.W.fnOf "lane" "lane" (defArgs st_lane) (defBody st_lane) (defScope st_lane) .none kV21 dc21 pm21 an21 cd21 ct21), f22, (PySem.W.fnOf "least_end" "least_end" (defArgs st_least_end) (defBody st_least_end) (defScope st_least_end) .none kV22 dc22 pm22 an22 cd22 ct22), f23, (PySem.W.fnOf "form" "form" (defArgs st_form) (defBody st_form) (defScope st_form) .none kV23 dc23 pm23 an23 cd23 ct23), f24, (PySem.W.fnOf "copies_within" "copies_within" (defArgs st_copies_within) (defBody st_copies_within) (defScope st_copies_within) .none kV24 dc24 pm24 an24 cd24 ct24), f25, (PySem.W.fnOf "order" "order" (defArgs st_order) (defBody st_order) (defScope st_order) .none kV25 dc25 pm25 an25 cd25 ct25), f26, (PySem.W.fnOf "best_begin" "best_begin" (defArgs st_best_begin) (defBody st_best_begin) (defScope st_best_begin) .none kV26 dc26 pm26 an26 cd26 ct26), f27, (PySem.W.fnOf "_law_pen" "_law_pen" (defArgs st__law_pen) (defBody st__law_pen) (defScope st__law_pen) .none kV27 dc27 pm27 an27 cd27 ct27), f28, (PySem.W.fnOf "_law_draw" "_law_draw" (defArgs st__law_draw) (defBody st__law_draw) (defScope st__law_draw) .none kV28 dc28 pm28 an28 cd28 ct28), f29, (PySem.W.fnOf "_law_pick" "_law_pick" (defArgs st__law_pick) (defBody st__law_pick) (defScope st__law_pick) .none kV29 dc29 pm29 an29 cd29 ct29), f30, (PySem.W.fnOf "_law_lone_right" "_law_lone_right" (defArgs st__law_lone_right) (defBody st__law_lone_right) (defScope st__law_lone_right) .none kV30 dc30 pm30 an30 cd30 ct30), f31, (PySem.W.fnOf "_law_round_right" "_law_round_right" (defArgs st__law_round_right) (defBody st__law_round_right) (defScope st__law_round_right) .none kV31 dc31 pm31 an31 cd31 ct31), f32, (PySem.W.fnOf "_law_apart_right" "_law_apart_right" (defArgs st__law_apart_right) (defBody st__law_apart_right) (defScope st__law_apart_right) .none kV32 dc32 pm32 an32 cd32 ct32), fa, (PySem.W.fnOf "law" "law" (defArgs st_law) (defBody st_law) (defScope st_law) .none kV33 dc33 pm33 an33 cd33 ct33), f34, (PySem.W.fnOf "__init__" "Paper.__init__" (defArgs st_Paperinit) (defBody st_Paperinit) (defScope st_Paperinit) .none kV34 dc34 pm34 an34 cd34 ct34), f35, (PySem.W.fnOf "__bool__" "Paper.__bool__" (defArgs st_Paperbool) (defBody st_Paperbool) (defScope st_Paperbool) .none kV35 dc35 pm35 an35 cd35 ct35), f36, (PySem.W.ksFn "__init__" "Laid.__init__" (defArgs st_Laidinit) (defBody st_Laidinit) (defScope st_Laidinit) .none kV36 dc36 pm36 an36 (.ref ca36) ct36 cc36), f37, (PySem.W.ksFn "__init__" "Short.__init__" (defArgs st_Shortinit) (defBody st_Shortinit) (defScope st_Shortinit) .none kV37 dc37 pm37 an37 (.ref ca37) ct37 cc37), f38, (PySem.W.ksFn "__init__" "Split.__init__" (defArgs st_Splitinit) (defBody st_Splitinit) (defScope st_Splitinit) .none kV38 dc38 pm38 an38 (.ref ca38) ct38 cc38), f39, (PySem.W.ksFn "__init__" "Form.__init__" (defArgs st_Forminit) (defBody st_Forminit) (defScope st_Forminit) .none kV39 dc39 pm39 an39 (.ref ca39) ct39 cc39), f40, (PySem.W.fnOf "least" "Form.least" (defArgs st_Formleast) (defBody st_Formleast) (defScope st_Formleast) .none kV40 dc40 pm40 an40 cd40 ct40), C_Paper, C_Laid, C_Short, C_Split, C_Form, f41, (PySem.W.fnOf "__init__" "Trail.__init__" (defArgs st_Trailinit) (defBody st_Trailinit) (defScope st_Trailinit) .none kV41 dc41 pm41 an41 cd41 ct41), f42, (PySem.W.fnOf "next_link" "Trail.next_link" (defArgs st_Trailnext_link) (defBody st_Trailnext_link) (defScope st_Trailnext_link) .none kV42 dc42 pm42 an42 cd42 ct42), f43, (PySem.W.fnOf "walked" "Trail.walked" (defArgs st_Trailwalked) (defBody st_Trailwalked) (defScope st_Trailwalked) .none kV43 dc43 pm43 an43 cd43 ct43), C_Trail⟩ := ⟨
    F1,
    F1.binds (ps := ["value"]) fun _ _ _ _ _ _ us hl => match us, hl with | [_], _ => rfl,
    PySem.W.mg_of X G a1,
    F2,
    F2.binds (ps := ["value"]) fun _ _ _ _ _ _ us hl => match us, hl with | [_], _ => rfl,
    PySem.W.mg_of X G a2,
    F3,
    F3.binds (ps := ["value", "least", "most"]) fun _ _ _ _ _ _ us hl => match us, hl with | [_, _, _], _ => rfl,
    PySem.W.mg_of X G a3,
    F4,
    F4.binds (ps := ["value"]) fun _ _ _ _ _ _ us hl => match us, hl with | [_], _ => rfl,
    PySem.W.mg_of X G a4,
    F5,
    F5.binds (ps := ["part", "value", "least", "most"]) fun _ _ _ _ _ _ us hl => match us, hl with | [_, _, _, _], _ => rfl,
    PySem.W.mg_of X G a5,
    F6,
    F6.binds (ps := ["value", "period"]) fun _ _ _ _ _ _ us hl => match us, hl with | [_, _], _ => rfl,
    PySem.W.mg_of X G a6,
    F7,
    F7.binds (ps := ["period", "cuts"]) fun _ _ _ _ _ _ us hl => match us, hl with | [_, _], _ => rfl,
    PySem.W.mg_of X G a7,
    F8,
    F8.binds (ps := ["period", "cuts"]) fun _ _ _ _ _ _ us hl => match us, hl with | [_, _], _ => rfl,
    PySem.W.mg_of X G a8,
    F9,
    F9.binds (ps := ["period", "cover", "end"]) fun _ _ _ _ _ _ us hl => match us, hl with | [_, _, _], _ => rfl,
    PySem.W.mg_of X G a9,
    F10,
    F10.binds (ps := ["period", "cuts", "free"]) fun _ _ _ _ _ _ us hl => match us, hl with | [_, _, _], _ => rfl,
    PySem.W.mg_of X G a10,
    F11,
    F11.binds (ps := ["links"]) fun _ _ _ _ _ _ us hl => match us, hl with | [_], _ => rfl,
    PySem.W.mg_of X G a11,
    F12,
    F12.binds (ps := ["links"]) fun _ _ _ _ _ _ us hl => match us, hl with | [_], _ => rfl,
    PySem.W.mg_of X G a12,
    F13,
    F13.binds (ps := ["period", "cuts", "cover", "end"]) fun _ _ _ _ _ _ us hl => match us, hl with | [_, _, _, _], _ => rfl,
    PySem.W.mg_of X G a13,
    F14,
    F14.binds (ps := ["period", "cover"]) fun _ _ _ _ _ _ us hl => match us, hl with | [_, _], _ => rfl,
    PySem.W.mg_of X G a14,
    F15,
    F15.binds (ps := ["period", "cuts"]) fun _ _ _ _ _ _ us hl => match us, hl with | [_, _], _ => rfl,
    PySem.W.mg_of X G a15,
    F16,
    F16.binds (ps := ["period", "cuts", "cover"]) fun _ _ _ _ _ _ us hl => match us, hl with | [_, _, _], _ => rfl,
    PySem.W.mg_of X G a16,
    F17,
    F17.binds (ps := ["period", "cuts"]) fun _ _ _ _ _ _ us hl => match us, hl with | [_, _], _ => rfl,
    PySem.W.mg_of X G a17,
    F18,
    F18.binds (ps := ["period", "cuts"]) fun _ _ _ _ _ _ us hl => match us, hl with | [_, _], _ => rfl,
    PySem.W.mg_of X G a18,
    F19,
    F19.binds (ps := ["period", "cuts", "begin"]) fun _ _ _ _ _ _ us hl => match us, hl with | [_, _, _], _ => rfl,
    PySem.W.mg_of X G a19,
    F20,
    F20.binds (ps := ["period", "cuts"]) fun _ _ _ _ _ _ us hl => match us, hl with | [_, _], _ => rfl,
    PySem.W.mg_of X G a20,
    F21,
    F21.binds (ps := ["period", "cuts", "end"]) fun _ _ _ _ _ _ us hl => match us, hl with | [_, _, _], _ => rfl,
    PySem.W.mg_of X G a21,
    F22,
    F22.binds (ps := ["period", "cuts"]) fun _ _ _ _ _ _ us hl => match us, hl with | [_, _], _ => rfl,
    PySem.W.mg_of X G a22,
    F23,
    F23.binds (ps := ["period", "cuts"]) fun _ _ _ _ _ _ us hl => match us, hl with | [_, _], _ => rfl,
    PySem.W.mg_of X G a23,
    F24,
    F24.binds (ps := ["period", "cuts", "end"]) fun _ _ _ _ _ _ us hl => match us, hl with | [_, _, _], _ => rfl,
    PySem.W.mg_of X G a24,
    F25,
    F25.binds (ps := ["period", "cuts"]) fun _ _ _ _ _ _ us hl => match us, hl with | [_, _], _ => rfl,
    PySem.W.mg_of X G a25,
    F26,
    F26.binds (ps := ["period", "cuts"]) fun _ _ _ _ _ _ us hl => match us, hl with | [_, _], _ => rfl,
    PySem.W.mg_of X G a26,
    F27,
    F27.binds (ps := ["script"]) fun _ _ _ _ _ _ us hl => match us, hl with | [_], _ => rfl,
    PySem.W.mg_of X G a27,
    F28,
    F28.binds (ps := ["pen", "many"]) fun _ _ _ _ _ _ us hl => match us, hl with | [_, _], _ => rfl,
    PySem.W.mg_of X G a28,
    F29,
    F29.binds (ps := ["pen", "some"]) fun _ _ _ _ _ _ us hl => match us, hl with | [_, _], _ => rfl,
    PySem.W.mg_of X G a29,
    F30,
    F30.binds (ps := ["pen"]) fun _ _ _ _ _ _ us hl => match us, hl with | [_], _ => rfl,
    PySem.W.mg_of X G a30,
    F31,
    F31.binds (ps := ["pen"]) fun _ _ _ _ _ _ us hl => match us, hl with | [_], _ => rfl,
    PySem.W.mg_of X G a31,
    F32,
    F32.binds (ps := ["pen"]) fun _ _ _ _ _ _ us hl => match us, hl with | [_], _ => rfl,
    PySem.W.mg_of X G a32,
    F33,
    F33.binds (ps := ["script"]) fun _ _ _ _ _ _ us hl => match us, hl with | [_], _ => rfl,
    PySem.W.mg_none_of X G z_abs,
    PySem.W.mg_none_of X G z_all,
    PySem.W.mg_none_of X G z_bool,
    PySem.W.mg_none_of X G z_dict,
    PySem.W.mg_none_of X G z_divmod,
    PySem.W.mg_none_of X G z_enumerate,
    PySem.W.mg_none_of X G z_int,
    PySem.W.mg_none_of X G z_isinstance,
    PySem.W.mg_none_of X G z_len,
    PySem.W.mg_none_of X G z_list,
    PySem.W.mg_none_of X G z_max,
    PySem.W.mg_none_of X G z_min,
    PySem.W.mg_none_of X G z_range,
    PySem.W.mg_none_of X G z_set,
    PySem.W.mg_none_of X G z_sorted,
    PySem.W.mg_none_of X G z_sum,
    PySem.W.mg_none_of X G z_tuple,
    ⟨_, PySem.W.mg_of X G v_MOST_PERIOD⟩,
    ⟨_, PySem.W.mg_of X G v_MOST_CUTS⟩,
    ⟨_, PySem.W.mg_of X G v_MOST_LONG⟩,
    ⟨_, PySem.W.mg_of X G v_MOST_END⟩,
    ⟨_, PySem.W.mg_of X G v_MOST_PIECES⟩,
    PySem.W.mg_none_of X G z_super,
    opaq,
    F34,
    tI,
    nI,
    F35,
    F35.binds (ps := ["self"]) fun _ _ _ _ _ _ us hl => match us, hl with | [_], _ => rfl,
    tB,
    F40,
    F40.binds (ps := ["self", "copies"]) fun _ _ _ _ _ _ us hl => match us, hl with | [_, _], _ => rfl,
    ⟨fi_Formleast, tm_Formleast, k40⟩,
    PySem.W.mg_of X G aC_Paper,
    PySem.W.mg_of X G aC_Laid,
    F36,
    bindsS (ps := ["self", "waits", "tree"]) l36 fun _ _ _ _ _ _ _ us hl => match us, hl with | [_, _, _], _ => rfl,
    ⟨mk_Laid, fi_Laidinit, if_Laid, kc_Laid⟩,
    ⟨pg_Laid, hd_Laid, po_Laid, sa_Laid⟩,
    ⟨⟨_, ci_Laid⟩, mi_Laid, si_Laid⟩,
    no_Laid_own_parts,
    no_Laid_waits,
    no_Laid_tree,
    ⟨co_Laid, rfl, cg_Laid, by decide⟩,
    fb_Laid,
    PySem.W.mg_of X G aC_Short,
    F37,
    bindsS (ps := ["self", "phase"]) l37 fun _ _ _ _ _ _ _ us hl => match us, hl with | [_, _], _ => rfl,
    ⟨mk_Short, fi_Shortinit, if_Short, kc_Short⟩,
    ⟨pg_Short, hd_Short, po_Short, sa_Short⟩,
    ⟨⟨_, ci_Short⟩, mi_Short, si_Short⟩,
    no_Short_own_parts,
    no_Short_phase,
    ⟨co_Short, rfl, cg_Short, by decide⟩,
    fb_Short,
    PySem.W.mg_of X G aC_Split,
    F38,
    bindsS (ps := ["self", "phases"]) l38 fun _ _ _ _ _ _ _ us hl => match us, hl with | [_, _], _ => rfl,
    ⟨mk_Split, fi_Splitinit, if_Split, kc_Split⟩,
    ⟨pg_Split, hd_Split, po_Split, sa_Split⟩,
    ⟨⟨_, ci_Split⟩, mi_Split, si_Split⟩,
    no_Split_own_parts,
    no_Split_phases,
    ⟨co_Split, rfl, cg_Split, by decide⟩,
    fb_Split,
    PySem.W.mg_of X G aC_Form,
    F39,
    bindsS (ps := ["self", "first", "each", "more"]) l39 fun _ _ _ _ _ _ _ us hl => match us, hl with | [_, _, _, _], _ => rfl,
    ⟨mk_Form, fi_Forminit, if_Form, kc_Form⟩,
    ⟨pg_Form, hd_Form, po_Form, sa_Form⟩,
    ⟨⟨_, ci_Form⟩, mi_Form, si_Form⟩,
    no_Form_own_parts,
    no_Form_first,
    no_Form_each,
    no_Form_more,
    ⟨co_Form, rfl, cg_Form, by decide⟩,
    fb_Form,
    F41,
    F41.binds (ps := ["self", "period", "links", "times"]) fun _ _ _ _ _ _ us hl => match us, hl with | [_, _, _, _], _ => rfl,
    F42,
    F42.binds (ps := ["self", "phase"]) fun _ _ _ _ _ _ us hl => match us, hl with | [_, _], _ => rfl,
    ⟨fi_Trailnext_link, tm_Trailnext_link, k42⟩,
    F43,
    F43.binds (ps := ["self"]) fun _ _ _ _ _ _ us hl => match us, hl with | [_], _ => rfl,
    ⟨fi_Trailwalked, tm_Trailwalked, k43⟩,
    PySem.W.mg_of X G aC_Trail,
    ⟨mk_Trail, fi_Trailinit, tm_Trailinit, kc_Trail⟩,
    ⟨pg_Trail, hd_Trail, po_Trail, sa_Trail⟩,
    no_Trail_left,
    no_Trail_links,
    no_Trail_out⟩
  exact ⟨(PySem.W.fnOf "law" "law" (defArgs st_law) (defBody st_law) (defScope st_law) .none kV33 dc33 pm33 an33 cd33 ct33), fun s v => .of_eq rfl, fun base _ _ => ok_law T⟩
end K90
open PySem PySem.W PyProof.Rows in
set_option maxHeartbeats 0 in
theorem PySem.Challenge.cw_everyseam_k90_whole_known_lanes_holds : PySem.Challenge.rw_everyseam_k90_whole_known_lanes.Holds := by
  w_on; o_law; k_head; (case hw => w_witness2)
  k_fill
  refine DL.walk_ofG (l := PySem.Challenge.rw_everyseam_k90_whole_known_lanes) (n := 63) (k := 16) (x := "script") (sp := fun w => K90.spLaw _) rfl (by decide) rfl ⟨rfl, by decide, by decide⟩ (fun w h Y => PySem.W.kIn_of Y) ?F (fun _ _ a ns hl _ hS => ⟨a, ns, rfl, hS, hl, fun _ => rfl⟩)
  case F =>
    intro w mg fa h KX G hmg
    refine' K90.all_mk KX G hmg ?a1 ?l1 ?c1 ?k1 ?a2 ?l2 ?c2 ?k2 ?a3 ?l3 ?c3 ?k3 ?a4 ?l4 ?c4 ?k4 ?a5 ?l5 ?c5 ?k5 ?a6 ?l6 ?c6 ?k6 ?a7 ?l7 ?c7 ?k7 ?a8 ?l8 ?c8 ?k8 ?a9 ?l9 ?c9 ?k9 ?a10 ?l10 ?c10 ?k10 ?a11 ?l11 ?c11 ?k11 ?a12 ?l12 ?c12 ?k12 ?a13 ?l13 ?c13 ?k13 ?a14 ?l14 ?c14 ?k14 ?a15 ?l15 ?c15 ?k15 ?a16 ?l16 ?c16 ?k16 ?a17 ?l17 ?c17 ?k17 ?a18 ?l18 ?c18 ?k18 ?a19 ?l19 ?c19 ?k19 ?a20 ?l20 ?c20 ?k20 ?a21 ?l21 ?c21 ?k21 ?a22 ?l22 ?c22 ?k22 ?a23 ?l23 ?c23 ?k23 ?a24 ?l24 ?c24 ?k24 ?a25 ?l25 ?c25 ?k25 ?a26 ?l26 ?c26 ?k26 ?a27 ?l27 ?c27 ?k27 ?a28 ?l28 ?c28 ?k28 ?a29 ?l29 ?c29 ?k29 ?a30 ?l30 ?c30 ?k30 ?a31 ?l31 ?c31 ?k31 ?a32 ?l32 ?c32 ?k32 ?a33 ?l33 ?c33 ?k33 ?aC_Paper ?aC_Laid ?aC_Short ?aC_Split ?aC_Form ?fi_Paperinit ?l34 ?c34 ?k34 ?fi_Paperbool ?l35 ?c35 ?k35 ?fi_Laidinit ?l36 ?c36 ?fi_Shortinit ?l37 ?c37 ?fi_Splitinit ?l38 ?c38 ?fi_Forminit ?l39 ?c39 ?fi_Formleast ?l40 ?c40 ?k40 ?aC_Trail ?fi_Trailinit ?l41 ?c41 ?k41 ?tm_Trailinit ?fi_Trailnext_link ?l42 ?c42 ?k42 ?tm_Trailnext_link ?fi_Trailwalked ?l43 ?c43 ?k43 ?tm_Trailwalked ?mk_Trail ?kc_Trail ?pg_Trail ?hd_Trail ?po_Trail ?sa_Trail ?no_Trail_left ?no_Trail_links ?no_Trail_out ?z_abs ?z_all ?z_bool ?z_dict ?z_divmod ?z_enumerate ?z_int ?z_isinstance ?z_len ?z_list ?z_max ?z_min ?z_range ?z_set ?z_sorted ?z_sum ?z_tuple ?v_MOST_PERIOD ?v_MOST_CUTS ?v_MOST_LONG ?v_MOST_END ?v_MOST_PIECES ?z_super ?opaq ?tI ?nI ?tB ?tm_Formleast ?if_Laid ?mk_Laid ?kc_Laid ?pg_Laid ?hd_Laid ?po_Laid ?sa_Laid ?lca_Laid ?lvs_Laid ?lfi_Laid ?lcc_Laid ?ci_Laid ?mi_Laid ?si_Laid ?co_Laid ?cg_Laid ?fb_Laid ?no_Laid_own_parts ?no_Laid_waits ?no_Laid_tree ?if_Short ?mk_Short ?kc_Short ?pg_Short ?hd_Short ?po_Short ?sa_Short ?lca_Short ?lvs_Short ?lfi_Short ?lcc_Short ?ci_Short ?mi_Short ?si_Short ?co_Short ?cg_Short ?fb_Short ?no_Short_own_parts ?no_Short_phase ?if_Split ?mk_Split ?kc_Split ?pg_Split ?hd_Split ?po_Split ?sa_Split ?lca_Split ?lvs_Split ?lfi_Split ?lcc_Split ?ci_Split ?mi_Split ?si_Split ?co_Split ?cg_Split ?fb_Split ?no_Split_own_parts ?no_Split_phases ?if_Form ?mk_Form ?kc_Form ?pg_Form ?hd_Form ?po_Form ?sa_Form ?lca_Form ?lvs_Form ?lfi_Form ?lcc_Form ?ci_Form ?mi_Form ?si_Form ?co_Form ?cg_Form ?fb_Form ?no_Form_own_parts ?no_Form_first ?no_Form_each ?no_Form_more ?htop
    (case a1 => k_is)
    (case l1 => k_is)
    (case c1 => k_is)
    (case k1 => k_is)
    (case a2 => k_is)
    (case l2 => k_is)
    (case c2 => k_is)
    (case k2 => k_is)
    (case a3 => k_is)
    (case l3 => k_is)
    (case c3 => k_is)
    (case k3 => k_is)
    (case a4 => k_is)
    (case l4 => k_is)
    (case c4 => k_is)
    (case k4 => k_is)
    (case a5 => k_is)
    (case l5 => k_is)
    (case c5 => k_is)
    (case k5 => k_is)
    (case a6 => k_is)
    (case l6 => k_is)
    (case c6 => k_is)
    (case k6 => k_is)
    (case a7 => k_is)
    (case l7 => k_is)
    (case c7 => k_is)
    (case k7 => k_is)
    (case a8 => k_is)
    (case l8 => k_is)
    (case c8 => k_is)
    (case k8 => k_is)
    (case a9 => k_is)
    (case l9 => k_is)
    (case c9 => k_is)
    (case k9 => k_is)
    (case a10 => k_is)
    (case l10 => k_is)
    (case c10 => k_is)
    (case k10 => k_is)
    (case a11 => k_is)
    (case l11 => k_is)
    (case c11 => k_is)
    (case k11 => k_is)
    (case a12 => k_is)
    (case l12 => k_is)
    (case c12 => k_is)
    (case k12 => k_is)
    (case a13 => k_is)
    (case l13 => k_is)
    (case c13 => k_is)
    (case k13 => k_is)
    (case a14 => k_is)
    (case l14 => k_is)
    (case c14 => k_is)
    (case k14 => k_is)
    (case a15 => k_is)
    (case l15 => k_is)
    (case c15 => k_is)
    (case k15 => k_is)
    (case a16 => k_is)
    (case l16 => k_is)
    (case c16 => k_is)
    (case k16 => k_is)
    (case a17 => k_is)
    (case l17 => k_is)
    (case c17 => k_is)
    (case k17 => k_is)
    (case a18 => k_is)
    (case l18 => k_is)
    (case c18 => k_is)
    (case k18 => k_is)
    (case a19 => k_is)
    (case l19 => k_is)
    (case c19 => k_is)
    (case k19 => k_is)
    (case a20 => k_is)
    (case l20 => k_is)
    (case c20 => k_is)
    (case k20 => k_is)
    (case a21 => k_is)
    (case l21 => k_is)
    (case c21 => k_is)
    (case k21 => k_is)
    (case a22 => k_is)
    (case l22 => k_is)
    (case c22 => k_is)
    (case k22 => k_is)
    (case a23 => k_is)
    (case l23 => k_is)
    (case c23 => k_is)
    (case k23 => k_is)
    (case a24 => k_is)
    (case l24 => k_is)
    (case c24 => k_is)
    (case k24 => k_is)
    (case a25 => k_is)
    (case l25 => k_is)
    (case c25 => k_is)
    (case k25 => k_is)
    (case a26 => k_is)
    (case l26 => k_is)
    (case c26 => k_is)
    (case k26 => k_is)
    (case a27 => k_is)
    (case l27 => k_is)
    (case c27 => k_is)
    (case k27 => k_is)
    (case a28 => k_is)
    (case l28 => k_is)
    (case c28 => k_is)
    (case k28 => k_is)
    (case a29 => k_is)
    (case l29 => k_is)
    (case c29 => k_is)
    (case k29 => k_is)
    (case a30 => k_is)
    (case l30 => k_is)
    (case c30 => k_is)
    (case k30 => k_is)
    (case a31 => k_is)
    (case l31 => k_is)
    (case c31 => k_is)
    (case k31 => k_is)
    (case a32 => k_is)
    (case l32 => k_is)
    (case c32 => k_is)
    (case k32 => k_is)
    (case a33 => k_is)
    (case l33 => k_is)
    (case c33 => k_is)
    (case k33 => k_is)
    (case aC_Paper => k_is)
    (case aC_Laid => k_is)
    (case aC_Short => k_is)
    (case aC_Split => k_is)
    (case aC_Form => k_is)
    (case fi_Paperinit => k_is)
    (case l34 => k_is)
    (case c34 => k_is)
    (case k34 => k_is)
    (case fi_Paperbool => k_is)
    (case l35 => k_is)
    (case c35 => k_is)
    (case k35 => k_is)
    (case fi_Laidinit => k_is)
    (case l36 => k_is)
    (case c36 => k_is)
    (case fi_Shortinit => k_is)
    (case l37 => k_is)
    (case c37 => k_is)
    (case fi_Splitinit => k_is)
    (case l38 => k_is)
    (case c38 => k_is)
    (case fi_Forminit => k_is)
    (case l39 => k_is)
    (case c39 => k_is)
    (case fi_Formleast => k_is)
    (case l40 => k_is)
    (case c40 => k_is)
    (case k40 => k_is)
    (case aC_Trail => k_is)
    (case fi_Trailinit => k_is)
    (case l41 => k_is)
    (case c41 => k_is)
    (case k41 => k_is)
    (case tm_Trailinit => k_is)
    (case fi_Trailnext_link => k_is)
    (case l42 => k_is)
    (case c42 => k_is)
    (case k42 => k_is)
    (case tm_Trailnext_link => k_is)
    (case fi_Trailwalked => k_is)
    (case l43 => k_is)
    (case c43 => k_is)
    (case k43 => k_is)
    (case tm_Trailwalked => k_is)
    (case mk_Trail => k_is)
    (case kc_Trail => k_is)
    (case pg_Trail => k_is)
    (case hd_Trail => k_is)
    (case po_Trail => k_is)
    (case sa_Trail => k_is)
    (case no_Trail_left => k_is)
    (case no_Trail_links => k_is)
    (case no_Trail_out => k_is)
    (case z_abs => k_is)
    (case z_all => k_is)
    (case z_bool => k_is)
    (case z_dict => k_is)
    (case z_divmod => k_is)
    (case z_enumerate => k_is)
    (case z_int => k_is)
    (case z_isinstance => k_is)
    (case z_len => k_is)
    (case z_list => k_is)
    (case z_max => k_is)
    (case z_min => k_is)
    (case z_range => k_is)
    (case z_set => k_is)
    (case z_sorted => k_is)
    (case z_sum => k_is)
    (case z_tuple => k_is)
    (case v_MOST_PERIOD => k_is)
    (case v_MOST_CUTS => k_is)
    (case v_MOST_LONG => k_is)
    (case v_MOST_END => k_is)
    (case v_MOST_PIECES => k_is)
    (case z_super => k_is)
    (case opaq => k_is)
    (case tI => k_is)
    (case nI => k_is)
    (case tB => k_is)
    (case tm_Formleast => k_is)
    (case if_Laid => k_is)
    (case mk_Laid => k_is)
    (case kc_Laid => k_is)
    (case pg_Laid => k_is)
    (case hd_Laid => k_is)
    (case po_Laid => k_is)
    (case sa_Laid => k_is)
    (case lca_Laid => k_is)
    (case lvs_Laid => rfl)
    (case lfi_Laid => rfl)
    (case lcc_Laid => k_is)
    (case ci_Laid => k_is)
    (case mi_Laid => k_is)
    (case si_Laid => rfl)
    (case co_Laid => k_is)
    (case cg_Laid => k_is)
    (case fb_Laid => k_is)
    (case no_Laid_own_parts => k_is)
    (case no_Laid_waits => k_is)
    (case no_Laid_tree => k_is)
    (case if_Short => k_is)
    (case mk_Short => k_is)
    (case kc_Short => k_is)
    (case pg_Short => k_is)
    (case hd_Short => k_is)
    (case po_Short => k_is)
    (case sa_Short => k_is)
    (case lca_Short => k_is)
    (case lvs_Short => rfl)
    (case lfi_Short => rfl)
    (case lcc_Short => k_is)
    (case ci_Short => k_is)
    (case mi_Short => k_is)
    (case si_Short => rfl)
    (case co_Short => k_is)
    (case cg_Short => k_is)
    (case fb_Short => k_is)
    (case no_Short_own_parts => k_is)
    (case no_Short_phase => k_is)
    (case if_Split => k_is)
    (case mk_Split => k_is)
    (case kc_Split => k_is)
    (case pg_Split => k_is)
    (case hd_Split => k_is)
    (case po_Split => k_is)
    (case sa_Split => k_is)
    (case lca_Split => k_is)
    (case lvs_Split => rfl)
    (case lfi_Split => rfl)
    (case lcc_Split => k_is)
    (case ci_Split => k_is)
    (case mi_Split => k_is)
    (case si_Split => rfl)
    (case co_Split => k_is)
    (case cg_Split => k_is)
    (case fb_Split => k_is)
    (case no_Split_own_parts => k_is)
    (case no_Split_phases => k_is)
    (case if_Form => k_is)
    (case mk_Form => k_is)
    (case kc_Form => k_is)
    (case pg_Form => k_is)
    (case hd_Form => k_is)
    (case po_Form => k_is)
    (case sa_Form => k_is)
    (case lca_Form => k_is)
    (case lvs_Form => rfl)
    (case lfi_Form => rfl)
    (case lcc_Form => k_is)
    (case ci_Form => k_is)
    (case mi_Form => k_is)
    (case si_Form => rfl)
    (case co_Form => k_is)
    (case cg_Form => k_is)
    (case fb_Form => k_is)
    (case no_Form_own_parts => k_is)
    (case no_Form_first => k_is)
    (case no_Form_each => k_is)
    (case no_Form_more => k_is)
    (case htop => rfl)

