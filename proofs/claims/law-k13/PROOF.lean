import PyProof.Rows.All
import HandS.Conv
import HandS.Deep
import HandS.Ends
import HandS.Evl
import HandS.ExcCtx
import HandS.ExcIs
import HandS.ForExc
import HandS.ForMost
import HandS.Head0
import HandS.Head1
import HandS.Head2
import HandS.HeadEnd
import HandS.HeadHook1
import HandS.HeadHook2
import HandS.HeadHook3
import HandS.HotCalls
import HandS.IsInst
import HandS.NoneIn
import HandS.SortInts
import HandS.SortRule
import HandS.Style
import HandS.TupAny
import HandS.TupLe
import HandS.TupSets
import HandS.Wide
import HandS.Zip
import KE.DataEq
import KE.DataIsa
import KE.KDictDisplayH
import KE.SortData
import PyProof.ExcBaseAll.ValueError
import PyProof.ReprLen
import PyProof.ReprRoads
import PySem.Challenge.RW_treewalkers_k13_whole_walks
set_option Elab.async false
set_option linter.all false
set_option autoImplicit false
set_option maxRecDepth 100000
set_option maxHeartbeats 3900000
/-! ## 1. data in the abstract heap -/
namespace Pw
open PySem L2
open Evl (Ex ex_rd fresh_back)

/-- what a piece of code comes to -/
inductive Rs (α : Type) where
  | ok (a : α)
  | err (c : Str)
  | bad
def Rs.bind {α β : Type} : Rs α → (α → Rs β) → Rs β
  | .ok a, f => f a
  | .err c, _ => .err c
  | .bad, _ => .bad
@[simp] theorem Rs.bind_ok {α β : Type} (a : α) (f : α → Rs β) : (Rs.ok a).bind f = f a := (rfl)
@[simp] theorem Rs.bind_err {α β : Type} (c : Str) (f : α → Rs β) : (Rs.err c).bind f = .err c := (rfl)
@[simp] theorem Rs.bind_bad {α β : Type} (f : α → Rs β) : (Rs.bad).bind f = .bad := (rfl)

/-- a slot: data that stays; a changing object of the def's own; a changing object that was handed in -/
inductive SV where
  | v (d : PyData)
  | m (d : PyData)
  | a (d : PyData)
def SV.data : SV → PyData
  | .v d => d
  | .m d => d
  | .a d => d
abbrev Dv := List (Option SV)

/-- a key as data -/
def kD : Key → PyData
  | .inl i => .int i
  | .inr x => .str x
/-- a dict's entries -/
def hoKV : HO → Option (List (PyData × V))
  | .dK kvs => some (kvs.map fun p => (kD p.1, p.2))
  | .dT kvs => some ((.none, .non) :: kvs.map fun p => (.tuple (p.1.map kD), p.2))
  | _ => none

/-- the script is data of its own kind: it is counted and looked up, no more -/
def scrD (ns : List Int) : PyData := .dict [(.none, .list (ns.map .int))]
/-- a caught error is known by its place alone -/
def excD (a : Addr) : PyData := .dict [(.none, .list [.none, .int (Int.ofNat a)])]
mutual
/-- a value and its data, in a heap that stays -/
inductive Rp (K : PySem.W.Frag) (G : Hp) : V → PyData → Prop
  | non : Rp K G .non .none
  | bl (b : Bool) : Rp K G (.bl b) (.bool b)
  | int (i : Int) : Rp K G (.int i) (.int i)
  | str (x : Str) : Rp K G (.str x) (.str x)
  | lst {a : Addr} {xs : List V} {ds : List PyData} : G a = some (.lst xs) → RpA K G xs ds → Rp K G (.ref a) (.list ds)
  | tup {a : Addr} {xs : List V} {ds : List PyData} : G a = some (.tup xs) → RpA K G xs ds → Rp K G (.ref a) (.tuple ds)
  | scr {a : Addr} {ns : List Int} : SqL K G a (ns.map V.int) → Rp K G (.ref a) (.dict [(.none, .list (ns.map .int))])
  | exc (a : Addr) : Rp K G (.ref a) (excD a)
  | dct {a : Addr} {o : HO} {kvs : List (PyData × V)} {es : List (PyData × PyData)} : G a = some o → hoKV o = some kvs → RpK K G kvs es → Rp K G (.ref a) (.dict es)
inductive RpA (K : PySem.W.Frag) (G : Hp) : List V → List PyData → Prop
  | nil : RpA K G [] []
  | cons {v : V} {vs : List V} {d : PyData} {ds : List PyData} : Rp K G v d → RpA K G vs ds → RpA K G (v :: vs) (d :: ds)
inductive RpK (K : PySem.W.Frag) (G : Hp) : List (PyData × V) → List (PyData × PyData) → Prop
  | nil : RpK K G [] []
  | cons {k : PyData} {v : V} {kvs : List (PyData × V)} {d : PyData} {es : List (PyData × PyData)} : Rp K G v d → RpK K G kvs es → RpK K G ((k, v) :: kvs) ((k, d) :: es)
end

section
variable {K : PySem.W.Frag} {G G' H : Hp}
mutual
theorem Rp.mono (e : Ex G G') : ∀ {v : V} {d : PyData}, Rp K G v d → Rp K G' v d
  | _, _, .non => .non
  | _, _, .bl b => .bl b
  | _, _, .int i => .int i
  | _, _, .str x => .str x
  | _, _, .lst h r => .lst (e _ _ h) (RpA.mono e r)
  | _, _, .scr h => .scr (Evl.ex_l e h)
  | _, _, .exc a => .exc a
  | _, _, .tup h r => .tup (e _ _ h) (RpA.mono e r)
  | _, _, .dct h k r => .dct (e _ _ h) k (RpK.mono e r)
theorem RpA.mono (e : Ex G G') : ∀ {vs : List V} {ds : List PyData}, RpA K G vs ds → RpA K G' vs ds
  | _, _, .nil => .nil
  | _, _, .cons h r => .cons (Rp.mono e h) (RpA.mono e r)
theorem RpK.mono (e : Ex G G') : ∀ {vs : List (PyData × V)} {ds : List (PyData × PyData)}, RpK K G vs ds → RpK K G' vs ds
  | _, _, .nil => .nil
  | _, _, .cons h r => .cons (Rp.mono e h) (RpK.mono e r)
end
theorem RpA.length : ∀ {vs : List V} {ds : List PyData}, RpA K G vs ds → vs.length = ds.length
  | _, _, .nil => rfl
  | _, _, .cons _ r => congrArg (· + 1) (RpA.length r)
theorem RpA.get : ∀ {vs : List V} {ds : List PyData} {i : Nat} {v : V}, RpA K G vs ds → vs[i]? = some v → ∃ d, ds[i]? = some d ∧ Rp K G v d
  | _, _, _, _, .nil, e => (by simp at e)
  | _, _, 0, _, .cons h _, e => by simp at e; subst e; exact ⟨_, rfl, h⟩
  | _, _, i + 1, v, .cons _ r, e => by
    obtain ⟨d, h1, h2⟩ := RpA.get (i := i) (v := v) r (by simpa using e)
    exact ⟨d, by simpa using h1, h2⟩
theorem RpA.getD : ∀ {vs : List V} {ds : List PyData} {i : Nat} {d : PyData}, RpA K G vs ds → ds[i]? = some d → ∃ v, vs[i]? = some v ∧ Rp K G v d
  | _, _, _, _, .nil, e => (by simp at e)
  | _, _, 0, _, .cons h _, e => by simp at e; subst e; exact ⟨_, rfl, h⟩
  | _, _, i + 1, d, .cons _ r, e => by
    obtain ⟨v, h1, h2⟩ := RpA.getD (i := i) (d := d) r (by simpa using e)
    exact ⟨v, by simpa using h1, h2⟩
theorem RpA.append : ∀ {vs ws : List V} {ds es : List PyData}, RpA K G vs ds → RpA K G ws es → RpA K G (vs ++ ws) (ds ++ es)
  | _, _, _, _, .nil, s => s
  | _, _, _, _, .cons h r, s => .cons h (RpA.append r s)
theorem RpA.take : ∀ {vs : List V} {ds : List PyData} (n : Nat), RpA K G vs ds → RpA K G (vs.take n) (ds.take n)
  | _, _, 0, _ => .nil
  | _, _, _ + 1, .nil => .nil
  | _, _, n + 1, .cons h r => .cons h (RpA.take n r)
theorem RpA.drop : ∀ {vs : List V} {ds : List PyData} (n : Nat), RpA K G vs ds → RpA K G (vs.drop n) (ds.drop n)
  | _, _, 0, r => r
  | _, _, _ + 1, .nil => .nil
  | _, _, n + 1, .cons _ r => RpA.drop n r
theorem RpA.set {v : V} {d : PyData} (h : Rp K G v d) : ∀ {vs : List V} {ds : List PyData} (i : Nat), RpA K G vs ds → RpA K G (vs.set i v) (ds.set i d)
  | _, _, _, .nil => .nil
  | _, _, 0, .cons _ r => .cons h r
  | _, _, i + 1, .cons q r => .cons q (RpA.set h i r)
theorem RpA.eraseIdx : ∀ {vs : List V} {ds : List PyData} (i : Nat), RpA K G vs ds → RpA K G (vs.eraseIdx i) (ds.eraseIdx i)
  | _, _, _, .nil => .nil
  | _, _, 0, .cons _ r => r
  | _, _, i + 1, .cons q r => .cons q (RpA.eraseIdx i r)
theorem RpA.dropLast : ∀ {vs : List V} {ds : List PyData}, RpA K G vs ds → RpA K G vs.dropLast ds.dropLast := fun {vs ds} r => by
  rw [List.dropLast_eq_take, List.dropLast_eq_take, r.length]
  exact r.take _
theorem RpA.reverse : ∀ {vs : List V} {ds : List PyData}, RpA K G vs ds → RpA K G vs.reverse ds.reverse
  | _, _, .nil => .nil
  | _, _, .cons h r => by
    (rw [List.reverse_cons, List.reverse_cons])
    exact (RpA.reverse r).append (.cons h .nil)
theorem RpA.rep {vs : List V} {ds : List PyData} (h : RpA K G vs ds) : ∀ n : Nat, RpA K G (List.replicate n vs).flatten (List.replicate n ds).flatten
  | 0 => .nil
  | n + 1 => by
    (rw [List.replicate_succ, List.replicate_succ, List.flatten_cons, List.flatten_cons])
    exact h.append (RpA.rep h n)

/-- what a changing object holds -/
def hoD (K : PySem.W.Frag) (G : Hp) (o : HO) (d : PyData) : Prop :=
  (∃ xs ds, o = .lst xs ∧ RpA K G xs ds ∧ d = .list ds) ∨ (∃ kvs es, hoKV o = some kvs ∧ RpK K G kvs es ∧ d = .dict es)
theorem hoD.mono {o : HO} {d : PyData} (e : Ex G G') (h : hoD K G o d) : hoD K G' o d := by
  rcases h with ⟨xs, ds, e1, r, e2⟩ | ⟨kvs, es, e1, r, e2⟩
  · exact .inl ⟨xs, ds, e1, r.mono e, e2⟩
  · exact .inr ⟨kvs, es, e1, r.mono e, e2⟩
/-- it stays from now on -/
theorem hoD.rp {o : HO} {d : PyData} {p : Addr} (h : hoD K G o d) (hp : G p = some o) : Rp K G (.ref p) d := by
  rcases h with ⟨xs, ds, rfl, r, rfl⟩ | ⟨kvs, es, e1, r, rfl⟩
  · exact .lst hp r
  · exact .dct hp e1 r

def SlotOk (K : PySem.W.Frag) (G H : Hp) : SV → V → Prop
  | .v d, v => Rp K G v d
  | .m d, v => ∃ p o, v = .ref p ∧ G p = none ∧ H p = some o ∧ hoD K G o d
  | .a d, v => ∃ p o, v = .ref p ∧ G p = none ∧ H p = some o ∧ hoD K G o d
end

/-- what holds all through a body: the heap at its entry, the changing object that was handed in (slot and address) -/
structure Fm where
  G0 : Hp
  H0 : Hp
  anc : Nat → Addr → Prop
def SV.mut : SV → Bool
  | .v _ => false
  | _ => true

/-- the slots hold the data -/
structure ER (K : PySem.W.Frag) (F : Fm) (G H : Hp) (σ : L2.St) (δ : Dv) : Prop where
  len : δ.length = σ.length
  ext : Ex G H
  fr : ∀ a o, F.H0 a = some o → (∀ i, ¬ F.anc i a) → H a = some o
  there : ∀ a, F.H0 a ≠ none → H a ≠ none
  cons : ∀ a o, G a = some o → F.G0 a = some o ∨ F.H0 a = none
  slot : ∀ (i : Nat) (sv : SV), δ[i]? = some (some sv) → ∃ v, σ[i]? = some (some v) ∧ SlotOk K G H sv v
  own : ∀ (i : Nat) (d : PyData) (p : Addr), δ[i]? = some (some (.m d)) → σ[i]? = some (some (.ref p)) → F.H0 p = none
  uniq : ∀ (i j : Nat) (s t : SV) (p : Addr), δ[i]? = some (some s) → δ[j]? = some (some t) → s.mut = true → t.mut = true → σ[i]? = some (some (.ref p)) → σ[j]? = some (some (.ref p)) → i = j
  anch : ∀ (i : Nat) (p : Addr), F.anc i p → ∃ d : PyData, δ[i]? = some (some (.a d)) ∧ σ[i]? = some (some (.ref p))
  ancI : ∀ (i : Nat) (d : PyData) (p : Addr), δ[i]? = some (some (.a d)) → σ[i]? = some (some (.ref p)) → F.anc i p

/-- p is a changing object of a slot -/
def IsMut (σ : L2.St) (δ : Dv) (p : Addr) : Prop := ∃ (i : Nat) (s : SV), δ[i]? = some (some s) ∧ s.mut = true ∧ σ[i]? = some (some (.ref p))

section
variable {K : PySem.W.Frag} {F : Fm} {G H G' H' : Hp} {σ : L2.St} {δ : Dv} {p : Addr} {o : HO}
theorem SlotOk.mono {sv : SV} {v : V} (h : SlotOk K G H sv v) (e : Ex G G') (hk : ∀ p o, sv.mut = true → v = .ref p → H p = some o → H' p = some o ∧ (G p = none → G' p = none)) : SlotOk K G' H' sv v := by
  cases sv with
  | v d => exact Rp.mono e h
  | m d =>
    obtain ⟨p, o, e1, e2, e3, e4⟩ := h
    obtain ⟨k1, k2⟩ := hk p o rfl e1 e3
    exact ⟨p, o, e1, k2 e2, k1, e4.mono e⟩
  | a d =>
    obtain ⟨p, o, e1, e2, e3, e4⟩ := h
    obtain ⟨k1, k2⟩ := hk p o rfl e1 e3
    exact ⟨p, o, e1, k2 e2, k1, e4.mono e⟩
theorem SlotOk.muts {sv : SV} {v : V} (h : SlotOk K G H sv v) (hm : sv.mut = true) : ∃ p o, v = .ref p ∧ G p = none ∧ H p = some o ∧ hoD K G o sv.data := by
  cases sv with
  | v d => cases hm
  | m d => exact h
  | a d => exact h
theorem ER.isMut (h : ER K F G H σ δ) {i : Nat} {s : SV} (hi : δ[i]? = some (some s)) (hm : s.mut = true) : ∃ p o, σ[i]? = some (some (.ref p)) ∧ G p = none ∧ H p = some o ∧ hoD K G o s.data ∧ IsMut σ δ p := by
  obtain ⟨v, e1, e2⟩ := h.slot i s hi
  obtain ⟨p, o, rfl, e3, e4, e5⟩ := e2.muts hm
  exact ⟨p, o, e1, e3, e4, e5, i, s, hi, hm, e1⟩
theorem ER.mut_there (h : ER K F G H σ δ) (m : IsMut σ δ p) : H p ≠ none ∧ G p = none := by
  obtain ⟨i, s, hi, hm, hs⟩ := m
  obtain ⟨q, o, e1, e3, e4, _⟩ := h.isMut hi hm
  rw [hs] at e1
  cases e1
  rw [e4]
  exact ⟨nofun, e3⟩
/-- the heap goes on: what G' knows more is not a slot's own; the changing objects are as they were -/
theorem ER.go (h : ER K F G H σ δ) (e : Ex G G') (ee : Ex G' H') (hc : ∀ a o, G' a = some o → F.G0 a = some o ∨ F.H0 a = none) (hn : ∀ q, IsMut σ δ q → G' q = none) (hk : ∀ q u, H q = some u → H' q = some u) : ER K F G' H' σ δ where
  len := h.len
  ext := ee
  fr := fun a u e1 e2 => hk a u (h.fr a u e1 e2)
  there := fun a e1 => by
    have := h.there a e1
    cases q : H a with
    | none => exact absurd q this
    | some u => rw [hk a u q]; exact fun z => by cases z
  cons := hc
  slot := fun i sv hi => by
    obtain ⟨v, e1, e2⟩ := h.slot i sv hi
    refine ⟨v, e1, e2.mono e fun p u hm ev hp => ⟨hk p u hp, fun _ => hn p ?_⟩⟩
    subst ev
    exact ⟨i, sv, hi, hm, e1⟩
  own := h.own
  uniq := h.uniq
  anch := h.anch
  ancI := h.ancI
theorem ER.h0 (h : ER K F G H σ δ) (hp : H p = none) : F.H0 p = none := by
  cases q : F.H0 p with
  | none => rfl
  | some u => exact absurd hp (h.there p (by rw [q]; exact nofun))
theorem ER.cons1 (h : ER K F G H σ δ) (hp : F.H0 p = none) : ∀ a u, upd G p o a = some u → F.G0 a = some u ∨ F.H0 a = none := fun a u e => by
  by_cases ha : a = p
  · subst ha; exact .inr hp
  · rw [upd_ne ha] at e; exact h.cons a u e
/-- a new object that stays -/
theorem ER.new (h : ER K F G H σ δ) (hp : H p = none) : ER K F (upd G p o) (upd H p o) σ δ := by
  have gp : G p = none := fresh_back h.ext hp
  refine h.go (Ex.new gp) (fun a u e => ?_) (h.cons1 (h.h0 hp)) (fun q m => ?_) (fun q u e => by rw [upd_ne (ne_of_none e hp)]; exact e)
  · by_cases ha : a = p
    · subst ha; rw [upd_same] at e ⊢; exact e
    · rw [upd_ne ha] at e ⊢; exact h.ext a u e
  · have := h.mut_there m
    have hne : q ≠ p := fun z => this.1 (by rw [z]; exact hp)
    rw [upd_ne hne]; exact this.2
/-- a new object of one's own -/
theorem ER.own' (h : ER K F G H σ δ) (hp : H p = none) : ER K F G (upd H p o) σ δ :=
  h.go (Ex.refl G) (h.ext.trans (Ex.new hp)) h.cons (fun q m => (h.mut_there m).2) fun q u e => by rw [upd_ne (ne_of_none e hp)]; exact e
/-- an own object, no slot's, stays from now on -/
theorem ER.frz (h : ER K F G H σ δ) (hp : H p = some o) (gp : G p = none) (h0 : F.H0 p = none) (hm : ¬ IsMut σ δ p) : ER K F (upd G p o) H σ δ := by
  refine h.go (Ex.new gp) (fun a u e => ?_) (h.cons1 h0) (fun q m => ?_) (fun _ _ e => e)
  · by_cases ha : a = p
    · subst ha; rw [upd_same] at e; cases e; exact hp
    · rw [upd_ne ha] at e; exact h.ext a u e
  · have hne : q ≠ p := fun z => hm (z ▸ m)
    rw [upd_ne hne]; exact (h.mut_there m).2
theorem IsMut.not_new (h : ER K F G H σ δ) (hp : H p = none) : ¬ IsMut σ δ p := fun m => (h.mut_there m).1 hp

theorem set_get {α : Type} {l : List α} {i j : Nat} {x y : α} (e : (l.set i x)[j]? = some y) : (j = i ∧ y = x ∧ i < l.length) ∨ (j ≠ i ∧ l[j]? = some y) := by
  by_cases hj : j = i
  · subst hj
    by_cases hl : j < l.length
    · rw [List.getElem?_set_self hl] at e; cases e; exact .inl ⟨rfl, rfl, hl⟩
    · rw [List.getElem?_eq_none (by rw [List.length_set]; omega)] at e; cases e
  · rw [List.getElem?_set_ne (Ne.symm hj)] at e; exact .inr ⟨hj, e⟩

/-- a slot may be set anew -/
def Free (δ : Dv) (i : Nat) : Prop := ∀ d, δ[i]? ≠ some (some (.a d))
instance (δ : Dv) (i : Nat) : Decidable (Free δ i) :=
  match h : δ[i]? with
  | some (some (.a d)) => isFalse fun f => f d h
  | some (some (.v _)) => isTrue fun d z => by rw [h] at z; cases z
  | some (some (.m _)) => isTrue fun d z => by rw [h] at z; cases z
  | some none => isTrue fun d z => by rw [h] at z; cases z
  | none => isTrue fun d z => by rw [h] at z; cases z

theorem ER.set (h : ER K F G H σ δ) {i : Nat} {v : V} {sv : SV} (hf : Free δ i) (hs : SlotOk K G H sv v) (hna : ∀ d, sv ≠ .a d)
    (hown : ∀ d p, sv = .m d → v = .ref p → F.H0 p = none ∧ ∀ (j : Nat) (s : SV), j ≠ i → δ[j]? = some (some s) → s.mut = true → σ[j]? ≠ some (some (.ref p))) : ER K F G H (σ.set i (some v)) (δ.set i (some sv)) where
  len := by rw [List.length_set, List.length_set]; exact h.len
  ext := h.ext
  fr := h.fr
  there := h.there
  cons := h.cons
  slot := fun j s e => by
    rcases set_get e with ⟨rfl, e1, hl⟩ | ⟨hj, e1⟩
    · cases e1
      exact ⟨v, by rw [List.getElem?_set_self (by rw [← h.len]; exact hl)], hs⟩
    · obtain ⟨w, e2, e3⟩ := h.slot j s e1
      exact ⟨w, by rw [List.getElem?_set_ne (Ne.symm hj)]; exact e2, e3⟩
  own := fun j d p e1 e2 => by
    rcases set_get e1 with ⟨rfl, e3, hl⟩ | ⟨hj, e3⟩
    · rw [List.getElem?_set_self (by rw [← h.len]; exact hl)] at e2
      cases e3; cases e2
      exact (hown d p rfl rfl).1
    · (rw [List.getElem?_set_ne (Ne.symm hj)] at e2)
      exact h.own j d p e3 e2
  uniq := fun j k s t p e1 e2 m1 m2 e3 e4 => by
    rcases set_get e1 with ⟨rfl, c1, hl1⟩ | ⟨hj, c1⟩ <;> rcases set_get e2 with ⟨rfl, c2, hl2⟩ | ⟨hk, c2⟩
    · rfl
    · rw [List.getElem?_set_self (by rw [← h.len]; exact hl1)] at e3
      rw [List.getElem?_set_ne (Ne.symm hk)] at e4
      cases c1; cases e3
      cases sv with
      | v d => cases m1
      | a d => exact absurd rfl (hna d)
      | m d => exact absurd e4 ((hown d p rfl rfl).2 k t hk c2 m2)
    · rw [List.getElem?_set_self (by rw [← h.len]; exact hl2)] at e4
      rw [List.getElem?_set_ne (Ne.symm hj)] at e3
      cases c2; cases e4
      cases sv with
      | v d => cases m2
      | a d => exact absurd rfl (hna d)
      | m d => exact absurd e3 ((hown d p rfl rfl).2 j s hj c1 m1)
    · rw [List.getElem?_set_ne (Ne.symm hj)] at e3
      rw [List.getElem?_set_ne (Ne.symm hk)] at e4
      exact h.uniq j k s t p c1 c2 m1 m2 e3 e4
  anch := fun j p e => by
    obtain ⟨d, e1, e2⟩ := h.anch j p e
    have hj : j ≠ i := fun z => hf d (z ▸ e1)
    exact ⟨d, by rw [List.getElem?_set_ne (Ne.symm hj)]; exact e1, by rw [List.getElem?_set_ne (Ne.symm hj)]; exact e2⟩
  ancI := fun j d p e1 e2 => by
    rcases set_get e1 with ⟨rfl, e3, hl⟩ | ⟨hj, e3⟩
    · cases e3; exact absurd rfl (hna d)
    · (rw [List.getElem?_set_ne (Ne.symm hj)] at e2)
      exact h.ancI j d p e3 e2
theorem ER.setv (h : ER K F G H σ δ) {i : Nat} {v : V} {d : PyData} (hf : Free δ i) (hs : Rp K G v d) : ER K F G H (σ.set i (some v)) (δ.set i (some (.v d))) :=
  h.set hf hs (fun _ z => by cases z) fun _ _ z => by cases z

/-- a slot is emptied -/
theorem ER.drop (h : ER K F G H σ δ) {i : Nat} (hf : Free δ i) : ER K F G H σ (δ.set i none) := by
  have g : ∀ (j : Nat) (s : SV), (δ.set i none)[j]? = some (some s) → j ≠ i ∧ δ[j]? = some (some s) := fun j s e => by
    rcases set_get e with ⟨_, e1, _⟩ | ⟨hj, e1⟩
    · cases e1
    · exact ⟨hj, e1⟩
  refine ⟨by rw [List.length_set]; exact h.len, h.ext, h.fr, h.there, h.cons, fun j s e => h.slot j s (g j s e).2, fun j d p e1 e2 => h.own j d p (g j _ e1).2 e2, fun j k s t p e1 e2 m1 m2 e3 e4 => h.uniq j k s t p (g j _ e1).2 (g k _ e2).2 m1 m2 e3 e4, fun j p e => ?_, fun j d p e1 e2 => h.ancI j d p (g j _ e1).2 e2⟩
  obtain ⟨d, e1, e2⟩ := h.anch j p e
  exact ⟨d, by rw [List.getElem?_set_ne (fun z : i = j => hf d (by rw [z]; exact e1))]; exact e1, e2⟩
/-- the object of a slot is changed -/
def SV.put : SV → PyData → SV
  | .v _, d => .v d
  | .m _, d => .m d
  | .a _, d => .a d
theorem SV.put_mut (s : SV) (d : PyData) : (s.put d).mut = s.mut := by cases s <;> rfl
theorem ER.wr (h : ER K F G H σ δ) {i : Nat} {s : SV} {d' : PyData} {o' : HO} (hi : δ[i]? = some (some s)) (hm : s.mut = true) (hp : σ[i]? = some (some (.ref p))) (ho : hoD K G o' d') : ER K F G (upd H p o') σ (δ.set i (some (s.put d'))) := by
  obtain ⟨q, ou, q1, q2, q3, q4, q5⟩ := h.isMut hi hm
  rw [hp] at q1; cases q1
  have il : i < δ.length := (List.getElem?_eq_some_iff.mp hi).1
  refine ⟨by rw [List.length_set]; exact h.len, Ex.mut h.ext q2, fun a u e1 e2 => ?_, fun a e1 => ?_, h.cons, fun j t e => ?_, fun j d r e1 e2 => ?_, fun j k t u r e1 e2 m1 m2 e3 e4 => ?_, fun j r e => ?_, fun j d r e1 e2 => ?_⟩
  · have hne : a ≠ p := fun z => by
      subst z
      cases s with
      | v d => cases hm
      | m d => rw [h.own i d a hi hp] at e1; cases e1
      | a d => exact e2 i (h.ancI i d a hi hp)
    rw [upd_ne hne]; exact h.fr a u e1 e2
  · by_cases ha : a = p
    · subst ha; rw [upd_same]; exact fun z => by cases z
    · rw [upd_ne ha]; exact h.there a e1
  · rcases set_get e with ⟨rfl, e1, hl⟩ | ⟨hj, e1⟩
    · have e1' : t = s.put d' := Option.some.inj e1
      subst e1'
      refine ⟨_, hp, ?_⟩
      cases s with
      | v d => cases hm
      | m d => exact ⟨p, o', rfl, q2, upd_same, ho⟩
      | a d => exact ⟨p, o', rfl, q2, upd_same, ho⟩
    · obtain ⟨w, e2, e3⟩ := h.slot j t e1
      refine ⟨w, e2, e3.mono (Ex.refl G) fun r u m ev hr => ⟨?_, id⟩⟩
      subst ev
      have hne : r ≠ p := fun z => by subst z; exact hj (h.uniq j i t s r e1 hi m hm e2 hp)
      rw [upd_ne hne]; exact hr
  · rcases set_get e1 with ⟨rfl, e3, hl⟩ | ⟨hj, e3⟩
    · cases s with
      | v d => cases hm
      | m d2 => exact h.own j d2 r hi e2
      | a d2 => cases e3
    · exact h.own j d r e3 e2
  · rcases set_get e1 with ⟨rfl, c1, hl1⟩ | ⟨hj, c1⟩ <;> rcases set_get e2 with ⟨rfl, c2, hl2⟩ | ⟨hk, c2⟩
    · rfl
    · exact h.uniq j k s u r hi c2 hm m2 e3 e4
    · exact h.uniq j k t s r c1 hi m1 hm e3 e4
    · exact h.uniq j k t u r c1 c2 m1 m2 e3 e4
  · obtain ⟨d, e1, e2⟩ := h.anch j r e
    by_cases hj : j = i
    · subst hj
      rw [hi] at e1
      have e1' : s = .a d := Option.some.inj (Option.some.inj e1)
      subst e1'
      exact ⟨d', by rw [List.getElem?_set_self il]; rfl, e2⟩
    · exact ⟨d, by rw [List.getElem?_set_ne (Ne.symm hj)]; exact e1, e2⟩
  · rcases set_get e1 with ⟨rfl, e3, hl⟩ | ⟨hj, e3⟩
    · cases s with
      | v d => cases hm
      | m d2 => cases e3
      | a d2 => exact h.ancI j d2 r hi e2
    · exact h.ancI j d r e3 e2
/-- a slot's own object stays from now on -/
theorem ER.fix (h : ER K F G H σ δ) {i : Nat} {d : PyData} (hi : δ[i]? = some (some (.m d))) (hp : σ[i]? = some (some (.ref p))) (ho : H p = some o) (hd : hoD K G o d) (gp : G p = none) : ER K F (upd G p o) H σ (δ.set i (some (.v d))) := by
  have e : Ex G (upd G p o) := Ex.new gp
  refine ⟨by rw [List.length_set]; exact h.len, fun a u e => ?_, h.fr, h.there, h.cons1 (h.own i d p hi hp), fun j t e2 => ?_, fun j d r e1 e2 => ?_, fun j k t u r e1 e2 m1 m2 e3 e4 => ?_, fun j r e1 => ?_, fun j d2 r e1 e2 => ?_⟩
  · by_cases ha : a = p
    · subst ha; rw [upd_same] at e; cases e; exact ho
    · rw [upd_ne ha] at e; exact h.ext a u e
  · rcases set_get e2 with ⟨rfl, e1, hl⟩ | ⟨hj, e1⟩
    · cases e1
      exact ⟨_, hp, (hd.mono e).rp upd_same⟩
    · obtain ⟨w, c2, c3⟩ := h.slot j t e1
      refine ⟨w, c2, c3.mono e fun r u m ev hr => ⟨hr, fun g => ?_⟩⟩
      subst ev
      have hne : r ≠ p := fun z => by subst z; exact hj (h.uniq j i t _ r e1 hi m rfl c2 hp)
      rw [upd_ne hne]; exact g
  · rcases set_get e1 with ⟨rfl, e3, hl⟩ | ⟨hj, e3⟩
    · cases e3
    · exact h.own j d r e3 e2
  · rcases set_get e1 with ⟨rfl, c1, hl1⟩ | ⟨hj, c1⟩ <;> rcases set_get e2 with ⟨rfl, c2, hl2⟩ | ⟨hk, c2⟩
    · rfl
    · cases c1; cases m1
    · cases c2; cases m2
    · exact h.uniq j k t u r c1 c2 m1 m2 e3 e4
  · obtain ⟨d2, c1, c2⟩ := h.anch j r e1
    by_cases hj : j = i
    · subst hj; rw [hi] at c1; cases c1
    · exact ⟨d2, by rw [List.getElem?_set_ne (Ne.symm hj)]; exact c1, c2⟩
  · rcases set_get e1 with ⟨rfl, e3, hl⟩ | ⟨hj, e3⟩
    · cases e3
    · exact h.ancI j d2 r e3 e2
end
end Pw

set_option maxRecDepth 100000
set_option maxHeartbeats 3900000
/-! ## 2. expressions -/
namespace Pw
open PySem L2
open Evl (Ex ex_rd fresh_back)

/-- how a value is held: data that stays; a new object of one's own; anything that can be read now -/
inductive Kd where
  | F
  | O
  | B
def Res (K : PySem.W.Frag) (F : Fm) (G H : Hp) (σ : L2.St) (δ : Dv) : Kd → V → PyData → Prop
  | .F, v, d => Rp K G v d
  | .O, v, d => ∃ p o, v = .ref p ∧ G p = none ∧ H p = some o ∧ hoD K G o d ∧ F.H0 p = none ∧ ¬ IsMut σ δ p
  | .B, v, d => Rp K G v d ∨ ∃ p o, v = .ref p ∧ H p = some o ∧ hoD K G o d

/-- what is wanted of an error of the class called c -/
def Wis (K : PySem.W.Frag) (cl : Str → Value) (W : WX) (F : Fm) (G : Hp) (c : Str) : Prop :=
  ∀ (σ' : L2.St) (δ' : Dv) (G' H' : Hp), Ex G G' → ER K F G' H' σ' δ' → W (cl c) none σ' H'
theorem Wis.mono {K : PySem.W.Frag} {cl : Str → Value} {W : WX} {F : Fm} {G G1 : Hp} {c : Str} (h : Wis K cl W F G c) (e : Ex G G1) : Wis K cl W F G1 c :=
  fun σ' δ' G' H' e1 r => h σ' δ' G' H' (e.trans e1) r

/-- what is wanted behind an expression -/
def Po (K : PySem.W.Frag) (cl : Str → Value) (W : WX) (F : Fm) (σ : L2.St) (G : Hp) (kd : Kd) (r : Rs (PyData × Dv)) (Q : VK) : Prop :=
  match r with
  | .ok x => ∀ (v : V) (H2 G2 : Hp), Ex G G2 → ER K F G2 H2 σ x.2 → Res K F G2 H2 σ x.2 kd v x.1 → Q v H2
  | .err c => Wis K cl W F G c
  | .bad => False
def tM (K : PySem.W.Frag) (cl : Str → Value) (W : WX) (kd : Kd) (f : Dv → Rs (PyData × Dv)) : TE := fun σ H Q =>
  ∃ (F : Fm) (G : Hp) (δ : Dv), ER K F G H σ δ ∧ Po K cl W F σ G kd (f δ) Q
/-- a test -/
def PoT (K : PySem.W.Frag) (cl : Str → Value) (W : WX) (F : Fm) (σ : L2.St) (G : Hp) (r : Rs (Bool × Dv)) (Q : Bool → Hp → Prop) : Prop :=
  match r with
  | .ok x => ∀ (H2 G2 : Hp), Ex G G2 → ER K F G2 H2 σ x.2 → Q x.1 H2
  | .err c => Wis K cl W F G c
  | .bad => False
def tT (K : PySem.W.Frag) (cl : Str → Value) (W : WX) (f : Dv → Rs (Bool × Dv)) : TT := fun σ H Q =>
  ∃ (F : Fm) (G : Hp) (δ : Dv), ER K F G H σ δ ∧ PoT K cl W F σ G (f δ) Q

theorem pe_weak {X : Cx} {e : Expr} {t t' : TE} (h : PE X e t) (w : ∀ σ H Q, t' σ H Q → t σ H Q) : PE X e t' := ⟨fun pins s σ H Q I q => h.run pins s σ H Q I (w _ _ _ q)⟩
theorem pt_weak {X : Cx} {e : Expr} {t t' : TT} (h : PT X e t) (w : ∀ σ H Q, t' σ H Q → t σ H Q) : PT X e t' := ⟨fun pins s σ H Q I q => h.run pins s σ H Q I (w _ _ _ q)⟩
theorem pw_weak {X : Cx} {e : Expr} {t t' : TT} (h : PW X e t) (w : ∀ σ H Q, t' σ H Q → t σ H Q) : PW X e t' := ⟨fun wh pins s σ H Q I q => h.run wh pins s σ H Q I (w _ _ _ q)⟩
theorem ps_weak {X : Cx} {e : Stmt} {t t' : TS} (h : PS X e t) (w : ∀ D σ H, t' D σ H → t D σ H) : PS X e t' := ⟨fun pins s σ H D I q => h.run pins s σ H D I (w _ _ _ q)⟩
theorem pss_weak {X : Cx} {e : List Stmt} {t t' : TS} (h : PSs X e t) (w : ∀ D σ H, t' D σ H → t D σ H) : PSs X e t' := ⟨fun pins s σ H D I q => h.run pins s σ H D I (w _ _ _ q)⟩
theorem pa_weak {X : Cx} {e : List Expr} {t t' : TA} (h : PA X e t) (w : ∀ σ H Q, t' σ H Q → t σ H Q) : PA X e t' := ⟨fun pos pins s σ H Q I q => h.run pos pins s σ H Q I (w _ _ _ q)⟩
theorem pi_weak {X : Cx} {tg e : Expr} {t t' : TI} (h : PI X tg e t) (w : ∀ σ H Q, t' σ H Q → t σ H Q) : PI X tg e t' := ⟨fun pins s σ H R I q => h.run pins s σ H R I (w _ _ _ q)⟩

section
variable {K : PySem.W.Frag} {cl : Str → Value} {W : WX} {F : Fm} {σ : L2.St} {G G1 H : Hp} {kd : Kd} {δ : Dv}
theorem Po.mono {r : Rs (PyData × Dv)} {Q : VK} (h : Po K cl W F σ G kd r Q) (e : Ex G G1) : Po K cl W F σ G1 kd r Q := by
  cases r with
  | ok x => exact fun v H2 G2 e1 r1 r2 => h v H2 G2 (e.trans e1) r1 r2
  | err c => exact Wis.mono h e
  | bad => exact h
theorem PoT.mono {r : Rs (Bool × Dv)} {Q : Bool → Hp → Prop} (h : PoT K cl W F σ G r Q) (e : Ex G G1) : PoT K cl W F σ G1 r Q := by
  cases r with
  | ok x => exact fun H2 G2 e1 r1 => h H2 G2 (e.trans e1) r1
  | err c => exact Wis.mono h e
  | bad => exact h
/-- first a, then what goes on from its value -/
theorem Po.bind {r : Rs (PyData × Dv)} {k : PyData × Dv → Rs (PyData × Dv)} {kd1 kd2 : Kd} {Q Q1 : VK} (h : Po K cl W F σ G kd2 (r.bind k) Q)
    (hk : ∀ (d : PyData) (δ1 : Dv) (v : V) (H1 G1 : Hp), Ex G G1 → ER K F G1 H1 σ δ1 → Res K F G1 H1 σ δ1 kd1 v d → Po K cl W F σ G1 kd2 (k (d, δ1)) Q → Q1 v H1) : Po K cl W F σ G kd1 r Q1 := by
  cases r with
  | ok x => exact fun v H1 G1 e1 r1 r2 => hk x.1 x.2 v H1 G1 e1 r1 r2 (Po.mono h e1)
  | err c => exact h
  | bad => exact h
theorem Po.bindT {r : Rs (PyData × Dv)} {k : PyData × Dv → Rs (Bool × Dv)} {kd1 : Kd} {Q : Bool → Hp → Prop} {Q1 : VK} (h : PoT K cl W F σ G (r.bind k) Q)
    (hk : ∀ (d : PyData) (δ1 : Dv) (v : V) (H1 G1 : Hp), Ex G G1 → ER K F G1 H1 σ δ1 → Res K F G1 H1 σ δ1 kd1 v d → PoT K cl W F σ G1 (k (d, δ1)) Q → Q1 v H1) : Po K cl W F σ G kd1 r Q1 := by
  cases r with
  | ok x => exact fun v H1 G1 e1 r1 r2 => hk x.1 x.2 v H1 G1 e1 r1 r2 (PoT.mono h e1)
  | err c => exact h
  | bad => exact h
theorem PoT.bind {r : Rs (Bool × Dv)} {k : Bool × Dv → Rs (PyData × Dv)} {kd2 : Kd} {Q : VK} {Q1 : Bool → Hp → Prop} (h : Po K cl W F σ G kd2 (r.bind k) Q)
    (hk : ∀ (b : Bool) (δ1 : Dv) (H1 G1 : Hp), Ex G G1 → ER K F G1 H1 σ δ1 → Po K cl W F σ G1 kd2 (k (b, δ1)) Q → Q1 b H1) : PoT K cl W F σ G r Q1 := by
  cases r with
  | ok x => exact fun H1 G1 e1 r1 => hk x.1 x.2 H1 G1 e1 r1 (Po.mono h e1)
  | err c => exact h
  | bad => exact h
theorem PoT.bindT {r : Rs (Bool × Dv)} {k : Bool × Dv → Rs (Bool × Dv)} {Q : Bool → Hp → Prop} {Q1 : Bool → Hp → Prop} (h : PoT K cl W F σ G (r.bind k) Q)
    (hk : ∀ (b : Bool) (δ1 : Dv) (H1 G1 : Hp), Ex G G1 → ER K F G1 H1 σ δ1 → PoT K cl W F σ G1 (k (b, δ1)) Q → Q1 b H1) : PoT K cl W F σ G r Q1 := by
  cases r with
  | ok x => exact fun H1 G1 e1 r1 => hk x.1 x.2 H1 G1 e1 r1 (PoT.mono h e1)
  | err c => exact h
  | bad => exact h
theorem Res.b_of_f {v : V} {d : PyData} (h : Res K F G H σ δ .F v d) : Res K F G H σ δ .B v d := .inl h
end

section
variable {X : Cx} {cl : Str → Value} {W : WX} {a b c : Expr} {fa fb fc : Dv → Rs (PyData × Dv)} {pos : Pos}

/-- an expression and its sense -/
abbrev Pm (X : Cx) (cl : Str → Value) (W : WX) (kd : Kd) (e : Expr) (f : Dv → Rs (PyData × Dv)) : Prop := PE X e (tM X.K cl W kd f)
abbrev Pt (X : Cx) (cl : Str → Value) (W : WX) (e : Expr) (f : Dv → Rs (Bool × Dv)) : Prop := PT X e (tT X.K cl W f)
abbrev Pww (X : Cx) (cl : Str → Value) (W : WX) (e : Expr) (f : Dv → Rs (Bool × Dv)) : Prop := PW X e (tT X.K cl W f)

theorem m_b (h : Pm X cl W .F a fa) : Pm X cl W .B a fa := pe_weak h fun σ H Q ⟨F, G, δ, e, p⟩ => ⟨F, G, δ, e, by
  revert p
  cases fa δ with
  | ok x => exact fun p v H2 G2 e1 r1 r2 => p v H2 G2 e1 r1 (.inl r2)
  | err c => exact id
  | bad => exact id⟩
theorem m_f (h : Pm X cl W .O a fa) : Pm X cl W .F a fa := pe_weak h fun σ H Q ⟨F, G, δ, e, p⟩ => ⟨F, G, δ, e, by
  revert p
  cases fa δ with
  | ok x =>
    intro p v H2 G2 e1 r1 r2
    obtain ⟨q, o, rfl, g1, h1, hd, h0, nm⟩ := r2
    have e2 : Ex G2 (upd G2 q o) := Ex.new g1
    exact p _ H2 (upd G2 q o) (e1.trans e2) (r1.frz h1 g1 h0 nm) ((hd.mono e2).rp upd_same)
  | err c => exact id
  | bad => exact id⟩
theorem m_ob (h : Pm X cl W .O a fa) : Pm X cl W .B a fa := m_b (m_f h)

/-! ### names, constants -/
def fVar (i : Nat) : Dv → Rs (PyData × Dv) := fun δ => match δ[i]? with
  | some (some (.v d)) => .ok (d, δ)
  | some (some (.m d)) => .ok (d, δ.set i (some (.v d)))
  | _ => .bad
theorem m_var (i : Nat) {x : Str} {p : Pos} (h : PE X (.Name x p) (tVar i)) : Pm X cl W .F (.Name x p) (fVar i) := pe_weak h fun σ H Q ⟨F, G, δ, e, q⟩ => by
  cases hi : δ[i]? with
  | none => simp only [fVar, hi] at q; exact q.elim
  | some o =>
    cases o with
    | none => simp only [fVar, hi] at q; exact q.elim
    | some sv =>
      cases sv with
      | v d =>
        simp only [fVar, hi] at q
        obtain ⟨v, e1, e2⟩ := e.slot i _ hi
        exact ⟨v, e1, q v H G (Ex.refl G) e e2⟩
      | m d =>
        simp only [fVar, hi] at q
        obtain ⟨p, o, e1, e2, e3, e4, e5⟩ := e.isMut hi rfl
        have ee : Ex G (upd G p o) := Ex.new e2
        exact ⟨_, e1, q _ H (upd G p o) ee (e.fix hi e1 e3 e4 e2) ((e4.mono ee).rp upd_same)⟩
      | a d => simp only [fVar, hi] at q; exact q.elim
def fBar (i : Nat) : Dv → Rs (PyData × Dv) := fun δ => match δ[i]? with
  | some (some s) => .ok (s.data, δ)
  | _ => .bad
/-- a name that is only looked at -/
theorem m_bar (i : Nat) {x : Str} {p : Pos} (h : PE X (.Name x p) (tVar i)) : Pm X cl W .B (.Name x p) (fBar i) := pe_weak h fun σ H Q ⟨F, G, δ, e, q⟩ => by
  cases hi : δ[i]? with
  | none => simp only [fBar, hi] at q; exact q.elim
  | some o =>
    cases o with
    | none => simp only [fBar, hi] at q; exact q.elim
    | some sv =>
      simp only [fBar, hi] at q
      obtain ⟨v, e1, e2⟩ := e.slot i _ hi
      refine ⟨v, e1, q v H G (Ex.refl G) e ?_⟩
      cases sv with
      | v d => exact .inl e2
      | m d =>
        obtain ⟨p, o, rfl, _, h2, h3⟩ := e2
        exact .inr ⟨p, o, rfl, h2, h3⟩
      | a d =>
        obtain ⟨p, o, rfl, _, h2, h3⟩ := e2
        exact .inr ⟨p, o, rfl, h2, h3⟩
def fC (d : PyData) : Dv → Rs (PyData × Dv) := fun δ => .ok (d, δ)
theorem m_con {v : V} {d : PyData} (h : PE X a (tC v)) (hr : ∀ G, Rp X.K G v d) : Pm X cl W .F a (fC d) := pe_weak h fun σ H Q ⟨F, G, δ, e, q⟩ => q v H G (Ex.refl G) e (hr G)
theorem m_int {i : Int} {j : Nat} : Pm X cl W .F (.Constant (.int i) j pos) (fC (.int i)) := m_con pe_int fun _ => .int i

theorem m_bl {b : Bool} {j : Nat} : Pm X cl W .F (.Constant (.bool b) j pos) (fC (.bool b)) := m_con pe_bl fun _ => .bl b
theorem m_non {j : Nat} : Pm X cl W .F (.Constant .none j pos) (fC .none) := m_con pe_non fun _ => .non
theorem m_str {x : Str} {j : Nat} : Pm X cl W .F (.Constant (.str x) j pos) (fC (.str x)) := m_con pe_str fun _ => .str x

/-! ### two values -/
def lift (o : Option PyData) (δ : Dv) : Rs (PyData × Dv) := match o with
  | some d => .ok (d, δ)
  | none => .bad
@[simp] theorem lift_some (d : PyData) (δ : Dv) : lift (some d) δ = .ok (d, δ) := (rfl)
def f2 (op : PyData → PyData → Option PyData) (fa fb : Dv → Rs (PyData × Dv)) : Dv → Rs (PyData × Dv) := fun δ => (fa δ).bind fun x => (fb x.2).bind fun y => lift (op x.1 y.1) y.2
/-- a rule for two values gives what op says -/
def Is2 (K : PySem.W.Frag) (kd : Kd) (op : PyData → PyData → Option PyData) (r : R2) : Prop :=
  ∀ (F : Fm) (G H : Hp) (σ : L2.St) (δ : Dv) (x y : V) (dx dy d : PyData) (Q : VK), ER K F G H σ δ → Rp K G x dx → Rp K G y dy → op dx dy = some d →
    (∀ (v : V) (H2 G2 : Hp), Ex G G2 → ER K F G2 H2 σ δ → Res K F G2 H2 σ δ kd v d → Q v H2) → r x y H Q
theorem go2 {K : PySem.W.Frag} {kd : Kd} {op : PyData → PyData → Option PyData} {r : R2} (ho : Is2 K kd op r) {σ : L2.St} {H : Hp} {Q : VK} (h : tM K cl W kd (f2 op fa fb) σ H Q) : tOp r (tM K cl W .F fa) (tM K cl W .F fb) σ H Q := by
  obtain ⟨F, G, δ, e, p⟩ := h
  refine ⟨F, G, δ, e, Po.bind p fun dx δ1 x H1 G1 e1 r1 rx p1 => ⟨F, G1, δ1, r1, Po.bind p1 fun dy δ2 y H2 G2 e2 r2 ry p2 => ?_⟩⟩
  cases ho' : op dx dy with
  | none => simp only [ho', lift] at p2; exact p2.elim
  | some d =>
    simp only [ho', lift] at p2
    exact ho F G2 H2 σ δ2 x y dx dy d Q r2 (Rp.mono e2 rx) ry ho' fun v H3 G3 e3 r3 rv => p2 v H3 G3 e3 r3 rv
theorem m_bin {kd : Kd} {op : Operator} {p : PyData → PyData → Option PyData} {r : R2} (ho : OpR X (binaryOp op) r) (hi : Is2 X.K kd p r) (ha : Pm X cl W .F a fa) (hb : Pm X cl W .F b fb) : Pm X cl W kd (.BinOp a op b pos) (f2 p fa fb) :=
  pe_weak (pe_op ho ha hb) fun _ _ _ h => go2 hi h
theorem m_cmp {op : CmpOp} {p : PyData → PyData → Option PyData} {r : R2} (ho : OpR X (compareOp op) r) (hi : Is2 X.K .F p r) (ha : Pm X cl W .F a fa) (hb : Pm X cl W .F b fb) (hm : behindInMarks op b = false) : Pm X cl W .F (.Compare a [op] [b] pos) (f2 p fa fb) :=
  pe_weak (pe_cmpR ho ha hb hm) fun _ _ _ h => go2 hi h
theorem m_ix {p : PyData → PyData → Option PyData} {r : R2} (ho : IxR X r) (hi : Is2 X.K .F p r) (ha : Pm X cl W .F a fa) (hb : Pm X cl W .F b fb) (hs : PlainIx b) : Pm X cl W .F (.Subscript a b pos) (f2 p fa fb) :=
  pe_weak (pe_ix ho ha hb hs) fun _ _ _ h => go2 hi h
theorem Is2.or {K : PySem.W.Frag} {kd : Kd} {p p' : PyData → PyData → Option PyData} {r r' : R2} (h : Is2 K kd p r) (h' : Is2 K kd p' r') :
    Is2 K kd (fun x y => (p x y).or (p' x y)) (fun x y H Q => r x y H Q ∨ r' x y H Q) := fun F G H σ δ x y dx dy d Q e rx ry ho k => by
  cases hp : p dx dy with
  | some d1 =>
    simp only [hp, Option.or] at ho
    cases ho
    exact .inl (h F G H σ δ x y dx dy d Q e rx ry hp k)
  | none =>
    simp only [hp, Option.or] at ho
    exact .inr (h' F G H σ δ x y dx dy d Q e rx ry ho k)

/-! ### whole numbers -/
def oI (C : Int → Int → Bool) (g : Int → Int → PyData) : PyData → PyData → Option PyData
  | .int i, .int j => if C i j = true then some (g i j) else none
  | _, _ => none
theorem is_rI {K : PySem.W.Frag} {C : Int → Int → Bool} {C' : Int → Int → Prop} {g : Int → Int → Int} (hc : ∀ i j, C i j = true → C' i j) : Is2 K .F (oI C fun i j => .int (g i j)) (rI C' fun i j => .int (g i j)) := by
  intro F G H σ δ x y dx dy d Q e rx ry ho k
  cases rx <;> cases ry <;> simp only [oI] at ho <;> try (cases ho; done)
  rename_i i j
  split at ho
  · rename_i hC
    cases ho
    exact ⟨i, j, rfl, rfl, hc i j hC, k _ H G (Ex.refl G) e (.int _)⟩
  · cases ho
theorem is_rI0 {K : PySem.W.Frag} {g : Int → Int → Int} : Is2 K .F (oI (fun _ _ => true) fun i j => .int (g i j)) (rI0 fun i j => .int (g i j)) := by
  intro F G H σ δ x y dx dy d Q e rx ry ho k
  cases rx <;> cases ry <;> simp only [oI] at ho <;> try (cases ho; done)
  rename_i i j
  simp only [if_true] at ho
  cases ho
  exact ⟨i, j, rfl, rfl, k _ H G (Ex.refl G) e (.int _)⟩
theorem is_rB0 {K : PySem.W.Frag} {g : Int → Int → Bool} : Is2 K .F (oI (fun _ _ => true) fun i j => .bool (g i j)) (rI0 fun i j => .bl (g i j)) := by
  intro F G H σ δ x y dx dy d Q e rx ry ho k
  cases rx <;> cases ry <;> simp only [oI] at ho <;> try (cases ho; done)
  rename_i i j
  simp only [if_true] at ho
  cases ho
  exact ⟨i, j, rfl, rfl, k _ H G (Ex.refl G) e (.bl _)⟩
def oSub := oI (fun _ _ => true) fun i j => .int (i - j)
def oMulI := oI (fun i j => decide (i.natAbs.log2 + j.natAbs.log2 < 1000000)) fun i j => .int (i * j)
def oDiv := oI (fun _ j => decide (0 < j) && decide (j.natAbs.log2 < 9000)) fun i j => .int (i / j)
def oMod := oI (fun _ j => decide (0 < j)) fun i j => .int (i % j)
def oPow := oI (fun i j => decide (0 ≤ j) && decide (j ≤ 1000000) && decide (i.natAbs < 2 ^ 64)) fun i j => .int (i ^ j.toNat)
def oShl := oI (fun i j => decide (0 ≤ j) && decide (j ≤ 1000000) && decide (i.natAbs < 2 ^ 64)) fun i j => .int (i * 2 ^ j.toNat)
def oShr := oI (fun _ j => decide (0 ≤ j)) fun i j => .int (i / 2 ^ j.toNat)
def oAnd := oI (fun _ _ => true) fun i j => .int (Builtin.bitAnd i j)
def oOr := oI (fun _ _ => true) fun i j => .int (Builtin.bitOr i j)
theorem m_sub (ha : Pm X cl W .F a fa) (hb : Pm X cl W .F b fb) : Pm X cl W .F (.BinOp a .Sub b pos) (f2 oSub fa fb) := m_bin op_sub is_rI0 ha hb
theorem m_mod (ha : Pm X cl W .F a fa) (hb : Pm X cl W .F b fb) : Pm X cl W .F (.BinOp a .Mod b pos) (f2 oMod fa fb) := m_bin op_mod (is_rI fun _ _ h => of_decide_eq_true h) ha hb
theorem m_div (ha : Pm X cl W .F a fa) (hb : Pm X cl W .F b fb) : Pm X cl W .F (.BinOp a .FloorDiv b pos) (f2 oDiv fa fb) :=
  m_bin op_fdivW (is_rI fun _ _ h => by rw [Bool.and_eq_true] at h; exact ⟨of_decide_eq_true h.1, of_decide_eq_true h.2⟩) ha hb
theorem m_pow (ha : Pm X cl W .F a fa) (hb : Pm X cl W .F b fb) : Pm X cl W .F (.BinOp a .Pow b pos) (f2 oPow fa fb) :=
  m_bin op_pow (is_rI fun _ _ h => by rw [Bool.and_eq_true, Bool.and_eq_true] at h; exact ⟨of_decide_eq_true h.1.1, of_decide_eq_true h.1.2, of_decide_eq_true h.2⟩) ha hb
theorem m_shl (ha : Pm X cl W .F a fa) (hb : Pm X cl W .F b fb) : Pm X cl W .F (.BinOp a .LShift b pos) (f2 oShl fa fb) :=
  m_bin op_shl (is_rI fun _ _ h => by rw [Bool.and_eq_true, Bool.and_eq_true] at h; exact ⟨of_decide_eq_true h.1.1, of_decide_eq_true h.1.2, of_decide_eq_true h.2⟩) ha hb
theorem m_shr (ha : Pm X cl W .F a fa) (hb : Pm X cl W .F b fb) : Pm X cl W .F (.BinOp a .RShift b pos) (f2 oShr fa fb) := m_bin op_shr (is_rI fun _ _ h => of_decide_eq_true h) ha hb
theorem m_and (ha : Pm X cl W .F a fa) (hb : Pm X cl W .F b fb) : Pm X cl W .F (.BinOp a .BitAnd b pos) (f2 oAnd fa fb) := m_bin op_and is_rI0 ha hb
theorem m_or (ha : Pm X cl W .F a fa) (hb : Pm X cl W .F b fb) : Pm X cl W .F (.BinOp a .BitOr b pos) (f2 oOr fa fb) := m_bin op_or is_rI0 ha hb
def oLt := oI (fun _ _ => true) fun i j => .bool (decide (i < j))
def oLe := oI (fun _ _ => true) fun i j => .bool (decide (i ≤ j))
def oGt := oI (fun _ _ => true) fun i j => .bool (decide (j < i))
def oGe := oI (fun _ _ => true) fun i j => .bool (decide (j ≤ i))

/-! ### lists, tuples, texts: + and * -/
theorem rp_lst {K : PySem.W.Frag} {G : Hp} {v : V} {ds : List PyData} (h : Rp K G v (.list ds)) : ∃ a xs, v = .ref a ∧ G a = some (.lst xs) ∧ RpA K G xs ds := by
  cases h with
  | lst h r => exact ⟨_, _, rfl, h, r⟩
theorem rp_tup {K : PySem.W.Frag} {G : Hp} {v : V} {ds : List PyData} (h : Rp K G v (.tuple ds)) : ∃ a xs, v = .ref a ∧ G a = some (.tup xs) ∧ RpA K G xs ds := by
  cases h with
  | tup h r => exact ⟨_, _, rfl, h, r⟩
theorem rp_int {K : PySem.W.Frag} {G : Hp} {v : V} {i : Int} (h : Rp K G v (.int i)) : v = .int i := by cases h; rfl
theorem rp_str {K : PySem.W.Frag} {G : Hp} {v : V} {x : Str} (h : Rp K G v (.str x)) : v = .str x := by cases h; rfl
theorem rp_bl {K : PySem.W.Frag} {G : Hp} {v : V} {b : Bool} (h : Rp K G v (.bool b)) : v = .bl b := by cases h; rfl
theorem rp_non {K : PySem.W.Frag} {G : Hp} {v : V} (h : Rp K G v .none) : v = .non := by cases h; rfl
theorem res_f_of_o {K : PySem.W.Frag} {F : Fm} {G H : Hp} {σ : L2.St} {δ : Dv} {v : V} {d : PyData} (e : ER K F G H σ δ) (h : Res K F G H σ δ .O v d) : ∃ G2, Ex G G2 ∧ ER K F G2 H σ δ ∧ Rp K G2 v d := by
  obtain ⟨q, o, rfl, g1, h1, hd, h0, nm⟩ := h
  have e2 : Ex G (upd G q o) := Ex.new g1
  exact ⟨_, e2, e.frz h1 g1 h0 nm, (hd.mono e2).rp upd_same⟩
/-- a rule that gives a new object gives data that stays -/
theorem Is2.f {K : PySem.W.Frag} {op : PyData → PyData → Option PyData} {r : R2} (h : Is2 K .O op r) : Is2 K .F op r := fun F G H σ δ x y dx dy d Q e rx ry ho k =>
  h F G H σ δ x y dx dy d Q e rx ry ho fun v H2 G2 e2 r2 rv => by
    obtain ⟨G3, e3, r3, r4⟩ := res_f_of_o r2 rv
    exact k v H2 G3 (e2.trans e3) r3 r4
/-- a new list is one's own -/
theorem own_new {K : PySem.W.Frag} {F : Fm} {G H : Hp} {σ : L2.St} {δ : Dv} {p : Addr} {o : HO} {d : PyData} (e : ER K F G H σ δ) (hp : H p = none) (hd : hoD K G o d) : ER K F G (upd H p o) σ δ ∧ Res K F G (upd H p o) σ δ .O (.ref p) d := by
  exact ⟨e.own' hp, p, o, rfl, fresh_back e.ext hp, upd_same, hd, e.h0 hp, IsMut.not_new e hp⟩
theorem new_tup {K : PySem.W.Frag} {F : Fm} {G H : Hp} {σ : L2.St} {δ : Dv} {p : Addr} {xs : List V} {ds : List PyData} (e : ER K F G H σ δ) (hp : H p = none) (r : RpA K G xs ds) : Ex G (upd G p (.tup xs)) ∧ ER K F (upd G p (.tup xs)) (upd H p (.tup xs)) σ δ ∧ Rp K (upd G p (.tup xs)) (.ref p) (.tuple ds) := by
  have gp : G p = none := fresh_back e.ext hp
  exact ⟨Ex.new gp, e.new hp, .tup upd_same (r.mono (Ex.new gp))⟩
def oCatL : PyData → PyData → Option PyData
  | .list xs, .list ys => if xs.length + ys.length ≤ sizeLine then some (.list (xs ++ ys)) else none
  | _, _ => none
theorem is_catL {K : PySem.W.Frag} : Is2 K .O oCatL rCat := by
  intro F G H σ δ x y dx dy d Q e rx ry ho k
  cases rx <;> cases ry <;> simp only [oCatL] at ho <;> try (cases ho; done)
  rename_i a xs ds hx ra b ys es hy rb
  split at ho
  · rename_i hz
    cases ho
    refine ⟨a, b, xs, ys, rfl, rfl, e.ext _ _ hx, e.ext _ _ hy, by rw [ra.length, rb.length]; exact hz, fun p hp => ?_⟩
    have w := own_new (o := .lst (xs ++ ys)) (d := .list (ds ++ es)) e hp (.inl ⟨_, _, rfl, ra.append rb, rfl⟩)
    exact k _ _ G (Ex.refl G) w.1 w.2
  · cases ho
def oCatT : PyData → PyData → Option PyData
  | .tuple xs, .tuple ys => if xs.length + ys.length ≤ sizeLine then some (.tuple (xs ++ ys)) else none
  | _, _ => none
theorem is_catT {K : PySem.W.Frag} : Is2 K .F oCatT (rCatA K) := by
  intro F G H σ δ x y dx dy d Q e rx ry ho k
  cases rx <;> cases ry <;> simp only [oCatT] at ho <;> try (cases ho; done)
  rename_i a xs ds hx ra b ys es hy rb
  split at ho
  · rename_i hz
    cases ho
    refine ⟨a, b, xs, ys, rfl, rfl, SqT.of (e.ext _ _ hx), SqT.of (e.ext _ _ hy), by rw [ra.length, rb.length]; exact hz, fun h0 => ?_, fun _ h0 => ?_, fun _ _ p hp => ?_⟩
    · subst h0
      cases ra
      exact k _ _ G (Ex.refl G) e (.tup hy rb)
    · subst h0
      cases rb
      rw [List.append_nil] at k
      exact k _ _ G (Ex.refl G) e (.tup hx ra)
    · obtain ⟨w1, w2, w3⟩ := new_tup e hp (ra.append rb)
      exact k _ _ _ w1 w2 w3
  · cases ho
def oCatS : PyData → PyData → Option PyData
  | .str x, .str y => if x.length + y.length ≤ sizeLine then some (.str (x ++ y)) else none
  | _, _ => none
theorem is_catS {K : PySem.W.Frag} : Is2 K .F oCatS (fun x y H Q => ∃ i j, x = .str i ∧ y = .str j ∧ i.length + j.length ≤ sizeLine ∧ Q (.str (i ++ j)) H) := by
  intro F G H σ δ x y dx dy d Q e rx ry ho k
  cases rx <;> cases ry <;> simp only [oCatS] at ho <;> try (cases ho; done)
  split at ho
  · rename_i hz
    cases ho
    exact ⟨_, _, rfl, rfl, hz, k _ H G (Ex.refl G) e (.str _)⟩
  · cases ho
def oAddI := oI (fun _ _ => true) fun i j => .int (i + j)
/-- + of whatever -/
def oAdd : PyData → PyData → Option PyData
  | .int i, .int j => some (.int (i + j))
  | .list xs, .list ys => oCatL (.list xs) (.list ys)
  | .tuple xs, .tuple ys => oCatT (.tuple xs) (.tuple ys)
  | .str x, .str y => oCatS (.str x) (.str y)
  | _, _ => none
theorem Is2.imp {K : PySem.W.Frag} {kd : Kd} {p p' : PyData → PyData → Option PyData} {r : R2} (h : Is2 K kd p r) (hp : ∀ x y d, p' x y = some d → p x y = some d) : Is2 K kd p' r := fun F G H σ δ x y dx dy d Q e rx ry ho k => h F G H σ δ x y dx dy d Q e rx ry (hp _ _ _ ho) k
theorem m_add (ha : Pm X cl W .F a fa) (hb : Pm X cl W .F b fb) : Pm X cl W .F (.BinOp a .Add b pos) (f2 oAdd fa fb) :=
  m_bin (((op_add.or op_cat).or op_catA).or op_add_str) (Is2.imp (((is_rI0.or is_catL.f).or is_catT).or is_catS) fun x y d h => by
    cases x <;> cases y <;> simp only [oAdd] at h <;> first | (cases h; done) | (simp [oI, oCatL, oCatT, oCatS, Option.or] at h ⊢; try (first | exact h | (obtain ⟨h1, h2⟩ := h; simp [h1, h2])))) ha hb
/-- a new list of two -/
theorem m_addO (ha : Pm X cl W .F a fa) (hb : Pm X cl W .F b fb) : Pm X cl W .O (.BinOp a .Add b pos) (f2 oCatL fa fb) := m_bin op_cat is_catL ha hb
def oRep : PyData → PyData → Option PyData
  | .list xs, .int k => if (-(2 ^ 63) ≤ k ∧ k < 2 ^ 63) ∧ xs.length * k.toNat ≤ sizeLine then some (.list (List.replicate k.toNat xs).flatten) else none
  | _, _ => none
theorem is_rep {K : PySem.W.Frag} : Is2 K .O oRep rRep := by
  intro F G H σ δ x y dx dy d Q e rx ry ho k
  cases rx <;> cases ry <;> simp only [oRep] at ho <;> try (cases ho; done)
  rename_i a xs ds hx ra i
  split at ho
  · rename_i hz
    cases ho
    refine ⟨a, i, xs, rfl, rfl, e.ext _ _ hx, hz.1.1, hz.1.2, by rw [ra.length]; exact hz.2, fun p hp => ?_⟩
    have w := own_new (o := .lst (List.replicate i.toNat xs).flatten) (d := .list (List.replicate i.toNat ds).flatten) e hp (.inl ⟨_, _, rfl, ra.rep _, rfl⟩)
    exact k _ _ G (Ex.refl G) w.1 w.2
  · cases ho
theorem m_repO (ha : Pm X cl W .F a fa) (hb : Pm X cl W .F b fb) : Pm X cl W .O (.BinOp a .Mult b pos) (f2 oRep fa fb) := m_bin op_rep is_rep ha hb
def oMul : PyData → PyData → Option PyData
  | .int i, .int j => oMulI (.int i) (.int j)
  | .list xs, .int k => oRep (.list xs) (.int k)
  | _, _ => none
theorem m_mul (ha : Pm X cl W .F a fa) (hb : Pm X cl W .F b fb) : Pm X cl W .F (.BinOp a .Mult b pos) (f2 oMul fa fb) :=
  m_bin (op_mulW.or op_rep) (Is2.imp ((is_rI (C := fun i j => decide (i.natAbs.log2 + j.natAbs.log2 < 1000000)) fun _ _ h => of_decide_eq_true h).or is_rep.f) fun x y d h => by
    cases x <;> cases y <;> simp only [oMul] at h <;> first | (cases h; done) | (simp [oI, oMulI, oRep, Option.or] at h ⊢; first | exact h | (obtain ⟨h1, h2⟩ := h; simp [h1, h2]))) ha hb
end
end Pw

set_option maxRecDepth 100000
set_option maxHeartbeats 3900000
/-! ## 3. comparisons, tests, displays -/
namespace Pw
open PySem L2
open Evl (Ex ex_rd fresh_back)

def onI {α : Type} (d : PyData) (k : Int → Rs α) : Rs α := match d with
  | .int i => k i
  | _ => .bad
def onB {α : Type} (d : PyData) (k : Bool → Rs α) : Rs α := match d with
  | .bool b => k b
  | _ => .bad
@[simp] theorem onI_int {α : Type} (i : Int) (k : Int → Rs α) : onI (.int i) k = k i := (rfl)
@[simp] theorem onB_bool {α : Type} (b : Bool) (k : Bool → Rs α) : onB (.bool b) k = k b := (rfl)
def isN : PyData → Bool
  | .none => true
  | _ => false
section
variable {K : PySem.W.Frag} {G H : Hp}
mutual
theorem dp_of (e : Ex G H) : ∀ {v : V} {d : PyData}, Rp K G v d → d.plain = true → Dp K H v d
  | _, _, .non, _ => .non
  | _, _, .bl b, _ => .bl b
  | _, _, .int i, _ => .int i
  | _, _, .str x, _ => .str x
  | _, _, .lst h r, c => .lst (SqL.of (e _ _ h)) (dpa_of e r (by simpa [PyData.plain] using c))
  | _, _, .tup h r, c => .tup (SqT.of (e _ _ h)) (dpa_of e r (by simpa [PyData.plain] using c))
  | _, _, .scr _, c => by simp [PyData.plain] at c
  | _, _, .exc _, c => by simp [excD, PyData.plain] at c
  | _, _, .dct _ _ _, c => by simp [PyData.plain] at c
theorem dpa_of (e : Ex G H) : ∀ {vs : List V} {ds : List PyData}, RpA K G vs ds → PyData.plainAll ds = true → DpAll K H vs ds
  | _, _, .nil, _ => .nil
  | _, _, .cons h r, c => by
    rw [PyData.plainAll, Bool.and_eq_true] at c
    exact .cons (dp_of e h c.1) (dpa_of e r c.2)
end
end

section
variable {X : Cx} {cl : Str → Value} {W : WX} {a b c : Expr} {fa fb fc : Dv → Rs (PyData × Dv)} {pos : Pos}
/-- data without dicts, not too deep -/
def okD (d : PyData) : Bool := d.plain && decide (d.depth ≤ 64)
theorem okD_of {d : PyData} (h : okD d = true) : d.plain = true ∧ d.depth ≤ 64 := by
  rw [okD, Bool.and_eq_true] at h
  exact ⟨h.1, of_decide_eq_true h.2⟩
def rEqP (K : PySem.W.Frag) (n : Bool) : R2 := fun x y H Q => ∃ d e, Dp K H x d ∧ Dp K H y e ∧ okD d = true ∧ okD e = true ∧ Q (.bl (n ^^ PyData.eqv d e)) H
theorem op_eqP (hu : X.A.units + 64 < cLine) : OpR X (compareOp .Eq) (rEqP X.K false) := by
  intro pins s σ H x y v u Q I rx ry ⟨d, e, hd, he, sd, se, q⟩
  (obtain ⟨as, r1⟩ := Dp.reads I d x v hd rx)
  (obtain ⟨bs, r2⟩ := Dp.reads I e y u he ry)
  have z := okD_of sd
  rw [Bool.false_xor] at q
  exact SeqAt.eq_plain r1 r2 z.1 (okD_of se).1 (by have := z.2; omega) ⟨.bl _, H, I, rfl, q⟩
theorem op_neP (hu : X.A.units + 64 < cLine) : OpR X (compareOp .NotEq) (rEqP X.K true) := by
  intro pins s σ H x y v u Q I rx ry ⟨d, e, hd, he, sd, se, q⟩
  (obtain ⟨as, r1⟩ := Dp.reads I d x v hd rx)
  (obtain ⟨bs, r2⟩ := Dp.reads I e y u he ry)
  have z := okD_of sd
  rw [Bool.true_xor] at q
  exact SeqAt.ne_plain r1 r2 z.1 (okD_of se).1 (by have := z.2; omega) ⟨.bl _, H, I, rfl, q⟩
def oEq (x y : PyData) : Option PyData := if (okD x && okD y) = true then some (.bool (PyData.eqv x y)) else none
def oNe (x y : PyData) : Option PyData := if (okD x && okD y) = true then some (.bool (!PyData.eqv x y)) else none
theorem is_eqP {K : PySem.W.Frag} : Is2 K .F oEq (rEqP K false) := by
  intro F G H σ δ x y dx dy d Q e rx ry ho k
  unfold oEq at ho
  split at ho
  · rename_i hs
    cases ho
    rw [Bool.and_eq_true] at hs
    exact ⟨dx, dy, dp_of e.ext rx (okD_of hs.1).1, dp_of e.ext ry (okD_of hs.2).1, hs.1, hs.2, by rw [Bool.false_xor]; exact k _ H G (Ex.refl G) e (.bl _)⟩
  · cases ho
theorem is_neP {K : PySem.W.Frag} : Is2 K .F oNe (rEqP K true) := by
  intro F G H σ δ x y dx dy d Q e rx ry ho k
  unfold oNe at ho
  split at ho
  · rename_i hs
    cases ho
    rw [Bool.and_eq_true] at hs
    exact ⟨dx, dy, dp_of e.ext rx (okD_of hs.1).1, dp_of e.ext ry (okD_of hs.2).1, hs.1, hs.2, by rw [Bool.true_xor]; exact k _ H G (Ex.refl G) e (.bl _)⟩
  · cases ho
theorem m_eq {n : Nat} (hr : Room n X.A) (ha : Pm X cl W .F a fa) (hb : Pm X cl W .F b fb) : Pm X cl W .F (.Compare a [.Eq] [b] pos) (f2 oEq fa fb) := m_cmp (op_eqP hr.units) is_eqP ha hb (nomark _)
theorem m_ne {n : Nat} (hr : Room n X.A) (ha : Pm X cl W .F a fa) (hb : Pm X cl W .F b fb) : Pm X cl W .F (.Compare a [.NotEq] [b] pos) (f2 oNe fa fb) := m_cmp (op_neP hr.units) is_neP ha hb (nomark _)
/-! x in c, x not in c of a list or a tuple -/
def rInP (K : PySem.W.Frag) (n : Bool) : R2 := fun x y H Q => ∃ d ds, Dp K H x d ∧ (Dp K H y (.list ds) ∨ Dp K H y (.tuple ds)) ∧ okD d = true ∧ PyData.plainAll ds = true ∧ Q (.bl (n ^^ (ds.any fun z => PyData.eqv z d))) H
theorem op_inP (hu : X.A.units + 65 < cLine) : OpR X (compareOp .In) (rInP X.K false) := by
  intro pins s σ H x y v u Q I rx ry ⟨d, ds, hd, he, sd, se, q⟩
  (obtain ⟨as, r1⟩ := Dp.reads I d x v hd rx)
  have z := okD_of sd
  rw [Bool.false_xor] at q
  rcases he with he | he
  · obtain ⟨bs, r2⟩ := Dp.reads I _ y u he ry
    exact SeqAt.in_list_data r2 r1 se z.1 (by have := z.2; omega) ⟨.bl _, H, I, rfl, q⟩
  · obtain ⟨bs, r2⟩ := Dp.reads I _ y u he ry
    exact SeqAt.in_tuple_data r2 r1 se z.1 (by have := z.2; omega) ⟨.bl _, H, I, rfl, q⟩
theorem op_ninP (hu : X.A.units + 65 < cLine) : OpR X (compareOp .NotIn) (rInP X.K true) := by
  intro pins s σ H x y v u Q I rx ry ⟨d, ds, hd, he, sd, se, q⟩
  (obtain ⟨as, r1⟩ := Dp.reads I d x v hd rx)
  have z := okD_of sd
  rw [Bool.true_xor] at q
  rcases he with he | he
  · obtain ⟨bs, r2⟩ := Dp.reads I _ y u he ry
    exact SeqAt.notIn_list_data r2 r1 se z.1 (by have := z.2; omega) ⟨.bl _, H, I, rfl, q⟩
  · obtain ⟨bs, r2⟩ := Dp.reads I _ y u he ry
    exact SeqAt.notIn_tuple_data r2 r1 se z.1 (by have := z.2; omega) ⟨.bl _, H, I, rfl, q⟩
theorem units65 {n : Nat} {A : Around} (r : Room n A) : A.units + 65 < cLine := by have := r.un; omega
/-- a list of whole numbers read off data -/
def ints? : List PyData → Option (List Int)
  | [] => some []
  | .int i :: r => (ints? r).map (i :: ·)
  | _ :: _ => none
theorem ints_of {K : PySem.W.Frag} {G : Hp} : ∀ {ds : List PyData} {ns : List Int} {vs : List V}, ints? ds = some ns → RpA K G vs ds → vs = ns.map V.int ∧ ds = ns.map PyData.int
  | [], ns, vs, h, r => by cases h; cases r; exact ⟨rfl, rfl⟩
  | d :: ds, ns, vs, h, r => by
    cases r with
    | cons r1 r2 =>
      cases d with
      | int i =>
        cases h1 : ints? ds with
        | none => simp [ints?, h1] at h
        | some ms =>
          simp only [ints?, h1, Option.map_some, Option.some.injEq] at h
          subst h
          obtain ⟨e1, e2⟩ := ints_of h1 r2
          rw [rp_int r1, e1, e2]
          exact ⟨rfl, rfl⟩
      | _ => simp [ints?] at h
/-- < of whole numbers, of tuples of whole numbers -/
def oLtA : PyData → PyData → Option PyData
  | .int i, .int j => some (.bool (decide (i < j)))
  | .tuple xs, .tuple ys => (ints? xs).bind fun ns => (ints? ys).map fun ms => .bool (HT.lexLt ns ms)
  | _, _ => none
def oLtT : PyData → PyData → Option PyData
  | .tuple xs, .tuple ys => (ints? xs).bind fun ns => (ints? ys).map fun ms => .bool (HT.lexLt ns ms)
  | _, _ => none
theorem is_ltT {K : PySem.W.Frag} : Is2 K .F oLtT (rLtT K) := by
  intro F G H σ δ x y dx dy d Q e rx ry ho k
  cases rx <;> cases ry <;> simp only [oLtT] at ho <;> try (cases ho; done)
  rename_i a xs ds hx ra b ys es hy rb
  cases h1 : ints? ds with
  | none => simp [h1] at ho
  | some ns =>
    cases h2 : ints? es with
    | none => simp [h1, h2] at ho
    | some ms =>
      simp only [h1, h2, Option.bind_some, Option.map_some, Option.some.injEq] at ho
      subst ho
      obtain ⟨e1, _⟩ := ints_of h1 ra
      obtain ⟨e2, _⟩ := ints_of h2 rb
      subst e1 e2
      exact ⟨a, b, ns, ms, rfl, rfl, SqT.of (e.ext _ _ hx), SqT.of (e.ext _ _ hy), k _ H G (Ex.refl G) e (.bl _)⟩
theorem m_lt {n : Nat} (hr : Room n X.A) (ha : Pm X cl W .F a fa) (hb : Pm X cl W .F b fb) : Pm X cl W .F (.Compare a [.Lt] [b] pos) (f2 oLtA fa fb) :=
  m_cmp (op_lt.or (op_ltT hr.units0)) (Is2.imp (is_rB0.or is_ltT) fun x y d h => by
    cases x <;> cases y <;> simp only [oLtA] at h <;> first | (cases h; done) | (simp [oI, oLtT, Option.or] at h ⊢; first | exact h | (obtain ⟨h1, h2⟩ := h; simp [h1, h2]))) ha hb (nomark _)
theorem m_le (ha : Pm X cl W .F a fa) (hb : Pm X cl W .F b fb) : Pm X cl W .F (.Compare a [.LtE] [b] pos) (f2 oLe fa fb) := m_cmp op_le is_rB0 ha hb (nomark _)
theorem m_gt (ha : Pm X cl W .F a fa) (hb : Pm X cl W .F b fb) : Pm X cl W .F (.Compare a [.Gt] [b] pos) (f2 oGt fa fb) := m_cmp op_gt is_rB0 ha hb (nomark _)
theorem m_ge (ha : Pm X cl W .F a fa) (hb : Pm X cl W .F b fb) : Pm X cl W .F (.Compare a [.GtE] [b] pos) (f2 oGe fa fb) := m_cmp op_ge is_rB0 ha hb (nomark _)
/-! is None, is True -/
def oIsN (x y : PyData) : Option PyData := match y with
  | .none => some (.bool (isN x))
  | .bool b => match x with
    | .bool a => some (.bool (decide (a = b)))
    | _ => none
  | _ => none
def oNotN (x y : PyData) : Option PyData := match y with
  | .none => some (.bool (!isN x))
  | .bool b => match x with
    | .bool a => some (.bool (!decide (a = b)))
    | _ => none
  | _ => none
theorem rp_isN {K : PySem.W.Frag} {G : Hp} {v : V} {d : PyData} (r : Rp K G v d) : decide (v = .non) = isN d := by
  cases r <;> rfl
theorem m_is (ha : Pm X cl W .F a fa) (hb : Pm X cl W .F b fb) : Pm X cl W .F (.Compare a [.Is] [b] pos) (f2 oIsN fa fb) :=
  m_cmp (op_isN.or op_is_bl) (by
    intro F G H σ δ x y dx dy d Q e rx ry ho k
    cases ry <;> simp only [oIsN] at ho <;> try (cases ho; done)
    · cases ho
      refine .inl ⟨rfl, ?_⟩
      have h := k (.bl _) H G (Ex.refl G) e (.bl _)
      rw [← rp_isN rx] at h
      exact h
    · cases rx <;> (try simp only [excD] at ho) <;> try (cases ho; done)
      cases ho
      exact .inr ⟨_, _, rfl, rfl, k _ H G (Ex.refl G) e (.bl _)⟩) ha hb (nomark _)
theorem m_isnot (ha : Pm X cl W .F a fa) (hb : Pm X cl W .F b fb) : Pm X cl W .F (.Compare a [.IsNot] [b] pos) (f2 oNotN fa fb) :=
  m_cmp (op_notN.or op_isnot_bl) (by
    intro F G H σ δ x y dx dy d Q e rx ry ho k
    cases ry <;> simp only [oNotN] at ho <;> try (cases ho; done)
    · cases ho
      refine .inl ⟨rfl, ?_⟩
      have h := k (.bl _) H G (Ex.refl G) e (.bl _)
      rw [← rp_isN rx] at h
      exact h
    · cases rx <;> (try simp only [excD] at ho) <;> try (cases ho; done)
      cases ho
      exact .inr ⟨_, _, rfl, rfl, k _ H G (Ex.refl G) e (.bl _)⟩) ha hb (nomark _)

/-! ### chains of whole numbers -/
abbrev Ln := (Int → Int → Bool) × (Dv → Rs (PyData × Dv))
def chN : List Ln → Int → Dv → Rs (Bool × Dv)
  | [], _, δ => .ok (true, δ)
  | l :: r, i, δ => (l.2 δ).bind fun y => onI y.1 fun j => if l.1 i j = true then chN r j y.2 else .ok (false, y.2)
def fCh (fa : Dv → Rs (PyData × Dv)) (ls : List Ln) : Dv → Rs (Bool × Dv) := fun δ => (fa δ).bind fun x => onI x.1 fun i => chN ls i x.2
def fV (t : Dv → Rs (Bool × Dv)) : Dv → Rs (PyData × Dv) := fun δ => (t δ).bind fun b => .ok (.bool b.1, b.2)
/-- the rest of a chain, as a test -/
def PCh (X : Cx) (cl : Str → Value) (W : WX) (ops : List CmpOp) (es : List Expr) (ls : List Ln) : Prop :=
  ∀ (pos : Pos) (pins : List (Addr × Obj)) (s : Shared) (σ : L2.St) (H : Hp) (i : Int) (u : Value) (F : Fm) (G : Hp) (δ : Dv) (Q : Bool → Hp → Prop), Inv X pins σ H s → RelV (.int i) u → ER X.K F G H σ δ → PoT X.K cl W F σ G (chN ls i δ) Q →
    wpAny (model X.prog X.w) X.A (testChain pos u ops (evalEach es X.env)) (TP X pins σ Q) X.xe s ∧ wpAny (model X.prog X.w) X.A (compareChain pos u ops (evalEach es X.env)) (EP X pins σ fun v H' => ∃ k, v = .bl k ∧ Q k H') X.xe s
def IsC (X : Cx) (op : CmpOp) (p : Int → Int → Bool) : Prop := OpR X (compareOp op) (rI0 fun i j => .bl (p i j))
theorem PoT.int {K : PySem.W.Frag} {F : Fm} {σ : L2.St} {G : Hp} {r : Rs (PyData × Dv)} {k : Int → Dv → Rs (Bool × Dv)} {Q : Bool → Hp → Prop} {Q1 : VK}
    (h : PoT K cl W F σ G (r.bind fun x => onI x.1 fun i => k i x.2) Q)
    (hk : ∀ (i : Int) (δ1 : Dv) (H1 G1 : Hp), Ex G G1 → ER K F G1 H1 σ δ1 → PoT K cl W F σ G1 (k i δ1) Q → Q1 (.int i) H1) : Po K cl W F σ G .F r Q1 :=
  Po.bindT h fun d δ1 v H1 G1 e1 r1 rv p => by
    cases rv with
    | int i => exact hk i δ1 H1 G1 e1 r1 p
    | _ => exact p.elim
theorem pch_one {op : CmpOp} {p : Int → Int → Bool} (ho : IsC X op p) (hb : Pm X cl W .F b fb) : PCh X cl W [op] [b] [(p, fb)] := by
  intro pos pins s σ H i u F G δ Q I ru e h
  have q : tM X.K cl W .F fb σ H fun y H2 => ∃ j, y = .int j ∧ Q (p i j) H2 := ⟨F, G, δ, e, PoT.int (k := fun j δ' => if p i j = true then chN [] j δ' else .ok (false, δ')) h fun j δ1 H1 G1 e1 r1 p1 => ⟨j, rfl, by
    by_cases hc : p i j = true
    · rw [if_pos hc] at p1
      rw [hc]
      exact p1 H1 G1 (Ex.refl G1) r1
    · rw [if_neg hc] at p1
      rw [Bool.not_eq_true] at hc
      rw [hc]
      exact p1 H1 G1 (Ex.refl G1) r1⟩⟩
  refine ⟨PyProof.Rows.test_last (thn (hb.run pins s σ H _ I q) fun w s2 ⟨y, H2, I2, ry, j, ey, q2⟩ => ?_), PyProof.Rows.chain_last (thn (hb.run pins s σ H _ I q) fun w s2 ⟨y, H2, I2, ry, j, ey, q2⟩ => ?_)⟩
  · subst ey
    refine thn (ho pins s2 σ H2 (.int i) (.int j) u w (fun v H' => v = .bl (p i j) ∧ Q (p i j) H') I2 ru ry ⟨i, j, rfl, rfl, rfl, q2⟩) fun z s3 ⟨v, H3, I3, rz, ev, q3⟩ => ?_
    subst ev
    cases rz
    (exact wpAny_truthy_bool ⟨H3, I3, q3⟩)
  · subst ey
    exact ho pins s2 σ H2 (.int i) (.int j) u w _ I2 ru ry ⟨i, j, rfl, rfl, _, rfl, q2⟩
theorem pch_cons {op op' : CmpOp} {ops : List CmpOp} {es : List Expr} {ls : List Ln} {p : Int → Int → Bool} (ho : IsC X op p) (hb : Pm X cl W .F b fb) (hr : PCh X cl W (op' :: ops) (c :: es) ls) : PCh X cl W (op :: op' :: ops) (b :: c :: es) ((p, fb) :: ls) := by
  intro pos pins s σ H i u F G δ Q I ru e h
  have q : tM X.K cl W .F fb σ H fun y H2 => ∃ j, y = .int j ∧ ((p i j = true ∧ ∃ G2 δ2, ER X.K F G2 H2 σ δ2 ∧ PoT X.K cl W F σ G2 (chN ls j δ2) Q) ∨ (p i j = false ∧ Q false H2)) := ⟨F, G, δ, e, PoT.int (k := fun j δ' => if p i j = true then chN ls j δ' else .ok (false, δ')) h fun j δ1 H1 G1 e1 r1 p1 => ⟨j, rfl, by
    by_cases hc : p i j = true
    · rw [if_pos hc] at p1
      exact .inl ⟨hc, G1, δ1, r1, p1⟩
    · rw [if_neg hc] at p1
      rw [Bool.not_eq_true] at hc
      exact .inr ⟨hc, p1 H1 G1 (Ex.refl G1) r1⟩⟩⟩
  refine ⟨PyProof.Rows.test_link (thn (hb.run pins s σ H _ I q) fun w s2 ⟨y, H2, I2, ry, j, ey, q2⟩ => ?_), PyProof.Rows.chain_link (thn (hb.run pins s σ H _ I q) fun w s2 ⟨y, H2, I2, ry, j, ey, q2⟩ => ?_)⟩
  · subst ey
    refine thn (ho pins s2 σ H2 (.int i) (.int j) u w (fun v H' => v = .bl (p i j) ∧ H' = H2) I2 ru ry ⟨i, j, rfl, rfl, rfl, rfl⟩) fun z s3 ⟨v, H3, I3, rz, ev, eh⟩ => ?_
    subst ev eh
    cases rz
    refine wpAny_truthy_bool ?_
    rcases q2 with ⟨hc, G2, δ2, r2, p2⟩ | ⟨hc, q3⟩
    · rw [hc]
      exact (hr pos pins s3 σ _ j w F G2 δ2 Q I3 ry r2 p2).1
    · rw [hc]
      exact ⟨_, I3, q3⟩
  · subst ey
    refine thn (ho pins s2 σ H2 (.int i) (.int j) u w (fun v H' => v = .bl (p i j) ∧ H' = H2) I2 ru ry ⟨i, j, rfl, rfl, rfl, rfl⟩) fun z s3 ⟨v, H3, I3, rz, ev, eh⟩ => ?_
    subst ev eh
    cases rz
    refine wpAny_truthy_bool ?_
    rcases q2 with ⟨hc, G2, δ2, r2, p2⟩ | ⟨hc, q3⟩
    · rw [hc]
      exact (hr pos pins s3 σ _ j w F G2 δ2 Q I3 ry r2 p2).2
    · rw [hc]
      exact ⟨.bl false, _, I3, rfl, _, rfl, q3⟩
theorem t_chain {op op' : CmpOp} {ops : List CmpOp} {es : List Expr} {ls : List Ln} (ha : Pm X cl W .F a fa) (hr : PCh X cl W (op :: op' :: ops) (b :: c :: es) ls) (hm : lastMarks (op :: op' :: ops) (b :: c :: es) = false) :
    Pt X cl W (.Compare a (op :: op' :: ops) (b :: c :: es) pos) (fCh fa ls) := by
  refine ⟨fun pins s σ H Q I ⟨F, G, δ, e, h⟩ => ?_⟩
  refine PyProof.Rows.isTrue_chain (thn (ha.run pins s σ H (fun x H1 => ∃ i, x = .int i ∧ ∃ G1 δ1, ER X.K F G1 H1 σ δ1 ∧ PoT X.K cl W F σ G1 (chN ls i δ1) Q) I ⟨F, G, δ, e, PoT.int (k := fun i δ' => chN ls i δ') h fun i δ1 H1 G1 e1 r1 p1 => ⟨i, rfl, G1, δ1, r1, p1⟩⟩) fun u s1 ⟨x, H1, I1, rx, i, ex, G1, δ1, r1, p1⟩ => ?_) hm
  subst ex
  exact (hr pos pins s1 σ H1 i u F G1 δ1 Q I1 rx r1 p1).1
theorem m_chain {op op' : CmpOp} {ops : List CmpOp} {es : List Expr} {ls : List Ln} (ha : Pm X cl W .F a fa) (hr : PCh X cl W (op :: op' :: ops) (b :: c :: es) ls) (hm : lastMarks (op :: op' :: ops) (b :: c :: es) = false) :
    Pm X cl W .F (.Compare a (op :: op' :: ops) (b :: c :: es) pos) (fV (fCh fa ls)) := by
  refine ⟨fun pins s σ H Q I ⟨F, G, δ, e, h⟩ => ?_⟩
  have h' : PoT X.K cl W F σ G (fCh fa ls δ) fun k H' => Q (.bl k) H' := PoT.bind h fun k δ1 H1 G1 e1 r1 p1 => p1 _ H1 G1 (Ex.refl G1) r1 (.bl _)
  refine PyProof.Rows.Compare_chain (thn (ha.run pins s σ H (fun x H1 => ∃ i, x = .int i ∧ ∃ G1 δ1, ER X.K F G1 H1 σ δ1 ∧ PoT X.K cl W F σ G1 (chN ls i δ1) fun k H' => Q (.bl k) H') I ⟨F, G, δ, e, PoT.int (k := fun i δ' => chN ls i δ') h' fun i δ1 H1 G1 e1 r1 p1 => ⟨i, rfl, G1, δ1, r1, p1⟩⟩) fun u s1 ⟨x, H1, I1, rx, i, ex, G1, δ1, r1, p1⟩ => ?_) hm
  subst ex
  exact thn (hr pos pins s1 σ H1 i u F G1 δ1 _ I1 rx r1 p1).2 fun z s2 ⟨v, H2, I2, rv, k, ev, q⟩ => ⟨v, H2, I2, rv, by rw [ev]; exact q⟩

/-! ### tests -/
def fT (f : Dv → Rs (PyData × Dv)) : Dv → Rs (Bool × Dv) := fun δ => (f δ).bind fun x => onB x.1 fun b => .ok (b, x.2)
theorem t_val (h : Pm X cl W .F a fa) (he : ∀ whole, isTrue a X.env whole = (do let v ← whole; standAt a.pos; holding [v] (truthy v))) : Pt X cl W a (fT fa) :=
  pt_weak (pt_val h he) fun σ H Q ⟨F, G, δ, e, p⟩ => ⟨F, G, δ, e, Po.bindT p fun d δ1 v H1 G1 e1 r1 rv p1 => by
    cases rv with
    | bl b => exact ⟨b, rfl, p1 H1 G1 (Ex.refl G1) r1⟩
    | _ => exact p1.elim⟩
theorem t_cmp {op : CmpOp} {p : PyData → PyData → Option PyData} {r : R2} (ho : OpR X (compareOp op) r) (hi : Is2 X.K .F p r) (ha : Pm X cl W .F a fa) (hb : Pm X cl W .F b fb) (hm : behindInMarks op b = false) : Pt X cl W (.Compare a [op] [b] pos) (fT (f2 p fa fb)) :=
  pt_weak (pt_cmpR ho ha hb hm) fun σ H Q ⟨F, G, δ, e, p⟩ => go2 hi ⟨F, G, δ, e, Po.bindT p fun d δ1 v H1 G1 e1 r1 rv p1 => by
    cases rv with
    | bl b => exact ⟨b, rfl, p1 H1 G1 (Ex.refl G1) r1⟩
    | _ => exact p1.elim⟩
variable {ta tb : Dv → Rs (Bool × Dv)} {rest : List Expr}
def fNotT (t : Dv → Rs (Bool × Dv)) : Dv → Rs (Bool × Dv) := fun δ => (t δ).bind fun b => .ok (!b.1, b.2)
theorem t_not (h : Pt X cl W a ta) : Pt X cl W (.UnaryOp .Not a pos) (fNotT ta) := pt_weak (pt_not h) fun σ H Q ⟨F, G, δ, e, p⟩ => ⟨F, G, δ, e, PoT.bindT p fun b δ1 H1 G1 e1 r1 p1 => p1 H1 G1 (Ex.refl G1) r1⟩
def fAndT (t u : Dv → Rs (Bool × Dv)) : Dv → Rs (Bool × Dv) := fun δ => (t δ).bind fun b => if b.1 = true then u b.2 else .ok (false, b.2)
def fOrT (t u : Dv → Rs (Bool × Dv)) : Dv → Rs (Bool × Dv) := fun δ => (t δ).bind fun b => if b.1 = true then .ok (true, b.2) else u b.2
theorem w_and1 (h : Pt X cl W a ta) : Pww X cl W (.BoolOp .And [a] pos) ta := pw_and1 h
theorem w_or1 (h : Pt X cl W a ta) : Pww X cl W (.BoolOp .Or [a] pos) ta := pw_or1 h
theorem w_and (h : Pt X cl W a ta) (hb : Pww X cl W (.BoolOp .And (b :: rest) pos) tb) : Pww X cl W (.BoolOp .And (a :: b :: rest) pos) (fAndT ta tb) :=
  pw_weak (pw_and h hb) fun σ H Q ⟨F, G, δ, e, p⟩ => ⟨F, G, δ, e, PoT.bindT p fun k δ1 H1 G1 e1 r1 p1 => by
    cases k with
    | true => exact ⟨F, G1, δ1, r1, p1⟩
    | false => exact p1 H1 G1 (Ex.refl G1) r1⟩
theorem w_or (h : Pt X cl W a ta) (hb : Pww X cl W (.BoolOp .Or (b :: rest) pos) tb) : Pww X cl W (.BoolOp .Or (a :: b :: rest) pos) (fOrT ta tb) :=
  pw_weak (pw_or h hb) fun σ H Q ⟨F, G, δ, e, p⟩ => ⟨F, G, δ, e, PoT.bindT p fun k δ1 H1 G1 e1 r1 p1 => by
    cases k with
    | true => exact p1 H1 G1 (Ex.refl G1) r1
    | false => exact ⟨F, G1, δ1, r1, p1⟩⟩
theorem t_pw (h : Pww X cl W a ta) : Pt X cl W a ta := h.pt
/-! and, or, not as values (of truths) -/
def fAndV (f g : Dv → Rs (PyData × Dv)) : Dv → Rs (PyData × Dv) := fun δ => (f δ).bind fun x => onB x.1 fun b => if b = true then g x.2 else .ok (.bool false, x.2)
def fOrV (f g : Dv → Rs (PyData × Dv)) : Dv → Rs (PyData × Dv) := fun δ => (f δ).bind fun x => onB x.1 fun b => if b = true then .ok (.bool true, x.2) else g x.2
def fNotV (f : Dv → Rs (PyData × Dv)) : Dv → Rs (PyData × Dv) := fun δ => (f δ).bind fun x => onB x.1 fun b => .ok (.bool (!b), x.2)
theorem m_one {op : BoolOp} (h : Pm X cl W .F a fa) : Pm X cl W .F (.BoolOp op [a] pos) fa := pe_one h
theorem m_and2 (ha : Pm X cl W .F a fa) (hb : Pm X cl W .F (.BoolOp .And (b :: rest) pos) fb) : Pm X cl W .F (.BoolOp .And (a :: b :: rest) pos) (fAndV fa fb) :=
  pe_weak (pe_and ha hb) fun σ H Q ⟨F, G, δ, e, p⟩ => ⟨F, G, δ, e, Po.bind p fun d δ1 v H1 G1 e1 r1 rv p1 => by
    cases rv with
    | bl k =>
      refine ⟨k, rfl, ?_⟩
      cases k with
      | true => exact ⟨F, G1, δ1, r1, p1⟩
      | false => exact p1 _ H1 G1 (Ex.refl G1) r1 (.bl _)
    | _ => exact p1.elim⟩
theorem m_or2 (ha : Pm X cl W .F a fa) (hb : Pm X cl W .F (.BoolOp .Or (b :: rest) pos) fb) : Pm X cl W .F (.BoolOp .Or (a :: b :: rest) pos) (fOrV fa fb) :=
  pe_weak (pe_or ha hb) fun σ H Q ⟨F, G, δ, e, p⟩ => ⟨F, G, δ, e, Po.bind p fun d δ1 v H1 G1 e1 r1 rv p1 => by
    cases rv with
    | bl k =>
      refine ⟨k, rfl, ?_⟩
      cases k with
      | true => exact p1 _ H1 G1 (Ex.refl G1) r1 (.bl _)
      | false => exact ⟨F, G1, δ1, r1, p1⟩
    | _ => exact p1.elim⟩
theorem m_not (ha : Pm X cl W .F a fa) : Pm X cl W .F (.UnaryOp .Not a pos) (fNotV fa) :=
  pe_weak (pe_not ha) fun σ H Q ⟨F, G, δ, e, p⟩ => ⟨F, G, δ, e, Po.bind p fun d δ1 v H1 G1 e1 r1 rv p1 => by
    cases rv with
    | bl k => exact ⟨k, rfl, p1 _ H1 G1 (Ex.refl G1) r1 (.bl _)⟩
    | _ => exact p1.elim⟩
def fIf (t : Dv → Rs (Bool × Dv)) (f g : Dv → Rs (PyData × Dv)) : Dv → Rs (PyData × Dv) := fun δ => (t δ).bind fun b => if b.1 = true then f b.2 else g b.2
theorem m_if {kd : Kd} (ht : Pt X cl W c ta) (ha : Pm X cl W kd a fa) (hb : Pm X cl W kd b fb) : Pm X cl W kd (.IfExp c a b pos) (fIf ta fa fb) :=
  pe_weak (pe_ifExp ht ha hb) fun σ H Q ⟨F, G, δ, e, p⟩ => ⟨F, G, δ, e, PoT.bind p fun k δ1 H1 G1 e1 r1 p1 => by
    cases k with
    | true => exact ⟨F, G1, δ1, r1, p1⟩
    | false => exact ⟨F, G1, δ1, r1, p1⟩⟩
/-! ### one value -/
def f1 (op : PyData → Option PyData) (fa : Dv → Rs (PyData × Dv)) : Dv → Rs (PyData × Dv) := fun δ => (fa δ).bind fun x => lift (op x.1) x.2
def oNeg : PyData → Option PyData
  | .int i => some (.int (-i))
  | _ => none
theorem m_neg (ha : Pm X cl W .F a fa) : Pm X cl W .F (.UnaryOp .USub a pos) (f1 oNeg fa) :=
  pe_weak (pe_un un_neg ha) fun σ H Q ⟨F, G, δ, e, p⟩ => ⟨F, G, δ, e, Po.bind p fun d δ1 v H1 G1 e1 r1 rv p1 => by
    cases rv with
    | int i => exact ⟨i, rfl, p1 _ H1 G1 (Ex.refl G1) r1 (.int _)⟩
    | _ => exact p1.elim⟩
/-! ### argument lists, displays -/
def PoA (K : PySem.W.Frag) (cl : Str → Value) (W : WX) (F : Fm) (σ : L2.St) (G : Hp) (r : Rs (List PyData × Dv)) (Q : List V → Hp → Prop) : Prop :=
  match r with
  | .ok x => ∀ (vs : List V) (H2 G2 : Hp), Ex G G2 → ER K F G2 H2 σ x.2 → RpA K G2 vs x.1 → Q vs H2
  | .err c => Wis K cl W F G c
  | .bad => False
def tA (K : PySem.W.Frag) (cl : Str → Value) (W : WX) (f : Dv → Rs (List PyData × Dv)) : TA := fun σ H Q =>
  ∃ (F : Fm) (G : Hp) (δ : Dv), ER K F G H σ δ ∧ PoA K cl W F σ G (f δ) Q
abbrev Pa (X : Cx) (cl : Str → Value) (W : WX) (es : List Expr) (f : Dv → Rs (List PyData × Dv)) : Prop := PA X es (tA X.K cl W f)
theorem PoA.mono {K : PySem.W.Frag} {F : Fm} {σ : L2.St} {G G1 : Hp} {r : Rs (List PyData × Dv)} {Q : List V → Hp → Prop} (h : PoA K cl W F σ G r Q) (e : Ex G G1) : PoA K cl W F σ G1 r Q := by
  cases r with
  | ok x => exact fun v H2 G2 e1 r1 r2 => h v H2 G2 (e.trans e1) r1 r2
  | err c => exact Wis.mono h e
  | bad => exact h
theorem Po.bindA {K : PySem.W.Frag} {F : Fm} {σ : L2.St} {G : Hp} {kd1 : Kd} {r : Rs (PyData × Dv)} {k : PyData × Dv → Rs (List PyData × Dv)} {Q : List V → Hp → Prop} {Q1 : VK} (h : PoA K cl W F σ G (r.bind k) Q)
    (hk : ∀ (d : PyData) (δ1 : Dv) (v : V) (H1 G1 : Hp), Ex G G1 → ER K F G1 H1 σ δ1 → Res K F G1 H1 σ δ1 kd1 v d → PoA K cl W F σ G1 (k (d, δ1)) Q → Q1 v H1) : Po K cl W F σ G kd1 r Q1 := by
  cases r with
  | ok x => exact fun v H1 G1 e1 r1 r2 => hk x.1 x.2 v H1 G1 e1 r1 r2 (PoA.mono h e1)
  | err c => exact h
  | bad => exact h
theorem PoA.bindA {K : PySem.W.Frag} {F : Fm} {σ : L2.St} {G : Hp} {r : Rs (List PyData × Dv)} {k : List PyData × Dv → Rs (List PyData × Dv)} {Q Q1 : List V → Hp → Prop} (h : PoA K cl W F σ G (r.bind k) Q)
    (hk : ∀ (ds : List PyData) (δ1 : Dv) (vs : List V) (H1 G1 : Hp), Ex G G1 → ER K F G1 H1 σ δ1 → RpA K G1 vs ds → PoA K cl W F σ G1 (k (ds, δ1)) Q → Q1 vs H1) : PoA K cl W F σ G r Q1 := by
  cases r with
  | ok x => exact fun v H1 G1 e1 r1 r2 => hk x.1 x.2 v H1 G1 e1 r1 r2 (PoA.mono h e1)
  | err c => exact h
  | bad => exact h
theorem PoA.bind {K : PySem.W.Frag} {F : Fm} {σ : L2.St} {G : Hp} {kd : Kd} {r : Rs (List PyData × Dv)} {k : List PyData × Dv → Rs (PyData × Dv)} {Q : VK} {Q1 : List V → Hp → Prop} (h : Po K cl W F σ G kd (r.bind k) Q)
    (hk : ∀ (ds : List PyData) (δ1 : Dv) (vs : List V) (H1 G1 : Hp), Ex G G1 → ER K F G1 H1 σ δ1 → RpA K G1 vs ds → Po K cl W F σ G1 kd (k (ds, δ1)) Q → Q1 vs H1) : PoA K cl W F σ G r Q1 := by
  cases r with
  | ok x => exact fun v H1 G1 e1 r1 r2 => hk x.1 x.2 v H1 G1 e1 r1 r2 (Po.mono h e1)
  | err c => exact h
  | bad => exact h
def aNil : Dv → Rs (List PyData × Dv) := fun δ => .ok ([], δ)
def aCons (f : Dv → Rs (PyData × Dv)) (g : Dv → Rs (List PyData × Dv)) : Dv → Rs (List PyData × Dv) := fun δ => (f δ).bind fun x => (g x.2).bind fun r => .ok (x.1 :: r.1, r.2)
variable {es : List Expr} {ga : Dv → Rs (List PyData × Dv)}
theorem a_nil : Pa X cl W [] aNil := pa_weak pa_nil fun σ H Q ⟨F, G, δ, e, p⟩ => p [] H G (Ex.refl G) e .nil
theorem a_cons (ha : Pm X cl W .F a fa) (hr : Pa X cl W es ga) (hs : starEach (a :: es) X.env = (false, eval a X.env) :: starEach es X.env := by rfl) : Pa X cl W (a :: es) (aCons fa ga) :=
  pa_weak (pa_cons ha hr hs) fun σ H Q ⟨F, G, δ, e, p⟩ => ⟨F, G, δ, e, Po.bindA p fun d δ1 v H1 G1 e1 r1 rv p1 => ⟨F, G1, δ1, r1, PoA.bindA p1 fun ds δ2 vs H2 G2 e2 r2 rvs p2 => p2 _ H2 G2 (Ex.refl G2) r2 (.cons (Rp.mono e2 rv) rvs)⟩⟩
def fTup (g : Dv → Rs (List PyData × Dv)) : Dv → Rs (PyData × Dv) := fun δ => (g δ).bind fun r => if r.1.length ≤ sizeLine then .ok (.tuple r.1, r.2) else .bad
def fLst (g : Dv → Rs (List PyData × Dv)) : Dv → Rs (PyData × Dv) := fun δ => (g δ).bind fun r => if r.1.length ≤ sizeLine then .ok (.list r.1, r.2) else .bad
theorem m_tup {x1 : Nat} (h : Pa X cl W es ga) : Pm X cl W .F (.Tuple es x1 pos) (fTup ga) :=
  pe_weak (pe_tup h) fun σ H Q ⟨F, G, δ, e, p⟩ => ⟨F, G, δ, e, PoA.bind p fun ds δ1 vs H1 G1 e1 r1 rv p1 => by
    by_cases hz : ds.length ≤ sizeLine
    · rw [if_pos hz] at p1
      refine ⟨by rw [rv.length]; exact hz, fun q hq => ?_⟩
      obtain ⟨w1, w2, w3⟩ := new_tup r1 hq rv
      exact p1 _ _ _ w1 w2 w3
    · rw [if_neg hz] at p1
      exact p1.elim⟩
theorem m_lstO (h : Pa X cl W es ga) : Pm X cl W .O (.List es pos) (fLst ga) :=
  pe_weak (pe_lst h) fun σ H Q ⟨F, G, δ, e, p⟩ => ⟨F, G, δ, e, PoA.bind p fun ds δ1 vs H1 G1 e1 r1 rv p1 => by
    by_cases hz : ds.length ≤ sizeLine
    · rw [if_pos hz] at p1
      refine ⟨by rw [rv.length]; exact hz, fun q hq => ?_⟩
      have w := own_new (o := .lst vs) (d := .list ds) r1 hq (.inl ⟨_, _, rfl, rv, rfl⟩)
      exact p1 _ _ G1 (Ex.refl G1) w.1 w.2
    · rw [if_neg hz] at p1
      exact p1.elim⟩
end
end Pw

set_option maxRecDepth 100000
set_option maxHeartbeats 3900000
/-! ## 4. statements, targets, loops -/
namespace Pw
open PySem L2
open Evl (Ex ex_rd fresh_back)

inductive Fl where
  | nx
  | bk
  | ct
  | rt (d : PyData)
def PoF (K : PySem.W.Frag) (F : Fm) (G H : Hp) (σ : L2.St) (δ : Dv) (kr : Kd) (D : Ends) : Fl → Prop
  | .nx => D.nx σ H
  | .bk => D.bk σ H
  | .ct => D.ct σ H
  | .rt d => ∀ v, Res K F G H σ δ kr v d → D.rt v H
def PoS (K : PySem.W.Frag) (cl : Str → Value) (W : WX) (F : Fm) (kr : Kd) (G : Hp) (r : Rs (Fl × Dv)) (D : Ends) : Prop :=
  match r with
  | .ok x => ∀ (σ' : L2.St) (H' G' : Hp), Ex G G' → ER K F G' H' σ' x.2 → PoF K F G' H' σ' x.2 kr D x.1
  | .err c => Wis K cl W F G c
  | .bad => False
def tS (K : PySem.W.Frag) (cl : Str → Value) (W : WX) (kr : Kd) (g : Dv → Rs (Fl × Dv)) : TS := fun D σ H =>
  ∃ (F : Fm) (G : Hp) (δ : Dv), ER K F G H σ δ ∧ PoS K cl W F kr G (g δ) D
abbrev Ps (X : Cx) (cl : Str → Value) (W : WX) (kr : Kd) (st : Stmt) (g : Dv → Rs (Fl × Dv)) : Prop := PS X st (tS X.K cl W kr g)
abbrev Pss (X : Cx) (cl : Str → Value) (W : WX) (kr : Kd) (st : List Stmt) (g : Dv → Rs (Fl × Dv)) : Prop := PSs X st (tS X.K cl W kr g)

section
variable {K : PySem.W.Frag} {cl : Str → Value} {W : WX} {F : Fm} {σ : L2.St} {G G1 H : Hp} {kd kr : Kd} {δ : Dv}
theorem PoS.mono {r : Rs (Fl × Dv)} {D : Ends} (h : PoS K cl W F kr G r D) (e : Ex G G1) : PoS K cl W F kr G1 r D := by
  cases r with
  | ok x => exact fun σ' H' G' e1 r1 => h σ' H' G' (e.trans e1) r1
  | err c => exact Wis.mono h e
  | bad => exact h
theorem Po.bindS {r : Rs (PyData × Dv)} {k : PyData × Dv → Rs (Fl × Dv)} {D : Ends} {Q1 : VK} (h : PoS K cl W F kr G (r.bind k) D)
    (hk : ∀ (d : PyData) (δ1 : Dv) (v : V) (H1 G1 : Hp), Ex G G1 → ER K F G1 H1 σ δ1 → Res K F G1 H1 σ δ1 kd v d → PoS K cl W F kr G1 (k (d, δ1)) D → Q1 v H1) : Po K cl W F σ G kd r Q1 := by
  cases r with
  | ok x => exact fun v H1 G1 e1 r1 r2 => hk x.1 x.2 v H1 G1 e1 r1 r2 (PoS.mono h e1)
  | err c => exact h
  | bad => exact h
theorem PoT.bindS {r : Rs (Bool × Dv)} {k : Bool × Dv → Rs (Fl × Dv)} {D : Ends} {Q1 : Bool → Hp → Prop} (h : PoS K cl W F kr G (r.bind k) D)
    (hk : ∀ (b : Bool) (δ1 : Dv) (H1 G1 : Hp), Ex G G1 → ER K F G1 H1 σ δ1 → PoS K cl W F kr G1 (k (b, δ1)) D → Q1 b H1) : PoT K cl W F σ G r Q1 := by
  cases r with
  | ok x => exact fun H1 G1 e1 r1 => hk x.1 x.2 H1 G1 e1 r1 (PoS.mono h e1)
  | err c => exact h
  | bad => exact h
theorem PoA.bindS {r : Rs (List PyData × Dv)} {k : List PyData × Dv → Rs (Fl × Dv)} {D : Ends} {Q1 : List V → Hp → Prop} (h : PoS K cl W F kr G (r.bind k) D)
    (hk : ∀ (d : List PyData) (δ1 : Dv) (v : List V) (H1 G1 : Hp), Ex G G1 → ER K F G1 H1 σ δ1 → RpA K G1 v d → PoS K cl W F kr G1 (k (d, δ1)) D → Q1 v H1) : PoA K cl W F σ G r Q1 := by
  cases r with
  | ok x => exact fun v H1 G1 e1 r1 r2 => hk x.1 x.2 v H1 G1 e1 r1 r2 (PoS.mono h e1)
  | err c => exact h
  | bad => exact h
end
/-- go on where the statement ran through -/
def Fl.on (x : Fl × Dv) (k : Dv → Rs (Fl × Dv)) : Rs (Fl × Dv) := match x.1 with
  | .nx => k x.2
  | _ => .ok x
@[simp] theorem Fl.on_nx (δ : Dv) (k : Dv → Rs (Fl × Dv)) : Fl.on (.nx, δ) k = k δ := (rfl)
@[simp] theorem Fl.on_rt (d : PyData) (δ : Dv) (k : Dv → Rs (Fl × Dv)) : Fl.on (.rt d, δ) k = .ok (.rt d, δ) := (rfl)
@[simp] theorem Fl.on_bk (δ : Dv) (k : Dv → Rs (Fl × Dv)) : Fl.on (.bk, δ) k = .ok (.bk, δ) := (rfl)
@[simp] theorem Fl.on_ct (δ : Dv) (k : Dv → Rs (Fl × Dv)) : Fl.on (.ct, δ) k = .ok (.ct, δ) := (rfl)
def gSeq (g h : Dv → Rs (Fl × Dv)) : Dv → Rs (Fl × Dv) := fun δ => (g δ).bind fun x => Fl.on x h
def gNx : Dv → Rs (Fl × Dv) := fun δ => .ok (.nx, δ)

section
variable {X : Cx} {cl : Str → Value} {W : WX} {kr : Kd} {a b c : Expr} {fa fb fc : Dv → Rs (PyData × Dv)} {ta : Dv → Rs (Bool × Dv)} {pos : Pos} {st : Stmt} {sts : List Stmt} {g h : Dv → Rs (Fl × Dv)}
theorem s_nil : Pss X cl W kr [] gNx := pss_weak pss_nil fun D σ H ⟨F, G, δ, e, p⟩ => p σ H G (Ex.refl G) e
theorem s_one (h1 : Ps X cl W kr st g) : Pss X cl W kr [st] g := pss_one h1
theorem s_cons (h1 : Ps X cl W kr st g) (h2 : Pss X cl W kr sts h) : Pss X cl W kr (st :: sts) (gSeq g h) :=
  pss_weak (pss_cons h1 h2) fun D σ H ⟨F, G, δ, e, p⟩ => ⟨F, G, δ, e, by
    unfold gSeq at p
    cases hg : g δ with
    | ok x =>
      rw [hg] at p
      obtain ⟨fl, δ1⟩ := x
      cases fl with
      | nx => exact fun σ' H' G' e1 r1 => ⟨F, G', δ1, r1, PoS.mono p e1⟩
      | bk => exact p
      | ct => exact p
      | rt d => exact p
    | err c => rw [hg] at p; exact p
    | bad => rw [hg] at p; exact p⟩
theorem s_pass : Ps X cl W kr (.Pass pos) gNx := ps_weak ps_pass fun D σ H ⟨F, G, δ, e, p⟩ => p σ H G (Ex.refl G) e
/-! assignments -/
def gSet (i : Nat) (f : Dv → Rs (PyData × Dv)) : Dv → Rs (Fl × Dv) := fun δ => (f δ).bind fun x => if Free x.2 i then .ok (.nx, x.2.set i (some (.v x.1))) else .bad
def gSetO (i : Nat) (f : Dv → Rs (PyData × Dv)) : Dv → Rs (Fl × Dv) := fun δ => (f δ).bind fun x => if Free x.2 i then .ok (.nx, x.2.set i (some (.m x.1))) else .bad
theorem go_set {K : PySem.W.Frag} {i : Nat} {D : Ends} {σ : L2.St} {H : Hp} (hh : tS K cl W kr (gSet i fa) D σ H) : tAsg (tM K cl W .F fa) (gName i) D σ H := by
  obtain ⟨F, G, δ, e, p⟩ := hh
  refine ⟨F, G, δ, e, Po.bindS p fun d δ1 v H1 G1 e1 r1 rv p1 => ?_⟩
  by_cases hf : Free δ1 i
  · rw [if_pos hf] at p1
    exact p1 _ H1 G1 (Ex.refl G1) (r1.setv hf rv)
  · rw [if_neg hf] at p1
    exact p1.elim
theorem go_setO {K : PySem.W.Frag} {i : Nat} {D : Ends} {σ : L2.St} {H : Hp} (hh : tS K cl W kr (gSetO i fa) D σ H) : tAsg (tM K cl W .O fa) (gName i) D σ H := by
  obtain ⟨F, G, δ, e, p⟩ := hh
  refine ⟨F, G, δ, e, Po.bindS p fun d δ1 v H1 G1 e1 r1 rv p1 => ?_⟩
  by_cases hf : Free δ1 i
  · rw [if_pos hf] at p1
    obtain ⟨q, o, rfl, g1, h1, hd, h0, nm⟩ := rv
    refine p1 _ H1 G1 (Ex.refl G1) (r1.set hf ⟨q, o, rfl, g1, h1, hd⟩ (fun _ z => by cases z) fun d' p' e1 e2 => ?_)
    cases e2
    exact ⟨h0, fun j s hj e3 m e4 => nm ⟨j, s, e3, m, e4⟩⟩
  · rw [if_neg hf] at p1
    exact p1.elim
theorem s_set (i : Nat) {x : Str} {pos' : Pos} (hN : X.N.Nodup) (hi : X.N[i]? = some x) (hx : Loc X.env.scope x) (he : Pm X cl W .F a fa) (hs : swapsWith a (some (.Name x pos')) pos.line X.env = pure false) (hf : X.fn x = true ∨ X.env.scope.names.lookup x = some .local) :
    Ps X cl W kr (.Assign [.Name x pos'] a pos) (gSet i fa) := ps_weak (ps_set hN hi hx he hs hf) fun _ _ _ h => go_set h
theorem s_setO (i : Nat) {x : Str} {pos' : Pos} (hN : X.N.Nodup) (hi : X.N[i]? = some x) (hx : Loc X.env.scope x) (he : Pm X cl W .O a fa) (hs : swapsWith a (some (.Name x pos')) pos.line X.env = pure false) (hf : X.fn x = true ∨ X.env.scope.names.lookup x = some .local) :
    Ps X cl W kr (.Assign [.Name x pos'] a pos) (gSetO i fa) := ps_weak (ps_set hN hi hx he hs hf) fun _ _ _ h => go_setO h
def gDrop (f : Dv → Rs (PyData × Dv)) : Dv → Rs (Fl × Dv) := fun δ => (f δ).bind fun x => .ok (.nx, x.2)
theorem s_expr (he : Pm X cl W .F a fa) (hs : swapsWith a none pos.line X.env = pure false) : Ps X cl W kr (.Expr a pos) (gDrop fa) :=
  ps_weak (ps_expr he hs) fun D σ H ⟨F, G, δ, e, p⟩ => ⟨F, G, δ, e, Po.bindS p fun d δ1 v H1 G1 e1 r1 rv p1 => p1 σ H1 G1 (Ex.refl G1) r1⟩
def gRet (f : Dv → Rs (PyData × Dv)) : Dv → Rs (Fl × Dv) := fun δ => (f δ).bind fun x => .ok (.rt x.1, x.2)
theorem s_ret (he : Pm X cl W kr a fa) : Ps X cl W kr (.Return (some a) pos) (gRet fa) :=
  ps_weak (ps_ret he) fun D σ H ⟨F, G, δ, e, p⟩ => ⟨F, G, δ, e, by
    unfold gRet at p
    cases hf : fa δ with
    | ok x =>
      rw [hf] at p
      exact fun v H2 G2 e1 r1 rv => p σ H2 G2 e1 r1 v rv
    | err c => rw [hf] at p; exact p
    | bad => rw [hf] at p; exact p⟩
def gIf (t : Dv → Rs (Bool × Dv)) (g h : Dv → Rs (Fl × Dv)) : Dv → Rs (Fl × Dv) := fun δ => (t δ).bind fun b => if b.1 = true then g b.2 else h b.2
theorem s_if {as bs : List Stmt} (hc : Pt X cl W c ta) (ha : Pss X cl W kr as g) (hb : Pss X cl W kr bs h) : Ps X cl W kr (.If c as bs pos) (gIf ta g h) :=
  ps_weak (ps_if hc ha hb) fun D σ H ⟨F, G, δ, e, p⟩ => ⟨F, G, δ, e, PoT.bindS p fun k δ1 H1 G1 e1 r1 p1 => by
    cases k with
    | true => exact ⟨F, G1, δ1, r1, p1⟩
    | false => exact ⟨F, G1, δ1, r1, p1⟩⟩

/-! ### targets -/
/-- what a target does with data; js: the slots that it sets -/
def tG (K : PySem.W.Frag) (js : List Nat) (b : PyData → Dv → Option Dv) : TG := fun v σ H Q =>
  ∃ (F : Fm) (G : Hp) (δ : Dv) (d : PyData), ER K F G H σ δ ∧ Rp K G v d ∧ ∃ δ', b d δ = some δ' ∧ ∀ σ', σ'.length = σ.length → (∀ k, k ∉ js → σ'[k]? = σ[k]?) → ER K F G H σ' δ' → Q σ' H
abbrev Pg (X : Cx) (tg : Expr) (js : List Nat) (b : PyData → Dv → Option Dv) : Prop := PG X tg (tG X.K js b)
theorem pg_weak {tg : Expr} {t t' : TG} (h : PG X tg t) (w : ∀ v σ H Q, t' v σ H Q → t v σ H Q) : PG X tg t' := ⟨fun pins s σ H v u Q I r q => h.run pins s σ H v u Q I r (w _ _ _ _ q)⟩
def bName (i : Nat) : PyData → Dv → Option Dv := fun d δ => if Free δ i then some (δ.set i (some (.v d))) else none
theorem g_name (i : Nat) {x : Str} (h : PG X (.Name x pos) (gName i)) : Pg X (.Name x pos) [i] (bName i) := pg_weak h fun v σ H Q ⟨F, G, δ, d, e, r, δ', hb, k⟩ => by
  unfold bName at hb
  by_cases hf : Free δ i
  · rw [if_pos hf] at hb
    cases hb
    exact k _ (List.length_set ..) (fun j hj => List.getElem?_set_ne (fun z => hj (by rw [z]; exact List.mem_singleton.mpr rfl))) (e.setv hf r)
  · rw [if_neg hf] at hb
    cases hb
def bAll : List (PyData → Dv → Option Dv) → List PyData → Dv → Option Dv
  | [], [], δ => some δ
  | b :: bs, d :: ds, δ => (b d δ).bind fun δ1 => bAll bs ds δ1
  | _, _, _ => none
def bTup (bs : List (PyData → Dv → Option Dv)) : PyData → Dv → Option Dv := fun d δ => match d with
  | .tuple ds => bAll bs ds δ
  | _ => none
/-- several targets in a row -/
def tGs (K : PySem.W.Frag) (js : List Nat) (bs : List (PyData → Dv → Option Dv)) : TGs := fun vs σ H Q =>
  ∃ (F : Fm) (G : Hp) (δ : Dv) (ds : List PyData), ER K F G H σ δ ∧ RpA K G vs ds ∧ ∃ δ', bAll bs ds δ = some δ' ∧ ∀ σ', σ'.length = σ.length → (∀ k, k ∉ js → σ'[k]? = σ[k]?) → ER K F G H σ' δ' → Q σ' H
abbrev Pgs (X : Cx) (tg : List Expr) (js : List Nat) (bs : List (PyData → Dv → Option Dv)) : Prop := PGs X tg (tGs X.K js bs)
theorem pgs_weak {tg : List Expr} {t t' : TGs} (h : PGs X tg t) (w : ∀ v σ H Q, t' v σ H Q → t v σ H Q) : PGs X tg t' := ⟨fun pins s σ H v u Q I r q => h.run pins s σ H v u Q I r (w _ _ _ _ q)⟩
theorem gs_nil : Pgs X [] [] [] := pgs_weak pgs_nil fun vs σ H Q ⟨F, G, δ, ds, e, r, δ', hb, k⟩ => by
  cases r with
  | nil => cases hb; exact ⟨rfl, k σ rfl (fun _ _ => rfl) e⟩
  | cons _ _ => cases hb
theorem gs_cons {tg : Expr} {tgs : List Expr} {j1 js : List Nat} {b1 : PyData → Dv → Option Dv} {bs : List (PyData → Dv → Option Dv)} (h1 : Pg X tg j1 b1) (h2 : Pgs X tgs js bs)
    (hs : (assignEach (tg :: tgs) X.env).map (·.2) = assign tg X.env :: (assignEach tgs X.env).map (·.2) := by rfl) : Pgs X (tg :: tgs) (j1 ++ js) (b1 :: bs) := pgs_weak (pgs_cons h1 h2 hs) fun vs σ H Q ⟨F, G, δ, ds, e, r, δ', hb, k⟩ => by
  cases r with
  | nil => cases hb
  | @cons v vs d ds r1 r2 =>
    cases hb1 : b1 d δ with
    | some δ1 =>
      simp only [bAll, hb1, Option.bind_some] at hb
      exact ⟨v, vs, rfl, F, G, δ, d, e, r1, δ1, hb1, fun σ1 l1 k1 e1 => ⟨F, G, δ1, ds, e1, r2, δ', hb, fun σ2 l2 k2 e2 => k σ2 (l2.trans l1) (fun j hj => (k2 j fun z => hj (List.mem_append_right _ z)).trans (k1 j fun z => hj (List.mem_append_left _ z))) e2⟩⟩
    | none => simp only [bAll, hb1, Option.bind_none] at hb; cases hb
theorem bAll_len : ∀ {bs : List (PyData → Dv → Option Dv)} {ds : List PyData} {δ δ' : Dv}, bAll bs ds δ = some δ' → ds.length = bs.length
  | [], [], _, _, _ => rfl
  | b :: bs, d :: ds, δ, δ', h => by
    cases hb : b d δ with
    | some δ1 => simp only [bAll, hb, Option.bind_some] at h; exact congrArg (· + 1) (bAll_len h)
    | none => simp only [bAll, hb, Option.bind_none] at h; cases h
  | [], _ :: _, _, _, h => by cases h
  | _ :: _, [], _, _, h => by cases h
theorem g_tup {tgs : List Expr} {k : Nat} {js : List Nat} {bs : List (PyData → Dv → Option Dv)} {n : Nat} (hc : X.calm = true) (h : Pgs X tgs js bs) (hn : (assignEach tgs X.env).length = n) (hb0 : bs.length = n)
    (hst : (assignEach tgs X.env).findIdx? (·.1) = none) : Pg X (.Tuple tgs k pos) js (bTup bs) :=
  pg_weak (pg_tup hc h hn hst) fun v σ H Q ⟨F, G, δ, d, e, r, δ', hb, kk⟩ => by
    cases r with
    | @tup a xs ds hp ra =>
      exact ⟨a, xs, rfl, SqT.of (e.ext _ _ hp), by rw [ra.length, bAll_len hb]; exact hb0, F, G, δ, ds, e, ra, δ', hb, kk⟩
    | _ => cases hb
def gAsg (f : Dv → Rs (PyData × Dv)) (b : PyData → Dv → Option Dv) : Dv → Rs (Fl × Dv) := fun δ => (f δ).bind fun x => match b x.1 x.2 with
  | some δ' => .ok (.nx, δ')
  | none => .bad
theorem s_asg {tg : Expr} {js : List Nat} {bb : PyData → Dv → Option Dv} (he : Pm X cl W .F a fa) (hg : Pg X tg js bb) (hs : swapsWithSole [tg] a pos.line X.env = pure false) (hw : swappedStores [tg] a X.env = pure none)
    (h1 : (assignEach [tg] X.env).map (·.2) = [assign tg X.env]) : Ps X cl W kr (.Assign [tg] a pos) (gAsg fa bb) :=
  ps_weak (ps_asg he hg hs hw h1) fun D σ H ⟨F, G, δ, e, p⟩ => ⟨F, G, δ, e, Po.bindS p fun d δ1 v H1 G1 e1 r1 rv p1 => by
    cases hb : bb d δ1 with
    | some δ2 => simp only [hb] at p1; exact ⟨F, G1, δ1, d, r1, rv, δ2, hb, fun σ' _ _ e2 => p1 σ' H1 G1 (Ex.refl G1) e2⟩
    | none => simp only [hb] at p1; exact p1.elim⟩
end
end Pw

set_option maxRecDepth 100000
set_option maxHeartbeats 3900000
/-! ## 5. what is walked; for, while -/
namespace Pw
open PySem L2
open Evl (Ex ex_rd fresh_back)

/-- the iterator yields these data, one a turn, in any heap that goes on from G -/
structure Wk (K : PySem.W.Frag) (G : Hp) (J : It) (ds : List PyData) : Prop where
  go : ∀ (i : Nat) (G' H' : Hp), i < ds.length → Ex G G' → Ex G' H' → J.go i H'
  yld : ∀ (i : Nat) (F : Fm) (σ : L2.St) (δ : Dv) (G' H' H2 : Hp) (x : V), i < ds.length → Ex G G' → ER K F G' H' σ δ → J.yld i H' x H2 →
    ∃ (G2 : Hp) (d : PyData), Ex G' G2 ∧ ER K F G2 H2 σ δ ∧ ds[i]? = some d ∧ Rp K G2 x d ∧ ∀ a o, H' a = some o → H2 a = some o
  stop : ∀ (G' H' : Hp), Ex G G' → Ex G' H' → J.stop ds.length H'
def PoI (K : PySem.W.Frag) (cl : Str → Value) (W : WX) (F : Fm) (σ : L2.St) (G : Hp) (r : Rs (List PyData × Dv)) (R : It → Hp → Prop) : Prop :=
  match r with
  | .ok x => ∀ (J : It) (H2 G2 : Hp), Ex G G2 → ER K F G2 H2 σ x.2 → Wk K G2 J x.1 → R J H2
  | .err c => Wis K cl W F G c
  | .bad => False
def tI (K : PySem.W.Frag) (cl : Str → Value) (W : WX) (f : Dv → Rs (List PyData × Dv)) : TI := fun σ H R =>
  ∃ (F : Fm) (G : Hp) (δ : Dv), ER K F G H σ δ ∧ PoI K cl W F σ G (f δ) R
abbrev Pi' (X : Cx) (cl : Str → Value) (W : WX) (tg e : Expr) (f : Dv → Rs (List PyData × Dv)) : Prop := PI X tg e (tI X.K cl W f)
section
variable {K : PySem.W.Frag} {cl : Str → Value} {W : WX} {F : Fm} {σ : L2.St} {G G1 H : Hp} {kd kr : Kd} {δ : Dv}
theorem PoI.mono {r : Rs (List PyData × Dv)} {R : It → Hp → Prop} (h : PoI K cl W F σ G r R) (e : Ex G G1) : PoI K cl W F σ G1 r R := by
  cases r with
  | ok x => exact fun J H2 G2 e1 r1 => h J H2 G2 (e.trans e1) r1
  | err c => exact Wis.mono h e
  | bad => exact h
theorem Po.bindI {r : Rs (PyData × Dv)} {k : PyData × Dv → Rs (List PyData × Dv)} {R : It → Hp → Prop} {Q1 : VK} (h : PoI K cl W F σ G (r.bind k) R)
    (hk : ∀ (d : PyData) (δ1 : Dv) (v : V) (H1 G1 : Hp), Ex G G1 → ER K F G1 H1 σ δ1 → Res K F G1 H1 σ δ1 kd v d → PoI K cl W F σ G1 (k (d, δ1)) R → Q1 v H1) : Po K cl W F σ G kd r Q1 := by
  cases r with
  | ok x => exact fun v H1 G1 e1 r1 r2 => hk x.1 x.2 v H1 G1 e1 r1 r2 (PoI.mono h e1)
  | err c => exact h
  | bad => exact h
theorem PoA.bindI {r : Rs (List PyData × Dv)} {k : List PyData × Dv → Rs (List PyData × Dv)} {R : It → Hp → Prop} {Q1 : List V → Hp → Prop} (h : PoI K cl W F σ G (r.bind k) R)
    (hk : ∀ (d : List PyData) (δ1 : Dv) (v : List V) (H1 G1 : Hp), Ex G G1 → ER K F G1 H1 σ δ1 → RpA K G1 v d → PoI K cl W F σ G1 (k (d, δ1)) R → Q1 v H1) : PoA K cl W F σ G r Q1 := by
  cases r with
  | ok x => exact fun v H1 G1 e1 r1 r2 => hk x.1 x.2 v H1 G1 e1 r1 r2 (PoI.mono h e1)
  | err c => exact h
  | bad => exact h
theorem PoI.bindS {r : Rs (List PyData × Dv)} {k : List PyData × Dv → Rs (Fl × Dv)} {D : Ends} {R : It → Hp → Prop} (h : PoS K cl W F kr G (r.bind k) D)
    (hk : ∀ (ds : List PyData) (δ1 : Dv) (J : It) (H1 G1 : Hp), Ex G G1 → ER K F G1 H1 σ δ1 → Wk K G1 J ds → PoS K cl W F kr G1 (k (ds, δ1)) D → R J H1) : PoI K cl W F σ G r R := by
  cases r with
  | ok x => exact fun J H1 G1 e1 r1 r2 => hk x.1 x.2 J H1 G1 e1 r1 r2 (PoS.mono h e1)
  | err c => exact h
  | bad => exact h
theorem PoI.bind {r : Rs (List PyData × Dv)} {k : List PyData × Dv → Rs (PyData × Dv)} {Q : VK} {R : It → Hp → Prop} (h : Po K cl W F σ G kd (r.bind k) Q)
    (hk : ∀ (ds : List PyData) (δ1 : Dv) (J : It) (H1 G1 : Hp), Ex G G1 → ER K F G1 H1 σ δ1 → Wk K G1 J ds → Po K cl W F σ G1 kd (k (ds, δ1)) Q → R J H1) : PoI K cl W F σ G r R := by
  cases r with
  | ok x => exact fun J H1 G1 e1 r1 r2 => hk x.1 x.2 J H1 G1 e1 r1 r2 (Po.mono h e1)
  | err c => exact h
  | bad => exact h
theorem wk_list {a : Addr} {xs : List V} {ds : List PyData} (h : G a = some (.lst xs)) (r : RpA K G xs ds) : Wk K G (Itl K a) ds where
  go := fun i G' H' hi e1 e2 => by
    obtain ⟨x, hx⟩ : ∃ x, xs[i]? = some x := ⟨_, List.getElem?_eq_getElem (by rw [r.length]; exact hi)⟩
    exact ⟨xs, x, SqL.of (e2 _ _ (e1 _ _ h)), hx⟩
  yld := fun i F σ δ G' H' H2 x hi e1 er hy => by
    obtain ⟨rfl, hx⟩ := hy
    obtain ⟨d, h1, h2⟩ := r.get (hx xs (SqL.of (er.ext _ _ (e1 _ _ h))))
    exact ⟨G', d, Ex.refl G', er, h1, h2.mono e1, fun _ _ z => z⟩
  stop := fun G' H' e1 e2 => ⟨xs, SqL.of (e2 _ _ (e1 _ _ h)), by rw [r.length]; exact Nat.le_refl _⟩
theorem wk_tup {a : Addr} {xs : List V} {ds : List PyData} (h : G a = some (.tup xs)) (r : RpA K G xs ds) : Wk K G (Itt K a) ds where
  go := fun i G' H' hi e1 e2 => by
    obtain ⟨x, hx⟩ : ∃ x, xs[i]? = some x := ⟨_, List.getElem?_eq_getElem (by rw [r.length]; exact hi)⟩
    exact ⟨xs, x, SqT.of (e2 _ _ (e1 _ _ h)), hx⟩
  yld := fun i F σ δ G' H' H2 x hi e1 er hy => by
    obtain ⟨rfl, hx⟩ := hy
    obtain ⟨d, h1, h2⟩ := r.get (hx xs (SqT.of (er.ext _ _ (e1 _ _ h))))
    exact ⟨G', d, Ex.refl G', er, h1, h2.mono e1, fun _ _ z => z⟩
  stop := fun G' H' e1 e2 => ⟨xs, SqT.of (e2 _ _ (e1 _ _ h)), by rw [r.length]; exact Nat.le_refl _⟩
def rngD (lo : Int) (n : Nat) : List PyData := (List.range n).map fun (i : Nat) => PyData.int (lo + (i : Int))
theorem wk_rng (lo : Int) (n : Nat) : Wk K G (Itr lo n) (rngD lo n) where
  go := fun i _ _ hi _ _ => by
    rw [rngD, List.length_map, List.length_range] at hi
    exact hi
  yld := fun i F σ δ G' H' H2 x hi e1 er hy => by
    obtain ⟨rfl, rfl⟩ := hy
    rw [rngD, List.length_map, List.length_range] at hi
    exact ⟨G', .int (lo + i), Ex.refl G', er, by rw [rngD, List.getElem?_map, List.getElem?_range hi]; rfl, .int _, fun _ _ z => z⟩
  stop := fun _ _ _ _ => by
    show n ≤ (rngD lo n).length
    rw [rngD, List.length_map, List.length_range]
    exact Nat.le_refl _
end
section
variable {X : Cx} {cl : Str → Value} {W : WX} {kr : Kd} {a b c tg : Expr} {fa fb fc : Dv → Rs (PyData × Dv)} {ta : Dv → Rs (Bool × Dv)} {pos : Pos}
/-- a list or a tuple walked -/
def seqOf : PyData → Option (List PyData)
  | .list ds => some ds
  | .tuple ds => some ds
  | _ => none
def liftL (o : Option (List PyData)) (δ : Dv) : Rs (List PyData × Dv) := match o with
  | some d => .ok (d, δ)
  | none => .bad
def wSeq (fa : Dv → Rs (PyData × Dv)) : Dv → Rs (List PyData × Dv) := fun δ => (fa δ).bind fun x => liftL (seqOf x.1) x.2
theorem i_seq (ha : Pm X cl W .F a fa) : Pi' X cl W tg a (wSeq fa) := by
  refine ⟨fun pins s σ H R I ⟨F, G, δ, e, p⟩ => ?_⟩
  cases hf : fa δ with
  | ok y =>
    obtain ⟨d, δ1⟩ := y
    cases d with
    | list ds =>
      refine (pi_list (tg := tg) ha).run pins s σ H R I ⟨F, G, δ, e, ?_⟩
      simp only [wSeq, hf, Rs.bind_ok, seqOf, liftL] at p
      rw [hf]
      intro v H2 G2 e1 r1 rv
      obtain ⟨a, xs, rfl, h1, h2⟩ := rp_lst rv
      exact ⟨a, rfl, ⟨xs, SqL.of (r1.ext _ _ h1)⟩, p _ H2 G2 e1 r1 (wk_list h1 h2)⟩
    | tuple ds =>
      refine (pi_tup (tg := tg) ha).run pins s σ H R I ⟨F, G, δ, e, ?_⟩
      simp only [wSeq, hf, Rs.bind_ok, seqOf, liftL] at p
      rw [hf]
      intro v H2 G2 e1 r1 rv
      obtain ⟨a, xs, rfl, h1, h2⟩ := rp_tup rv
      exact ⟨a, rfl, ⟨xs, SqT.of (r1.ext _ _ h1)⟩, p _ H2 G2 e1 r1 (wk_tup h1 h2)⟩
    | _ =>
      simp only [wSeq, hf, Rs.bind_ok, seqOf, liftL] at p
      exact p.elim
  | err c =>
    refine (pi_list (tg := tg) ha).run pins s σ H R I ⟨F, G, δ, e, ?_⟩
    simp only [wSeq, hf, Rs.bind_err] at p
    rw [hf]
    exact p
  | bad =>
    simp only [wSeq, hf, Rs.bind_bad] at p
    exact p.elim
def i62 (j : Int) : Bool := decide (-(2 ^ 62) ≤ j) && decide (j < 2 ^ 62)
theorem i62_of {j : Int} (h : i62 j = true) : -(2 ^ 62) ≤ j ∧ j < 2 ^ 62 := by
  rw [i62, Bool.and_eq_true] at h
  exact ⟨of_decide_eq_true h.1, of_decide_eq_true h.2⟩
def wRng1 (fa : Dv → Rs (PyData × Dv)) : Dv → Rs (List PyData × Dv) := fun δ => (fa δ).bind fun x => onI x.1 fun j => if i62 j = true then .ok (rngD 0 j.toNat, x.2) else .bad
theorem i_rng1 {p : Pos} (hg : Gl X "range") (hm : X.mg "range" = none) (ha : Pm X cl W .F a fa) (hs : starEach [a] X.env = [(false, eval a X.env)]) : Pi' X cl W tg (.Call (.Name "range" p) [a] [] pos) (wRng1 fa) :=
  pi_weak (pi_range1 hg hm (pa_cons ha pa_nil (by rw [hs]; rfl)) hs) fun σ H R ⟨F, G, δ, e, p⟩ => ⟨F, G, δ, e, Po.bindI p fun d δ1 v H1 G1 e1 r1 rv p1 => by
    cases rv with
    | int j =>
      rw [onI_int] at p1
      by_cases h : i62 j = true
      · rw [if_pos h] at p1
        exact ⟨j, rfl, (i62_of h).1, (i62_of h).2, p1 _ H1 G1 (Ex.refl G1) r1 (wk_rng 0 _)⟩
      · rw [if_neg h] at p1
        exact p1.elim
    | _ => exact p1.elim⟩
def wRng2 (fa fb : Dv → Rs (PyData × Dv)) : Dv → Rs (List PyData × Dv) := fun δ => (fa δ).bind fun x => (fb x.2).bind fun y => onI x.1 fun i => onI y.1 fun j =>
  if (i62 i && i62 j) = true then .ok (rngD i (j - i).toNat, y.2) else .bad
theorem i_rng2 {p : Pos} (hg : Gl X "range") (hm : X.mg "range" = none) (ha : Pm X cl W .F a fa) (hb : Pm X cl W .F b fb) (hs : starEach [a, b] X.env = [(false, eval a X.env), (false, eval b X.env)]) (hs2 : starEach [b] X.env = [(false, eval b X.env)]) :
    Pi' X cl W tg (.Call (.Name "range" p) [a, b] [] pos) (wRng2 fa fb) :=
  pi_weak (pi_range2 hg hm (pa_cons ha (pa_cons hb pa_nil (by rw [hs2]; rfl)) (by rw [hs, hs2])) hs hs2) fun σ H R ⟨F, G, δ, e, p⟩ => ⟨F, G, δ, e, Po.bindI p fun d δ1 v H1 G1 e1 r1 rv p1 => ⟨F, G1, δ1, r1, Po.bindI p1 fun d2 δ2 v2 H2 G2 e2 r2 rv2 p2 => by
    cases rv with
    | int i =>
      cases rv2 with
      | int j =>
        rw [onI_int, onI_int] at p2
        by_cases h : (i62 i && i62 j) = true
        · rw [if_pos h] at p2
          rw [Bool.and_eq_true] at h
          exact ⟨i, j, rfl, ⟨(i62_of h.1).1, (i62_of h.1).2, (i62_of h.2).1, (i62_of h.2).2⟩, p2 _ H2 G2 (Ex.refl G2) r2 (wk_rng i _)⟩
        · rw [if_neg h] at p2
          exact p2.elim
      | _ => exact p2.elim
    | _ => exact p2.elim⟩⟩

/-! ### for -/
def forN (b : PyData → Dv → Option Dv) (g : Dv → Rs (Fl × Dv)) : List PyData → Dv → Rs (Fl × Dv)
  | [], δ => .ok (.nx, δ)
  | d :: ds, δ => match b d δ with
    | none => .bad
    | some δ1 => (g δ1).bind fun x => match x.1 with
      | .nx => forN b g ds x.2
      | .ct => forN b g ds x.2
      | .bk => .ok (.nx, x.2)
      | .rt r => .ok (.rt r, x.2)
def gFor (w : Dv → Rs (List PyData × Dv)) (b : PyData → Dv → Option Dv) (g : Dv → Rs (Fl × Dv)) : Dv → Rs (Fl × Dv) := fun δ => (w δ).bind fun x => forN b g x.1 x.2
variable {g : Dv → Rs (Fl × Dv)} {w : Dv → Rs (List PyData × Dv)} {body : List Stmt} {bb : PyData → Dv → Option Dv} {js : List Nat}
theorem s_for (hp : PassesOwn (model X.prog X.w) X.A X.env X.xe) (hc : X.calm = true) (hi : Pi' X cl W tg a w) (hg : Pg X tg js bb) (hb : Pss X cl W kr body g) (hs : ∀ x, foldedSetIterable a X.env x = pure x := by intro _; rfl) :
    Ps X cl W kr (.For tg a body [] pos) (gFor w bb g) :=
  ps_weak (ps_for hp hc hi hg hb hs) fun D σ H ⟨F, G, δ, e, p⟩ => ⟨F, G, δ, e, PoI.bindS p fun ds δ1 J H1 G1 e1 r1 wk p1 => by
    refine ⟨fun i m σ' H' => m = ds.length - i ∧ ∃ G' δ', Ex G1 G' ∧ ER X.K F G' H' σ' δ' ∧ i ≤ ds.length ∧ PoS X.K cl W F kr G' (forN bb g (ds.drop i) δ') D, ⟨_, rfl, G1, δ1, Ex.refl G1, r1, Nat.zero_le _, p1⟩, ?_⟩
    rintro i m σ' H' ⟨rfl, G', δ', eg, er, hi, hp⟩
    by_cases hl : i < ds.length
    · refine .inr ⟨wk.go i G' H' hl eg er.ext, fun σ2 H2 => ∃ G2 δ2, Ex G1 G2 ∧ ER X.K F G2 H2 σ2 δ2 ∧ PoS X.K cl W F kr G2 (forN bb g (ds.drop (i + 1)) δ2) D, ?_, ?_⟩
      · rintro σ2 H2 ⟨G2, δ2, e2, r2, p2⟩
        exact ⟨_, by omega, rfl, G2, δ2, e2, r2, by omega, p2⟩
      · intro x H2 hy
        obtain ⟨G2, d, e2, r2, hd, rx, _⟩ := wk.yld i F σ' δ' G' H' H2 x hl eg er hy
        have hdr : ds.drop i = d :: ds.drop (i + 1) := by
          rw [List.drop_eq_getElem_cons hl]
          rw [List.getElem?_eq_getElem hl] at hd
          cases hd
          rfl
        rw [hdr] at hp
        cases hb : bb d δ' with
        | none => simp only [forN, hb] at hp; exact hp.elim
        | some δ2 =>
          simp only [forN, hb] at hp
          refine ⟨F, G2, δ', d, r2, rx, δ2, hb, fun σ3 _ _ r3 => ⟨F, G2, δ2, r3, ?_⟩⟩
          have hp2 := hp.mono e2
          cases hg2 : g δ2 with
          | ok y =>
            rw [hg2] at hp2
            obtain ⟨fl, δ4⟩ := y
            intro σ4 H4 G4 e4 r4
            have ee : Ex G1 G4 := (eg.trans e2).trans e4
            cases fl with
            | nx => exact ⟨G4, δ4, ee, r4, hp2.mono e4⟩
            | ct => exact ⟨G4, δ4, ee, r4, hp2.mono e4⟩
            | bk => exact hp2 σ4 H4 G4 e4 r4
            | rt r => exact hp2 σ4 H4 G4 e4 r4
          | err c => rw [hg2] at hp2; exact hp2
          | bad => rw [hg2] at hp2; exact hp2.elim
    · have hi' : i = ds.length := by omega
      subst hi'
      rw [List.drop_length] at hp
      exact .inl ⟨wk.stop G' H' eg er.ext, hp σ' H' G' (Ex.refl G') er⟩⟩

/-! ### while -/
def whN (t : Dv → Rs (Bool × Dv)) (g : Dv → Rs (Fl × Dv)) : Nat → Dv → Rs (Fl × Dv)
  | 0, _ => .bad
  | n + 1, δ => (t δ).bind fun b => if b.1 = true then (g b.2).bind fun x => (match x.1 with
      | .nx => whN t g n x.2
      | .ct => whN t g n x.2
      | .bk => .ok (.nx, x.2)
      | .rt r => .ok (.rt r, x.2)) else .ok (.nx, b.2)
theorem s_while (n : Nat) (hp : PassesOwn (model X.prog X.w) X.A X.env X.xe) (hc : Pt X cl W c ta) (hb : Pss X cl W kr body g) : Ps X cl W kr (.While c body [] pos) (whN ta g n) :=
  ps_weak (ps_while hp hc hb) fun D σ H ⟨F, G, δ, e, p⟩ => by
    refine ⟨fun m σ' H' => ∃ G' δ', ER X.K F G' H' σ' δ' ∧ PoS X.K cl W F kr G' (whN ta g m δ') D, ⟨n, G, δ, e, p⟩, ?_⟩
    rintro m σ' H' ⟨G', δ', er, hp⟩
    cases m with
    | zero => exact hp.elim
    | succ m =>
      refine ⟨F, G', δ', er, PoT.bindS hp fun b δ1 H1 G1 e1 r1 p1 => ?_⟩
      cases b with
      | false => exact p1 σ' H1 G1 (Ex.refl G1) r1
      | true =>
        refine ⟨fun σ2 H2 => ∃ G2 δ2, ER X.K F G2 H2 σ2 δ2 ∧ PoS X.K cl W F kr G2 (whN ta g m δ2) D, fun σ2 H2 ⟨G2, δ2, r2, p2⟩ => ⟨m, Nat.lt_succ_self m, G2, δ2, r2, p2⟩, F, G1, δ1, r1, ?_⟩
        have p2 : PoS X.K cl W F kr G1 ((g δ1).bind fun x => (match x.1 with
          | .nx => whN ta g m x.2
          | .ct => whN ta g m x.2
          | .bk => .ok (.nx, x.2)
          | .rt r => .ok (.rt r, x.2))) D := p1
        cases hg2 : g δ1 with
        | ok y =>
          rw [hg2] at p2
          obtain ⟨fl, δ4⟩ := y
          intro σ4 H4 G4 e4 r4
          cases fl with
          | nx => exact ⟨G4, δ4, r4, p2.mono e4⟩
          | ct => exact ⟨G4, δ4, r4, p2.mono e4⟩
          | bk => exact p2 σ4 H4 G4 e4 r4
          | rt r => exact p2 σ4 H4 G4 e4 r4
        | err c => rw [hg2] at p2; exact p2
        | bad => rw [hg2] at p2; exact p2.elim
end
end Pw

set_option maxRecDepth 100000
set_option maxHeartbeats 3900000
/-! ## 6. comprehensions -/
namespace Pw
open PySem L2
open Evl (Ex ex_rd fresh_back)

def anch1 : SV → SV
  | .m d => .a d
  | s => s
def anchD (δ : Dv) : Dv := δ.map (Option.map anch1)
def wipeD (δ : Dv) : List Nat → Dv
  | [] => δ
  | v :: vs => (wipeD δ vs).set v none
def back : Option SV → Option SV → Option SV
  | some (.m _), some (.a d) => some (.m d)
  | _, y => y
def unBN (own : List Nat) : Nat → Dv → Dv → Dv
  | i, x :: xs, y :: ys => (if own.contains i = true then x else back x y) :: unBN own (i + 1) xs ys
  | _, _, _ => []
theorem wipeD_length (δ : Dv) : ∀ vs : List Nat, (wipeD δ vs).length = δ.length
  | [] => rfl
  | v :: vs => by rw [wipeD, List.length_set, wipeD_length δ vs]
theorem wipeD_some {δ : Dv} {i : Nat} {x : SV} : ∀ {vs : List Nat}, (wipeD δ vs)[i]? = some (some x) ↔ δ[i]? = some (some x) ∧ i ∉ vs
  | [] => by simp [wipeD]
  | v :: vs => by
    rw [wipeD]
    constructor
    · intro h
      rcases set_get h with ⟨_, e, _⟩ | ⟨hv, e⟩
      · cases e
      · obtain ⟨h1, h2⟩ := wipeD_some.mp e
        exact ⟨h1, fun z => (List.mem_cons.mp z).elim hv h2⟩
    · rintro ⟨h1, h2⟩
      rw [List.getElem?_set_ne (fun z => h2 (by rw [← z]; exact List.mem_cons_self))]
      exact wipeD_some.mpr ⟨h1, fun z => h2 (List.mem_cons_of_mem _ z)⟩
theorem wipe_iff {σ : L2.St} {i : Nat} {x : V} : ∀ {vs : List Nat}, (wipe σ vs)[i]? = some (some x) ↔ σ[i]? = some (some x) ∧ i ∉ vs
  | [] => by simp [wipe]
  | v :: vs => by
    rw [wipe]
    constructor
    · intro h
      rcases set_get h with ⟨_, e, _⟩ | ⟨hv, e⟩
      · cases e
      · obtain ⟨h1, h2⟩ := wipe_iff.mp e
        exact ⟨h1, fun z => (List.mem_cons.mp z).elim hv h2⟩
    · rintro ⟨h1, h2⟩
      rw [List.getElem?_set_ne (fun z => h2 (by rw [← z]; exact List.mem_cons_self))]
      exact wipe_iff.mpr ⟨h1, fun z => h2 (List.mem_cons_of_mem _ z)⟩
theorem wipe_get (σ : L2.St) (i : Nat) : ∀ vs : List Nat, (wipe σ vs)[i]? = if i ∈ vs ∧ i < σ.length then some none else σ[i]?
  | [] => by simp [wipe]
  | v :: vs => by
    rw [wipe]
    by_cases hv : i = v
    · subst hv
      by_cases hl : i < σ.length
      · rw [List.getElem?_set_self (by rw [wipe_length]; exact hl), if_pos ⟨List.mem_cons_self, hl⟩]
      · rw [List.getElem?_eq_none (by rw [List.length_set, wipe_length]; omega), if_neg (fun z => hl z.2), List.getElem?_eq_none (by omega)]
    · rw [List.getElem?_set_ne (Ne.symm hv), wipe_get σ i vs]
      have : (i ∈ v :: vs ∧ i < σ.length) ↔ (i ∈ vs ∧ i < σ.length) := ⟨fun z => ⟨(List.mem_cons.mp z.1).resolve_left hv, z.2⟩, fun z => ⟨List.mem_cons_of_mem _ z.1, z.2⟩⟩
      by_cases hm : i ∈ vs ∧ i < σ.length
      · rw [if_pos hm, if_pos (this.mpr hm)]
      · rw [if_neg hm, if_neg (fun z => hm (this.mp z))]
/-- what lies beyond the block's own slots is as it was -/
theorem wipe_same {σ σ' : L2.St} {js vs : List Nat} (hl : σ'.length = σ.length) (h : ∀ k, k ∉ js → σ'[k]? = σ[k]?) (hj : ∀ j ∈ js, j ∈ vs) : wipe σ' vs = wipe σ vs := by
  refine List.ext_getElem? fun i => ?_
  rw [wipe_get, wipe_get, hl]
  by_cases hi : i ∈ vs ∧ i < σ.length
  · rw [if_pos hi, if_pos hi]
  · rw [if_neg hi, if_neg hi]
    by_cases h2 : i ∈ js
    · have : ¬ i < σ.length := fun z => hi ⟨hj i h2, z⟩
      rw [List.getElem?_eq_none (by omega), List.getElem?_eq_none (by omega)]
    · exact h i h2
theorem wipe_wipe (σ : L2.St) (vs : List Nat) : wipe (wipe σ vs) vs = wipe σ vs := by
  refine List.ext_getElem? fun i => ?_
  rw [wipe_get, wipe_length, wipe_get]
  by_cases hi : i ∈ vs ∧ i < σ.length
  · rw [if_pos hi, if_pos hi]
  · rw [if_neg hi, if_neg hi]
theorem anchD_get (δ : Dv) (i : Nat) : (anchD δ)[i]? = (δ[i]?).map (Option.map anch1) := List.getElem?_map ..
theorem anchD_some {δ : Dv} {i : Nat} {s : SV} (h : (anchD δ)[i]? = some (some s)) : ∃ t, δ[i]? = some (some t) ∧ s = anch1 t := by
  rw [anchD_get] at h
  cases hd : δ[i]? with
  | none => (rw [hd] at h; cases h)
  | some o =>
    rw [hd] at h
    cases o with
    | none => cases h
    | some t => cases h; exact ⟨t, rfl, rfl⟩
theorem anch1_mut (s : SV) : (anch1 s).mut = s.mut := by cases s <;> rfl
theorem anch1_not_m (s : SV) (d : PyData) : anch1 s ≠ .m d := by cases s <;> exact nofun

section
variable {K : PySem.W.Frag} {F Fb : Fm} {G G2 H H2 : Hp} {σ : L2.St} {δ δb : Dv} {own : List Nat}
/-- the frame that begins here -/
def reF (G H : Hp) (σ : L2.St) (δ : Dv) : Fm := ⟨G, H, fun i p => ∃ s, δ[i]? = some (some s) ∧ s.mut = true ∧ σ[i]? = some (some (.ref p))⟩
/-- no object of one's own, all handed in -/
def AllA (δ : Dv) : Prop := ∀ (i : Nat) (d : PyData), δ[i]? ≠ some (some (.m d))
theorem allA_anch (δ : Dv) : AllA (anchD δ) := fun i d h => by
  obtain ⟨t, _, e⟩ := anchD_some h
  exact anch1_not_m t d e.symm
theorem ER.re (e : ER K F G H σ δ) (hA : AllA δ) : ER K (reF G H σ δ) G H σ δ where
  len := e.len
  ext := e.ext
  fr := fun a o h _ => h
  there := fun a h => h
  cons := fun a o h => .inl h
  slot := e.slot
  own := fun i d p h _ => absurd h (hA i d)
  uniq := e.uniq
  anch := fun i p ⟨s, h1, h2, h3⟩ => by
    cases s with
    | v d => cases h2
    | m d => exact absurd h1 (hA i d)
    | a d => exact ⟨d, h1, h3⟩
  ancI := fun i d p h1 h2 => ⟨_, h1, rfl, h2⟩
/-- back in the frame ahead -/
theorem ER.ofRe {σ' : L2.St} {δ' : Dv} (e : ER K Fb G H σ δ) (hA : AllA δ) (q : ER K (reF G H σ δ) G2 H2 σ' δ') : ER K Fb G2 H2 σ' δ' where
  len := q.len
  ext := q.ext
  fr := fun a o h1 h2 => q.fr a o (e.fr a o h1 h2) fun i ⟨s, k1, k2, k3⟩ => by
    cases s with
    | v d => cases k2
    | m d => exact hA i d k1
    | a d => exact h2 i (e.ancI i d a k1 k3)
  there := fun a h => q.there a (e.there a h)
  cons := fun a o h => by
    rcases q.cons a o h with z | z
    · exact e.cons a o z
    · exact .inr (e.h0 z)
  slot := q.slot
  own := fun i d p h1 h2 => e.h0 (q.own i d p h1 h2)
  uniq := q.uniq
  anch := fun i p h => by
    obtain ⟨d, h1, h2⟩ := e.anch i p h
    exact q.anch i p ⟨_, h1, rfl, h2⟩
  ancI := fun i d p h1 h2 => by
    obtain ⟨s, k1, k2, k3⟩ := q.ancI i d p h1 h2
    cases s with
    | v d => cases k2
    | m d => exact absurd k1 (hA i d)
    | a d => exact e.ancI i d p k1 k3
/-- own slots are forgotten -/
theorem ER.wp (e : ER K F G H σ δ) (ho : ∀ i p, F.anc i p → i ∉ own) : ER K F G H (wipe σ own) (wipeD δ own) where
  len := by rw [wipeD_length, wipe_length]; exact e.len
  ext := e.ext
  fr := e.fr
  there := e.there
  cons := e.cons
  slot := fun i sv h => by
    obtain ⟨h1, h2⟩ := wipeD_some.mp h
    obtain ⟨v, k1, k2⟩ := e.slot i sv h1
    exact ⟨v, wipe_iff.mpr ⟨k1, h2⟩, k2⟩
  own := fun i d p h1 h2 => e.own i d p (wipeD_some.mp h1).1 (wipe_iff.mp h2).1
  uniq := fun i j s t p h1 h2 m1 m2 h3 h4 => e.uniq i j s t p (wipeD_some.mp h1).1 (wipeD_some.mp h2).1 m1 m2 (wipe_iff.mp h3).1 (wipe_iff.mp h4).1
  anch := fun i p h => by
    obtain ⟨d, h1, h2⟩ := e.anch i p h
    exact ⟨d, wipeD_some.mpr ⟨h1, ho i p h⟩, wipe_iff.mpr ⟨h2, ho i p h⟩⟩
  ancI := fun i d p h1 h2 => e.ancI i d p (wipeD_some.mp h1).1 (wipe_iff.mp h2).1
/-- into a block -/
theorem ER.blk (e : ER K F G H σ δ) (own : List Nat) : ER K (reF G H (wipe σ own) (anchD (wipeD δ own))) G H (wipe σ own) (anchD (wipeD δ own)) where
  len := by rw [anchD, List.length_map, wipeD_length, wipe_length]; exact e.len
  ext := e.ext
  fr := fun a o h _ => h
  there := fun a h => h
  cons := fun a o h => .inl h
  slot := fun i sv h => by
    obtain ⟨t, h1, rfl⟩ := anchD_some h
    obtain ⟨h2, h3⟩ := wipeD_some.mp h1
    obtain ⟨v, k1, k2⟩ := e.slot i t h2
    refine ⟨v, wipe_iff.mpr ⟨k1, h3⟩, ?_⟩
    cases t <;> exact k2
  own := fun i d p h _ => absurd h (allA_anch _ i d)
  uniq := fun i j s t p h1 h2 m1 m2 h3 h4 => by
    obtain ⟨s', k1, rfl⟩ := anchD_some h1
    obtain ⟨t', k2, rfl⟩ := anchD_some h2
    rw [anch1_mut] at m1 m2
    exact e.uniq i j s' t' p (wipeD_some.mp k1).1 (wipeD_some.mp k2).1 m1 m2 (wipe_iff.mp h3).1 (wipe_iff.mp h4).1
  anch := fun i p ⟨s, h1, h2, h3⟩ => by
    cases s with
    | v d => cases h2
    | m d => exact absurd h1 (allA_anch _ i d)
    | a d => exact ⟨d, h1, h3⟩
  ancI := fun i d p h1 h2 => ⟨_, h1, rfl, h2⟩
theorem unBN_get (own : List Nat) : ∀ (δ δb : Dv) (k i : Nat), δ.length = δb.length → (unBN own k δ δb)[i]? = match δ[i]?, δb[i]? with
    | some x, some y => some (if own.contains (k + i) = true then x else back x y)
    | _, _ => none
  | [], [], _, _, _ => by simp [unBN]
  | x :: xs, y :: ys, k, 0, _ => by simp [unBN]
  | x :: xs, y :: ys, k, i + 1, h => by
    rw [unBN, List.getElem?_cons_succ, unBN_get own xs ys (k + 1) i (by simpa using h), List.getElem?_cons_succ, List.getElem?_cons_succ, show k + 1 + i = k + (i + 1) by omega]
  | [], _ :: _, _, _, h => by simp at h
  | _ :: _, [], _, _, h => by simp at h
theorem unBN_length (own : List Nat) : ∀ (δ δb : Dv) (k : Nat), δ.length = δb.length → (unBN own k δ δb).length = δ.length
  | [], [], _, _ => rfl
  | x :: xs, y :: ys, k, h => by rw [unBN, List.length_cons, List.length_cons, unBN_length own xs ys (k + 1) (by simpa using h)]
  | [], _ :: _, _, h => by simp at h
  | _ :: _, [], _, h => by simp at h
theorem unBN_some {own : List Nat} {δ δb : Dv} {i : Nat} {s : SV} (hl : δ.length = δb.length) (h : (unBN own 0 δ δb)[i]? = some (some s)) :
    (i ∈ own ∧ δ[i]? = some (some s)) ∨ (i ∉ own ∧ ∃ x y, δ[i]? = some x ∧ δb[i]? = some (some y) ∧ back x (some y) = some s) := by
  rw [unBN_get own δ δb 0 i hl] at h
  cases h1 : δ[i]? with
  | none => (rw [h1] at h; cases h)
  | some x =>
    cases h2 : δb[i]? with
    | none => (rw [h1, h2] at h; cases h)
    | some y =>
      rw [h1, h2] at h
      simp only [Nat.zero_add] at h
      by_cases ho : own.contains i = true
      · rw [if_pos ho] at h
        exact .inl ⟨List.contains_iff_mem.mp ho, h⟩
      · rw [if_neg ho] at h
        refine .inr ⟨fun z => ho (List.contains_iff_mem.mpr z), x, ?_⟩
        cases y with
        | some y' => exact ⟨y', rfl, rfl, Option.some.inj h⟩
        | none =>
          have h3 := Option.some.inj h
          cases x with
          | none => cases h3
          | some x' => cases x' <;> cases h3
theorem back_cases {x : Option SV} {y s : SV} (h : back x (some y) = some s) : (∃ d e, x = some (.m d) ∧ y = .a e ∧ s = .m e) ∨ ((∀ d e, x = some (.m d) → y ≠ .a e) ∧ s = y) := by
  cases x with
  | none => cases y <;> (cases h; exact .inr ⟨fun _ _ z => (by cases z), rfl⟩)
  | some x' =>
    cases x' <;> cases y <;> cases h <;> first
      | exact .inl ⟨_, _, rfl, rfl, rfl⟩
      | exact .inr ⟨fun _ _ z w => by first | (cases z; done) | (cases w; done), rfl⟩
/-- out of a block -/
theorem ER.unblk (e : ER K F G H σ δ) (eg : Ex G G2) (q : ER K (reF G H (wipe σ own) (anchD (wipeD δ own))) G2 H2 (wipe σ own) δb) : ER K F G2 H2 σ (unBN own 0 δ δb) := by
  have hl : δ.length = δb.length := by rw [q.len, wipe_length, e.len]
  -- the block's handed in objects are slots of ours
  have anc_of : ∀ (i : Nat) (p : Addr), (reF G H (wipe σ own) (anchD (wipeD δ own))).anc i p → i ∉ own ∧ ∃ s, δ[i]? = some (some s) ∧ s.mut = true ∧ σ[i]? = some (some (.ref p)) := fun i p ⟨s, h1, h2, h3⟩ => by
    obtain ⟨t, k1, rfl⟩ := anchD_some h1
    rw [anch1_mut] at h2
    exact ⟨(wipeD_some.mp k1).2, t, (wipeD_some.mp k1).1, h2, (wipe_iff.mp h3).1⟩
  have of_anc : ∀ (i : Nat) (p : Addr) (s : SV), i ∉ own → δ[i]? = some (some s) → s.mut = true → σ[i]? = some (some (.ref p)) → (reF G H (wipe σ own) (anchD (wipeD δ own))).anc i p := fun i p s h0 h1 h2 h3 =>
    ⟨anch1 s, by rw [anchD_get, wipeD_some.mpr ⟨h1, h0⟩]; rfl, by rw [anch1_mut]; exact h2, wipe_iff.mpr ⟨h3, h0⟩⟩
  have keep : ∀ a o, H a = some o → (∀ i s, i ∉ own → δ[i]? = some (some s) → s.mut = true → σ[i]? ≠ some (some (.ref a))) → H2 a = some o := fun a o h1 h2 => q.fr a o h1 fun i z => by
    obtain ⟨k0, s, k1, k2, k3⟩ := anc_of i a z
    exact h2 i s k0 k1 k2 k3
  have mutOwn : ∀ (i : Nat) (s : SV), i ∈ own → δ[i]? = some (some s) → s.mut = true → ∃ p o, σ[i]? = some (some (.ref p)) ∧ G2 p = none ∧ H2 p = some o ∧ hoD K G2 o s.data := fun i s ho h1 h2 => by
    obtain ⟨p, o, k1, k2, k3, k4, _⟩ := e.isMut h1 h2
    refine ⟨p, o, k1, ?_, keep p o k3 fun j t hj j1 j2 j3 => hj (by rw [e.uniq j i t s p j1 h1 j2 h2 j3 k1]; exact ho), k4.mono eg⟩
    cases hg : G2 p with
    | none => rfl
    | some u =>
      rcases q.cons p u hg with z | z
      · rw [show (reF G H (wipe σ own) (anchD (wipeD δ own))).G0 p = G p from rfl, k2] at z; cases z
      · rw [show (reF G H (wipe σ own) (anchD (wipeD δ own))).H0 p = H p from rfl, k3] at z; cases z
  refine ⟨by rw [unBN_length own δ δb 0 hl]; exact e.len, q.ext, fun a o h1 h2 => keep a o (e.fr a o h1 h2) fun i s _ k1 k2 k3 => ?_, fun a h => q.there a (e.there a h), fun a o h => ?_, fun i sv h => ?_, fun i d p h1 h2 => ?_, fun i j s t p h1 h2 m1 m2 h3 h4 => ?_, fun i p h => ?_, fun i d p h1 h2 => ?_⟩
  · cases s with
    | v d => cases k2
    | m d => rw [e.own i d a k1 k3] at h1; cases h1
    | a d => exact h2 i (e.ancI i d a k1 k3)
  · rcases q.cons a o h with z | z
    · exact e.cons a o z
    · exact .inr (e.h0 z)
  · rcases unBN_some hl h with ⟨ho, h1⟩ | ⟨ho, x, y, h1, h2, h3⟩
    · by_cases hm : sv.mut = true
      · obtain ⟨p, o, k1, k2, k3, k4⟩ := mutOwn i sv ho h1 hm
        refine ⟨_, k1, ?_⟩
        cases sv with
        | v d => cases hm
        | m d => exact ⟨p, o, rfl, k2, k3, k4⟩
        | a d => exact ⟨p, o, rfl, k2, k3, k4⟩
      · obtain ⟨v, k1, k2⟩ := e.slot i sv h1
        refine ⟨v, k1, ?_⟩
        cases sv with
        | v d => exact Rp.mono eg k2
        | m d => exact absurd rfl hm
        | a d => exact absurd rfl hm
    · obtain ⟨v, k1, k2⟩ := q.slot i y h2
      refine ⟨v, (wipe_iff.mp k1).1, ?_⟩
      rcases back_cases h3 with ⟨d, e2, rfl, rfl, rfl⟩ | ⟨_, rfl⟩
      · exact k2
      · exact k2
  · rcases unBN_some hl h1 with ⟨ho, k1⟩ | ⟨ho, x, y, k1, k2, k3⟩
    · exact e.own i d p k1 h2
    · rcases back_cases k3 with ⟨d1, e2, rfl, rfl, z⟩ | ⟨_, rfl⟩
      · exact e.own i d1 p k1 h2
      · exact e.h0 (q.own i d p k2 (wipe_iff.mpr ⟨h2, ho⟩))
  · -- what a changing slot of the outcome is: one of ours at the same place, or new
    have look : ∀ (i : Nat) (s : SV), (unBN own 0 δ δb)[i]? = some (some s) → s.mut = true → σ[i]? = some (some (.ref p)) → (∃ s', δ[i]? = some (some s') ∧ s'.mut = true) ∨ (H p = none ∧ i ∉ own ∧ δb[i]? = some (some s)) := fun i s h m hs => by
      rcases unBN_some hl h with ⟨ho, k1⟩ | ⟨ho, x, y, k1, k2, k3⟩
      · exact .inl ⟨s, k1, m⟩
      · rcases back_cases k3 with ⟨d1, e2, rfl, rfl, rfl⟩ | ⟨_, rfl⟩
        · exact .inl ⟨_, k1, rfl⟩
        · cases s with
          | v d => cases m
          | m d => exact .inr ⟨q.own i d p k2 (wipe_iff.mpr ⟨hs, ho⟩), ho, k2⟩
          | a d =>
            obtain ⟨_, s', j1, j2, _⟩ := anc_of i p (q.ancI i d p k2 (wipe_iff.mpr ⟨hs, ho⟩))
            exact .inl ⟨s', j1, j2⟩
    rcases look i s h1 m1 h3 with ⟨s', a1, a2⟩ | ⟨a1, a2, a3⟩ <;> rcases look j t h2 m2 h4 with ⟨t', b1, b2⟩ | ⟨b1, b2, b3⟩
    · exact e.uniq i j s' t' p a1 b1 a2 b2 h3 h4
    · obtain ⟨p', o', c1, c2, c3, _⟩ := e.isMut a1 a2
      rw [h3] at c1; cases c1
      rw [b1] at c3; cases c3
    · obtain ⟨p', o', c1, c2, c3, _⟩ := e.isMut b1 b2
      rw [h4] at c1; cases c1
      rw [a1] at c3; cases c3
    · exact q.uniq i j s t p a3 b3 m1 m2 (wipe_iff.mpr ⟨h3, a2⟩) (wipe_iff.mpr ⟨h4, b2⟩)
  · obtain ⟨d, h1, h2⟩ := e.anch i p h
    by_cases ho : i ∈ own
    · refine ⟨d, ?_, h2⟩
      obtain ⟨y, hy⟩ : ∃ y, δb[i]? = some y := ⟨_, List.getElem?_eq_getElem (by rw [← hl]; exact (List.getElem?_eq_some_iff.mp h1).1)⟩
      rw [unBN_get own δ δb 0 i hl, h1, hy]
      simp [ho]
    · obtain ⟨d', k1, k2⟩ := q.anch i p (of_anc i p _ ho h1 rfl h2)
      refine ⟨d', ?_, h2⟩
      rw [unBN_get own δ δb 0 i hl, h1, k1]
      simp [ho, back]
  · rcases unBN_some hl h1 with ⟨ho, k1⟩ | ⟨ho, x, y, k1, k2, k3⟩
    · exact e.ancI i d p k1 h2
    · rcases back_cases k3 with ⟨d1, e2, _, _, z⟩ | ⟨hn, rfl⟩
      · cases z
      · obtain ⟨_, s', j1, j2, _⟩ := anc_of i p (q.ancI i d p k2 (wipe_iff.mpr ⟨h2, ho⟩))
        rw [k1] at j1
        have j1' := Option.some.inj j1
        cases s' with
        | v d' => cases j2
        | m d' => exact absurd rfl (hn d' d j1')
        | a d' => subst j1'; exact e.ancI i d' p k1 h2
end

def allAb : Dv → Bool
  | [] => true
  | some (.m _) :: _ => false
  | _ :: r => allAb r
theorem allA_of : ∀ {δ : Dv}, allAb δ = true → AllA δ
  | [], _, i, d, h => by simp at h
  | x :: r, hb, 0, d, h => by
    rw [List.getElem?_cons_zero] at h
    cases h
    cases hb
  | x :: r, hb, i + 1, d, h => by
    rw [List.getElem?_cons_succ] at h
    refine allA_of (δ := r) ?_ i d h
    cases x with
    | none => exact hb
    | some s => cases s <;> first | exact hb | cases hb
def noErr {α : Type} : Rs α → Rs α
  | .err _ => .bad
  | r => r
@[simp] theorem noErr_ok {α : Type} (a : α) : noErr (.ok a) = .ok a := (rfl)
@[simp] theorem noErr_bad {α : Type} : noErr (.bad : Rs α) = .bad := (rfl)
@[simp] theorem noErr_err {α : Type} (c : Str) : noErr (.err c : Rs α) = .bad := (rfl)
def compN (own : List Nat) (b : PyData → Dv → Option Dv) (t : Dv → Rs (Bool × Dv)) (f : Dv → Rs (PyData × Dv)) : List PyData → Dv → Rs (List PyData × Dv)
  | [], δ => .ok ([], δ)
  | d :: ds, δ => match b d δ with
    | none => .bad
    | some δ1 => (noErr (t δ1)).bind fun k => if k.1 = true then (noErr (f k.2)).bind fun y => if allAb (wipeD y.2 own) = true then (compN own b t f ds (wipeD y.2 own)).bind fun r => .ok (y.1 :: r.1, r.2) else .bad
      else if allAb (wipeD k.2 own) = true then compN own b t f ds (wipeD k.2 own) else .bad
def fLc (own : List Nat) (w : Dv → Rs (List PyData × Dv)) (b : PyData → Dv → Option Dv) (t : Dv → Rs (Bool × Dv)) (f : Dv → Rs (PyData × Dv)) : Dv → Rs (PyData × Dv) := fun δ => (w δ).bind fun x =>
  if x.1.length ≤ sizeLine then (compN own b t f x.1 (anchD (wipeD x.2 own))).bind fun r => .ok (.list r.1, unBN own 0 x.2 r.2) else .bad
abbrev W0 : WX := fun _ _ _ _ => False
theorem noErr_po {K : PySem.W.Frag} {cl : Str → Value} {F : Fm} {σ : L2.St} {G : Hp} {r : Rs (PyData × Dv)} {P : PyData × Dv → Prop} {Q : VK} (h : ∃ y, noErr r = .ok y ∧ P y)
    (k : ∀ y, P y → ∀ (v : V) (H2 G2 : Hp), Ex G G2 → ER K F G2 H2 σ y.2 → Rp K G2 v y.1 → Q v H2) : Po K cl W0 F σ G .F r Q := by
  obtain ⟨y, e, p⟩ := h
  cases r with
  | ok x => cases e; exact fun v H2 G2 e1 r1 rv => k _ p v H2 G2 e1 r1 rv
  | err c => cases e
  | bad => cases e
theorem noErr_pt {K : PySem.W.Frag} {cl : Str → Value} {F : Fm} {σ : L2.St} {G : Hp} {r : Rs (Bool × Dv)} {P : Bool × Dv → Prop} {Q : Bool → Hp → Prop} (h : ∃ y, noErr r = .ok y ∧ P y)
    (k : ∀ y, P y → ∀ (H2 G2 : Hp), Ex G G2 → ER K F G2 H2 σ y.2 → Q y.1 H2) : PoT K cl W0 F σ G r Q := by
  obtain ⟨y, e, p⟩ := h
  cases r with
  | ok x => cases e; exact fun H2 G2 e1 r1 => k _ p H2 G2 e1 r1
  | err c => cases e
  | bad => cases e
/-- where the whole came to an end the part did -/
theorem bind_ok {α β : Type} {r : Rs α} {k : α → Rs β} {y : β} (h : r.bind k = .ok y) : ∃ x, r = .ok x ∧ k x = .ok y := by
  cases r with
  | ok x => exact ⟨x, rfl, h⟩
  | err c => cases h
  | bad => cases h
theorem ER.off {K : PySem.W.Frag} {F : Fm} {G H : Hp} {σ : L2.St} {δ : Dv} {D : Addr} {o : HO} (e : ER K F G H σ δ) (hg : G D = none) (h0 : F.H0 D = none) (hm : ¬ IsMut σ δ D) : ER K F G (upd H D o) σ δ where
  len := e.len
  ext := Ex.mut e.ext hg
  fr := fun a u h1 h2 => by
    have hne : a ≠ D := fun z => by subst z; rw [h0] at h1; cases h1
    rw [upd_ne hne]; exact e.fr a u h1 h2
  there := fun a h => by
    by_cases ha : a = D
    · subst ha; rw [upd_same]; exact nofun
    · rw [upd_ne ha]; exact e.there a h
  cons := e.cons
  slot := fun i sv h => by
    obtain ⟨v, k1, k2⟩ := e.slot i sv h
    refine ⟨v, k1, k2.mono (Ex.refl G) fun p u m ev hp => ⟨?_, id⟩⟩
    subst ev
    have hne : p ≠ D := fun z => hm ⟨i, sv, h, m, by rw [← z]; exact k1⟩
    rw [upd_ne hne]; exact hp
  own := e.own
  uniq := e.uniq
  anch := e.anch
  ancI := e.ancI
section
variable {X : Cx} {cl : Str → Value} {W : WX} {kr : Kd} {tg iter elt : Expr} {ifs : List Expr} {scope : Scope} {own : List (Str × Nat)} {pos : Pos} {w : Dv → Rs (List PyData × Dv)} {bb : PyData → Dv → Option Dv} {js : List Nat} {t : Dv → Rs (Bool × Dv)} {f : Dv → Rs (PyData × Dv)}
theorem compN_cons {own : List Nat} {b : PyData → Dv → Option Dv} {d : PyData} {ds : List PyData} {δ : Dv} {y : List PyData × Dv} (h : compN own b t f (d :: ds) δ = .ok y) :
    ∃ δ1, b d δ = some δ1 ∧ ∃ k, noErr (t δ1) = .ok k ∧ ((k.1 = true ∧ ∃ z, noErr (f k.2) = .ok z ∧ allAb (wipeD z.2 own) = true ∧ ∃ r, compN own b t f ds (wipeD z.2 own) = .ok r ∧ y = (z.1 :: r.1, r.2)) ∨
      (k.1 = false ∧ allAb (wipeD k.2 own) = true ∧ compN own b t f ds (wipeD k.2 own) = .ok y)) := by
  cases hb : b d δ with
  | none => simp only [compN, hb] at h; cases h
  | some δ1 =>
    simp only [compN, hb] at h
    obtain ⟨k, h1, h2⟩ := bind_ok h
    refine ⟨δ1, rfl, k, h1, ?_⟩
    by_cases hk : k.1 = true
    · rw [if_pos hk] at h2
      obtain ⟨z, h3, h4⟩ := bind_ok h2
      by_cases ha : allAb (wipeD z.2 own) = true
      · rw [if_pos ha] at h4
        obtain ⟨r, h5, h6⟩ := bind_ok h4
        cases h6
        exact .inl ⟨hk, z, h3, ha, r, h5, rfl⟩
      · rw [if_neg ha] at h4; cases h4
    · rw [if_neg hk] at h2
      rw [Bool.not_eq_true] at hk
      by_cases ha : allAb (wipeD k.2 own) = true
      · rw [if_pos ha] at h2
        exact .inr ⟨hk, ha, h2⟩
      · rw [if_neg ha] at h2; cases h2
/-- a clause's tests -/
abbrev Pts (X : Cx) (cl : Str → Value) (W : WX) (ifs : List Expr) (t : Dv → Rs (Bool × Dv)) : Prop := PTs X ifs (tT X.K cl W t)
def tYesD : Dv → Rs (Bool × Dv) := fun δ => .ok (true, δ)
theorem ts_nil : Pts X cl W [] tYesD := ⟨fun pins s σ H Q I ⟨F, G, δ, e, p⟩ => pts_nil.run pins s σ H Q I (p H G (Ex.refl G) e)⟩
theorem ts_one {c : Expr} (h : Pt X cl W c t) : Pts X cl W [c] t := pts_one h
theorem go_lc {K : PySem.W.Frag} {vs : List Nat} (hj : ∀ j ∈ js, j ∈ vs) {σ : L2.St} {H : Hp} {Q : VK} (h : tM K cl W .O (fLc vs w bb t f) σ H Q) :
    tLc (tI K cl W w) (tG K js bb) (tT K cl W0 t) (tM K cl W0 .F f) vs σ H Q := by
  obtain ⟨F, G, δ, e, p⟩ := h
  refine ⟨F, G, δ, e, PoI.bind p fun ds δ1 J H1 G1 e1 r1 wk p1 D hD => ?_⟩
  have gD : G1 D = none := fresh_back r1.ext hD
  have hz : ds.length ≤ sizeLine := by
    by_cases hz : ds.length ≤ sizeLine
    · exact hz
    · rw [if_neg hz] at p1; exact p1.elim
  rw [if_pos hz] at p1
  have nm : ∀ (_ : Dv), ¬ ∃ (i : Nat) (s : SV), δ1[i]? = some (some s) ∧ SV.mut s = true ∧ σ[i]? = some (some (.ref D)) := fun _ ⟨i, s, k1, k2, k3⟩ => (r1.mut_there ⟨i, s, k1, k2, k3⟩).1 hD
  obtain ⟨res, hres, hQ⟩ : ∃ res, compN vs bb t f ds (anchD (wipeD δ1 vs)) = .ok res ∧ Po K cl W F σ G1 .O (.ok (.list res.1, unBN vs 0 δ1 res.2)) Q := by
    cases hc : compN vs bb t f ds (anchD (wipeD δ1 vs)) with
    | ok res => rw [hc] at p1; exact ⟨res, rfl, p1⟩
    | bad => rw [hc] at p1; exact p1.elim
    | err c =>
      exfalso
      revert hc
      generalize anchD (wipeD δ1 vs) = δ0
      clear p1 wk hz
      induction ds generalizing δ0 with
      | nil => intro hc; cases hc
      | cons d ds ih =>
        intro hc
        rw [compN] at hc
        cases hb : bb d δ0 with
        | none => simp only [hb] at hc; cases hc
        | some δ2 =>
          simp only [hb] at hc
          have nE : ∀ {α : Type} (r : Rs α) (c' : Str), noErr r ≠ .err c' := fun r c' => by cases r <;> exact nofun
          cases ht : noErr (t δ2) with
          | err c' => exact nE _ _ ht
          | bad => rw [ht] at hc; cases hc
          | ok k =>
            rw [ht] at hc
            simp only [Rs.bind_ok] at hc
            split at hc
            · cases hf : noErr (f k.2) with
              | err c' => exact nE _ _ hf
              | bad => rw [hf] at hc; cases hc
              | ok z =>
                rw [hf] at hc
                simp only [Rs.bind_ok] at hc
                split at hc
                · cases h3 : compN vs bb t f ds (wipeD z.2 vs) with
                  | ok r => rw [h3] at hc; cases hc
                  | bad => rw [h3] at hc; cases hc
                  | err c2 => rw [h3] at hc; cases hc; exact ih _ h3
                · cases hc
            · split at hc
              · exact ih _ hc
              · cases hc
  let Fb := reF G1 H1 (wipe σ vs) (anchD (wipeD δ1 vs))
  have hb0 : Fb.H0 D = none := hD
  have ancNo : ∀ i p, Fb.anc i p → i ∉ vs := fun i p ⟨s, k1, _, _⟩ => by
    obtain ⟨t', j1, _⟩ := anchD_some k1
    exact (wipeD_some.mp j1).2
  have notD : ∀ (δ' : Dv) (G' H' : Hp) , ER K Fb G' H' (wipe σ vs) δ' → AllA δ' → ¬ IsMut (wipe σ vs) δ' D := fun δ' G' H' er ha ⟨i, s, k1, k2, k3⟩ => by
    cases s with
    | v d => cases k2
    | m d => exact ha i d k1
    | a d =>
      obtain ⟨s', j1, j2, j3⟩ := er.ancI i d D k1 k3
      obtain ⟨t', l1, l2⟩ := anchD_some j1
      subst l2
      rw [anch1_mut] at j2
      exact nm δ' ⟨i, t', (wipeD_some.mp l1).1, j2, (wipe_iff.mp j3).1⟩
  refine ⟨fun i m H' => m = ds.length - i ∧ i ≤ ds.length ∧ ∃ (G' : Hp) (δ' : Dv) (acc : List V) (dacc r : List PyData), Ex G1 G' ∧ ER K Fb G' H' (wipe σ vs) δ' ∧ AllA δ' ∧ H' D = some (.lst acc) ∧ G' D = none ∧ RpA K G' acc dacc ∧ acc.length ≤ i ∧
    compN vs bb t f (ds.drop i) δ' = .ok (r, res.2) ∧ dacc ++ r = res.1, ⟨_, rfl, Nat.zero_le _, G1, _, [], [], res.1, Ex.refl G1, (r1.blk vs).off gD hb0 (notD _ _ _ (r1.blk vs) (allA_anch _)), allA_anch _, upd_same, gD, .nil, Nat.le_refl 0, hres, rfl⟩, ?_⟩
  rintro i m H' ⟨rfl, hi, G', δ', acc, dacc, r, eg, er, ha, hHD, hGD, racc, hal, hcomp, hdr⟩
  by_cases hl : i < ds.length
  · refine .inr ⟨wk.go i G' H' hl eg er.ext, fun H3 => ∃ (G3 : Hp) (δ3 : Dv) (acc3 : List V) (dacc3 r3 : List PyData), Ex G1 G3 ∧ ER K Fb G3 H3 (wipe σ vs) δ3 ∧ AllA δ3 ∧ H3 D = some (.lst acc3) ∧ G3 D = none ∧ RpA K G3 acc3 dacc3 ∧ acc3.length ≤ i + 1 ∧
      compN vs bb t f (ds.drop (i + 1)) δ3 = .ok (r3, res.2) ∧ dacc3 ++ r3 = res.1, ?_, ?_⟩
    · rintro H3 ⟨G3, δ3, acc3, dacc3, r3, h3⟩
      exact ⟨_, by omega, rfl, by omega, G3, δ3, acc3, dacc3, r3, h3⟩
    · intro x H2 hy
      -- this turn's frame
      have e0 := er.re ha
      obtain ⟨G2, d, e2, r2, hd, rx, _⟩ := wk.yld i _ (wipe σ vs) δ' G' H' H2 x hl eg e0 hy
      have hdr2 : ds.drop i = d :: ds.drop (i + 1) := by
        rw [List.drop_eq_getElem_cons hl]
        rw [List.getElem?_eq_getElem hl] at hd
        cases hd
        rfl
      rw [hdr2] at hcomp
      obtain ⟨δ2, hb, k, hk, hcase⟩ := compN_cons hcomp
      have ancNo2 : ∀ i p, (reF G' H' (wipe σ vs) δ').anc i p → i ∉ vs := fun j p ⟨s, k1, k2, k3⟩ => (wipe_iff.mp k3).2
      -- what a state of this turn's frame keeps of D
      have keepD : ∀ (G4 H4 : Hp) (σ4 : L2.St) (δ4 : Dv), ER K (reF G' H' (wipe σ vs) δ') G4 H4 σ4 δ4 → H4 D = some (.lst acc) ∧ G4 D = none := fun G4 H4 σ4 δ4 r4 => by
        refine ⟨r4.fr D _ hHD fun j ⟨s, k1, k2, k3⟩ => notD δ' G' H' er ha ⟨j, s, k1, k2, k3⟩, ?_⟩
        cases hg : G4 D with
        | none => rfl
        | some u =>
          rcases r4.cons D u hg with z | z
          · rw [show (reF G' H' (wipe σ vs) δ').G0 D = G' D from rfl, hGD] at z; cases z
          · rw [show (reF G' H' (wipe σ vs) δ').H0 D = H' D from rfl, hHD] at z; cases z
      refine ⟨_, G2, δ', d, r2, rx, δ2, hb, fun σ3 l3 k3 r3 => ?_⟩
      have hw : wipe σ3 vs = wipe σ vs := by
        rw [wipe_same l3 k3 hj, wipe_wipe]
      refine ⟨hw, _, G2, δ2, r3, noErr_pt (P := fun y => y = k) ⟨k, hk, rfl⟩ fun y hyk H4 G4 e4 r4 => ?_⟩
      subst hyk
      rcases hcase with ⟨hkt, z, hf, haz, r5, hc5, he5⟩ | ⟨hkf, haz, hc5⟩
      · rw [if_pos hkt]
        refine ⟨_, G4, _, r4, noErr_po (P := fun y => y = z) ⟨z, hf, rfl⟩ fun y hyz v H5 G5 e5 r5' rv => ?_⟩
        subst hyz
        obtain ⟨d1, d2⟩ := keepD G5 H5 _ _ r5'
        have r6 : ER K Fb G5 H5 (wipe σ vs) (wipeD y.2 vs) := by
          have q := r5'.wp ancNo2
          rw [hw] at q
          exact er.ofRe ha q
        have eall : Ex G' G5 := (e2.trans e4).trans e5
        have he1 : r = y.1 :: r5.1 := (Prod.mk.inj he5).1
        have he2 : res.2 = r5.2 := (Prod.mk.inj he5).2
        exact ⟨acc, d1, by omega, G5, _, acc ++ [v], dacc ++ [y.1], r5.1, eg.trans eall, r6.off d2 hb0 (notD _ _ _ r6 (allA_of haz)), allA_of haz, upd_same, d2, (racc.mono eall).append (.cons rv .nil), by rw [List.length_append]; simp; omega, by rw [he2]; exact hc5, by rw [← hdr, he1]; simp⟩
      · rw [if_neg (by rw [hkf]; exact nofun)]
        obtain ⟨d1, d2⟩ := keepD G4 H4 _ _ r4
        have r6 : ER K Fb G4 H4 (wipe σ vs) (wipeD y.2 vs) := by
          have q := r4.wp ancNo2
          rw [hw] at q
          exact er.ofRe ha q
        have eall : Ex G' G4 := e2.trans e4
        exact ⟨G4, _, acc, dacc, r, eg.trans eall, r6, allA_of haz, d1, d2, racc.mono eall, by omega, hc5, hdr⟩
  · have hi' : i = ds.length := by omega
    subst hi'
    rw [List.drop_length] at hcomp
    cases hcomp
    rw [List.append_nil] at hdr
    refine .inl ⟨wk.stop G' H' eg er.ext, ?_⟩
    have ru := r1.unblk eg er
    refine hQ (.ref D) H' G' eg ru ⟨D, _, rfl, hGD, hHD, .inl ⟨acc, dacc, rfl, racc, by rw [hdr]⟩, r1.h0 hD, fun ⟨i, s, k1, k2, k3⟩ => ?_⟩
    have hlen : δ1.length = res.2.length := by rw [er.len, wipe_length, r1.len]
    rcases unBN_some hlen k1 with ⟨ho, q1⟩ | ⟨ho, x, y, q1, q2, q3⟩
    · exact nm δ1 ⟨i, s, q1, k2, k3⟩
    · rcases back_cases q3 with ⟨d1, e2, rfl, _, _⟩ | ⟨_, rfl⟩
      · exact nm δ1 ⟨i, _, q1, rfl, k3⟩
      · exact notD _ _ _ er ha ⟨i, _, q2, k2, wipe_iff.mpr ⟨k3, ho⟩⟩
theorem m_lcO (hc : X.calm = true) (hN : X.N.Nodup) (hi : Pi' X cl W tg iter w) (ok : BlkOk X.N X.env.scope scope own) (hj : ∀ j ∈ js, j ∈ own.map (·.2))
    (hg : ∀ (s : Shared) (H : Hp) (C : Addr) (l : List (Str × Addr)) (fp : List Addr), Pg (X.blk s H scope (compEnvC scope l C X.env) fp) tg js bb) (ht : ∀ (s : Shared) (H : Hp) (C : Addr) (l : List (Str × Addr)) (fp : List Addr), Pts (X.blk s H scope (compEnvC scope l C X.env) fp) cl W0 ifs t)
    (he : ∀ (s : Shared) (H : Hp) (C : Addr) (l : List (Str × Addr)) (fp : List Addr), Pm (X.blk s H scope (compEnvC scope l C X.env) fp) cl W0 .F elt f) (hs : ∀ x, foldedSetIterable iter X.env x = pure x := by intro _; rfl) :
    Pm X cl W .O (.ListComp elt [⟨tg, iter, ifs, 0⟩] scope pos) (fLc (own.map (·.2)) w bb t f) :=
  pe_weak (pe_lc hc hN hi ok hg ht he hs) fun _ _ _ h => go_lc hj h
/-- name = [..] -/
theorem s_lcO {i : Nat} {y : Str} {py spos : Pos} (hc : X.calm = true) (hN : X.N.Nodup) (hy : X.N[i]? = some y) (hyl : X.env.scope.names.lookup y = some .local)
    (hsw : swapsWith (.ListComp elt [⟨tg, iter, ifs, 0⟩] scope pos) (some (.Name y py)) spos.line X.env = pure true) (hi : Pi' X cl W tg iter w) (ok : BlkOk X.N X.env.scope scope own) (hj : ∀ j ∈ js, j ∈ own.map (·.2))
    (hg : ∀ (s : Shared) (H : Hp) (C : Addr) (l : List (Str × Addr)) (fp : List Addr), Pg (X.blk s H scope (compEnvC scope l C X.env) fp) tg js bb) (ht : ∀ (s : Shared) (H : Hp) (C : Addr) (l : List (Str × Addr)) (fp : List Addr), Pts (X.blk s H scope (compEnvC scope l C X.env) fp) cl W0 ifs t)
    (he : ∀ (s : Shared) (H : Hp) (C : Addr) (l : List (Str × Addr)) (fp : List Addr), Pm (X.blk s H scope (compEnvC scope l C X.env) fp) cl W0 .F elt f) (hs : ∀ x, foldedSetIterable iter X.env x = pure x := by intro _; rfl) :
    Ps X cl W kr (.Assign [.Name y py] (.ListComp elt [⟨tg, iter, ifs, 0⟩] scope pos) spos) (gSetO i (fLc (own.map (·.2)) w bb t f)) := by
  refine ps_weak (ps_setLc (g := tG X.K js bb) (tt := tT X.K cl W0 t) (te := tM X.K cl W0 .F f) hc hN hy hyl hsw hi ok hg ht he hs) fun D σ H h => ?_
  have z := go_setO h
  exact go_lc hj z
theorem s_lcF {i : Nat} {y : Str} {py spos : Pos} (hc : X.calm = true) (hN : X.N.Nodup) (hy : X.N[i]? = some y) (hyl : X.env.scope.names.lookup y = some .local)
    (hsw : swapsWith (.ListComp elt [⟨tg, iter, ifs, 0⟩] scope pos) (some (.Name y py)) spos.line X.env = pure true) (hi : Pi' X cl W tg iter w) (ok : BlkOk X.N X.env.scope scope own) (hj : ∀ j ∈ js, j ∈ own.map (·.2))
    (hg : ∀ (s : Shared) (H : Hp) (C : Addr) (l : List (Str × Addr)) (fp : List Addr), Pg (X.blk s H scope (compEnvC scope l C X.env) fp) tg js bb) (ht : ∀ (s : Shared) (H : Hp) (C : Addr) (l : List (Str × Addr)) (fp : List Addr), Pts (X.blk s H scope (compEnvC scope l C X.env) fp) cl W0 ifs t)
    (he : ∀ (s : Shared) (H : Hp) (C : Addr) (l : List (Str × Addr)) (fp : List Addr), Pm (X.blk s H scope (compEnvC scope l C X.env) fp) cl W0 .F elt f) (hs : ∀ x, foldedSetIterable iter X.env x = pure x := by intro _; rfl) :
    Ps X cl W kr (.Assign [.Name y py] (.ListComp elt [⟨tg, iter, ifs, 0⟩] scope pos) spos) (gSet i (fLc (own.map (·.2)) w bb t f)) := by
  refine ps_weak (ps_setLc (g := tG X.K js bb) (tt := tT X.K cl W0 t) (te := tM X.K cl W0 .F f) hc hN hy hyl hsw hi ok hg ht he hs) fun D σ H h => ?_
  obtain ⟨F, G, δ, e, p⟩ := go_set h
  refine go_lc hj ⟨F, G, δ, e, ?_⟩
  cases hf : fLc (own.map (·.2)) w bb t f δ with
  | ok x =>
    rw [hf] at p
    intro v H2 G2 e1 r1 rv
    obtain ⟨G3, e3, r3, r4⟩ := res_f_of_o r1 rv
    exact p v H2 G3 (e1.trans e3) r3 r4
  | err c => rw [hf] at p; exact p
  | bad => rw [hf] at p; exact p
end
end Pw

set_option maxRecDepth 100000
set_option maxHeartbeats 3900000
/-! ## 7. defs: their promise, their bodies, their calls; raise -/
namespace Pw
open PySem L2
open Evl (Ex ex_rd fresh_back)

def argS (msk : Option Nat) (i : Nat) (d : PyData) : SV := if msk = some i then .a d else .v d
def argsN (msk : Option Nat) : Nat → List PyData → Dv
  | _, [] => []
  | i, d :: ds => some (argS msk i d) :: argsN msk (i + 1) ds
def startD (msk : Option Nat) (n : Nat) (ds : List PyData) : Dv := argsN msk 0 ds ++ List.replicate (n - ds.length) none
abbrev Sm := List PyData → Rs (PyData × Option PyData)
def outD (msk : Option Nat) (d : PyData) (δ : Dv) : Rs (PyData × Option PyData) := match msk with
  | none => .ok (d, none)
  | some i => match δ[i]? with
    | some (some (.a e)) => .ok (d, some e)
    | _ => .bad
/-- a def's sense, by its body's -/
def runD (n : Nat) (msk : Option Nat) (g : Dv → Rs (Fl × Dv)) : Sm := fun ds => match g (startD msk n ds) with
  | .ok x => match x.1 with
    | .rt d => outD msk d x.2
    | .nx => outD msk .none x.2
    | _ => .bad
  | .err c => match msk with
    | none => .err c
    | some _ => .bad
  | .bad => .bad
def RetR (K : PySem.W.Frag) (G2 H2 H : Hp) (kr : Kd) (v : V) (d : PyData) : Prop := match kr with
  | .O => ∃ p o, v = .ref p ∧ G2 p = none ∧ H2 p = some o ∧ hoD K G2 o d ∧ H p = none
  | _ => Rp K G2 v d
def PoD (K : PySem.W.Frag) (cl : Str → Value) (msk : Option Nat) (kr : Kd) (vs : List V) (G H : Hp) (r : Rs (PyData × Option PyData)) (Q : VK) (E : XK) : Prop :=
  match r with
  | .ok x => ∀ (v : V) (H2 G2 : Hp), Ex G G2 → Ex G2 H2 → (∀ a o, G2 a = some o → G a = some o ∨ H a = none) → (∀ a o, H a = some o → (∀ i, msk = some i → vs[i]? ≠ some (.ref a)) → H2 a = some o) →
      (∀ i, msk = some i → ∃ e p o, x.2 = some e ∧ vs[i]? = some (.ref p) ∧ G2 p = none ∧ H2 p = some o ∧ hoD K G2 o e) →
      RetR K G2 H2 H kr v x.1 → Q v H2
  | .err c => msk = none ∧ ∀ H2 : Hp, (∀ a o, H a = some o → H2 a = some o) → E (cl c) none H2
  | .bad => False
/-- what a def promises -/
def spD (K : PySem.W.Frag) (cl : Str → Value) (n : Nat) (msk : Option Nat) (kr : Kd) (S : Sm) : Sp := fun vs H Q E =>
  vs.length = n ∧ ∃ (G : Hp) (ds : List PyData), Ex G H ∧ ds.length = n ∧ (∀ (i : Nat) (d : PyData), ds[i]? = some d → ∃ v, vs[i]? = some v ∧ SlotOk K G H (argS msk i d) v) ∧ PoD K cl msk kr vs G H (S ds) Q E
theorem argsN_get (msk : Option Nat) : ∀ (ds : List PyData) (k i : Nat), (argsN msk k ds)[i]? = (ds[i]?).map fun d => some (argS msk (k + i) d)
  | [], k, i => by simp [argsN]
  | d :: ds, k, 0 => by simp [argsN]
  | d :: ds, k, i + 1 => by rw [argsN, List.getElem?_cons_succ, argsN_get msk ds (k + 1) i, List.getElem?_cons_succ, show k + 1 + i = k + (i + 1) by omega]
theorem argsN_length (msk : Option Nat) : ∀ (ds : List PyData) (k : Nat), (argsN msk k ds).length = ds.length
  | [], k => rfl
  | d :: ds, k => by rw [argsN, List.length_cons, List.length_cons, argsN_length msk ds (k + 1)]
theorem startD_some {msk : Option Nat} {n i : Nat} {ds : List PyData} {s : SV} (h : (startD msk n ds)[i]? = some (some s)) : ∃ d, ds[i]? = some d ∧ s = argS msk i d := by
  unfold startD at h
  by_cases hi : i < ds.length
  · rw [List.getElem?_append_left (by rw [argsN_length]; exact hi), argsN_get, Nat.zero_add] at h
    cases hd : ds[i]? with
    | none => (rw [hd] at h; cases h)
    | some d => rw [hd] at h; cases h; exact ⟨d, rfl, rfl⟩
  · rw [List.getElem?_append_right (by rw [argsN_length]; omega)] at h
    have := List.mem_of_getElem? h
    rw [List.mem_replicate] at this
    cases this.2
theorem start_get {N : List Str} {vs : List V} {i : Nat} {v : V} (h : vs[i]? = some v) : (L2.start N vs)[i]? = some (some v) := by
  unfold L2.start
  rw [List.getElem?_append_left (by rw [List.length_map]; exact (List.getElem?_eq_some_iff.mp h).1), List.getElem?_map, h]
  rfl
theorem start_back {N : List Str} {vs : List V} {i : Nat} {v : V} (h : (L2.start N vs)[i]? = some (some v)) : vs[i]? = some v := by
  unfold L2.start at h
  by_cases hi : i < vs.length
  · rw [List.getElem?_append_left (by rw [List.length_map]; exact hi), List.getElem?_map] at h
    cases hv : vs[i]? with
    | none => rw [hv] at h; cases h
    | some u => rw [hv] at h; cases h; rfl
  · rw [List.getElem?_append_right (by rw [List.length_map]; omega)] at h
    have := List.mem_of_getElem? h
    rw [List.mem_replicate] at this
    cases this.2
section
variable {P : Program} {w : World} {K : PySem.W.Frag} {mg : Str → Option Value} {base : Heap} {cl : Str → Value}
theorem pre_le {N ps : List Str} {scope : Scope} (S : FnScope N ps scope) : ps.length ≤ N.length := by
  have := congrArg List.length S.pre
  rw [List.length_take] at this
  omega
/-- from a promise to the body's sense -/
theorem d_go {N ps : List Str} {msk : Option Nat} {kr : Kd} {g : Dv → Rs (Fl × Dv)} (hkr : kr ≠ .B) (hko : kr = .O → ∀ δ δ', g δ ≠ .ok (.nx, δ')) (hN : ps.length ≤ N.length) {vs : List V} {H : Hp} {Q : VK} {E : XK}
    (h : spD K cl ps.length msk kr (runD N.length msk g) vs H Q E) : tS K cl (fun c d _ H => E c d H) kr g { nx := fun _ H' => Q .non H', rt := Q } (L2.start N vs) H := by
  obtain ⟨hn, G, ds, eg, hd, hargs, hp⟩ := h
  have lvs : vs.length = ps.length := hn
  have er : ER K ⟨G, H, fun i p => msk = some i ∧ vs[i]? = some (.ref p)⟩ G H (L2.start N vs) (startD msk N.length ds) := by
    refine ⟨by rw [startD, L2.start, List.length_append, List.length_append, argsN_length, List.length_map, List.length_replicate, List.length_replicate]; omega, eg, fun a o h _ => h, fun a h => h, fun a o h => .inl h, fun i sv h => ?_, fun i d p h1 h2 => ?_, fun i j s t p h1 h2 m1 m2 h3 h4 => ?_, fun i p h => ?_, fun i d p h1 h2 => ?_⟩
    · obtain ⟨d, h1, rfl⟩ := startD_some h
      obtain ⟨v, h2, h3⟩ := hargs i d h1
      exact ⟨v, start_get h2, h3⟩
    · obtain ⟨d', h3, h4⟩ := startD_some h1
      unfold argS at h4
      split at h4 <;> cases h4
    · obtain ⟨d, k1, rfl⟩ := startD_some h1
      obtain ⟨e, k2, rfl⟩ := startD_some h2
      unfold argS at m1 m2
      split at m1
      · split at m2
        · rename_i q1 q2
          rw [q1] at q2
          exact Option.some.inj q2
        · cases m2
      · cases m1
    · obtain ⟨h1, h2⟩ := h
      obtain ⟨d, hd'⟩ : ∃ d, ds[i]? = some d := ⟨_, List.getElem?_eq_getElem (by rw [hd, ← lvs]; exact (List.getElem?_eq_some_iff.mp h2).1)⟩
      refine ⟨d, ?_, start_get h2⟩
      unfold startD
      rw [List.getElem?_append_left (by rw [argsN_length]; exact (List.getElem?_eq_some_iff.mp hd').1), argsN_get, hd', Nat.zero_add]
      simp [argS, h1]
    · obtain ⟨d', h3, h4⟩ := startD_some h1
      unfold argS at h4
      split at h4
      · rename_i q
        exact ⟨q, start_back h2⟩
      · cases h4
  refine ⟨_, G, _, er, ?_⟩
  unfold runD at hp
  cases hg : g (startD msk N.length ds) with
  | bad => rw [hg] at hp; exact hp.elim
  | err c =>
    rw [hg] at hp
    cases msk with
    | some i => exact hp.elim
    | none => exact fun σ' δ' G' H' e1 r1 => hp.2 H' fun a o h => r1.fr a o h fun i z => by cases z.1
  | ok y =>
    obtain ⟨fl, δ'⟩ := y
    rw [hg] at hp
    have fin : ∀ d, PoD K cl msk kr vs G H (outD msk d δ') Q E → ∀ (σ' : L2.St) (H' G' : Hp), Ex G G' → ER K ⟨G, H, fun i p => msk = some i ∧ vs[i]? = some (.ref p)⟩ G' H' σ' δ' → ∀ v, Res K ⟨G, H, fun i p => msk = some i ∧ vs[i]? = some (.ref p)⟩ G' H' σ' δ' kr v d → Q v H' := by
      intro d hq σ' H' G' e1 r1 v rv
      have res : RetR K G' H' H kr v d := by
        cases kr with
        | F => exact rv
        | O =>
          obtain ⟨p, o, h1, h2, h3, h4, h5, _⟩ := rv
          exact ⟨p, o, h1, h2, h3, h4, h5⟩
        | B => exact absurd rfl hkr
      have fr : ∀ a o, H a = some o → (∀ i, msk = some i → vs[i]? ≠ some (.ref a)) → H' a = some o := fun a o h1 h2 => r1.fr a o h1 fun i z => h2 i z.1 z.2
      cases msk with
      | none => exact hq v H' G' e1 r1.ext r1.cons fr (fun i z => by cases z) res
      | some i =>
        cases hs : δ'[i]? with
        | none => simp only [outD, hs] at hq; exact hq.elim
        | some o =>
          cases o with
          | none => simp only [outD, hs] at hq; exact hq.elim
          | some sv =>
            cases sv with
            | v d' => simp only [outD, hs] at hq; exact hq.elim
            | m d' => simp only [outD, hs] at hq; exact hq.elim
            | a e =>
              simp only [outD, hs] at hq
              refine hq v H' G' e1 r1.ext r1.cons fr (fun j z => ?_) res
              cases z
              obtain ⟨p, o, k1, k2, k3, k4, _⟩ := r1.isMut hs rfl
              exact ⟨e, p, o, rfl, (r1.ancI i e p hs k1).2, k2, k3, k4⟩
    cases fl with
    | rt d => exact fin d hp
    | nx =>
      intro σ' H' G' e1 r1
      cases kr with
      | F => exact fin .none hp σ' H' G' e1 r1 .non .non
      | O => exact absurd hg (hko rfl _ _)
      | B => exact absurd rfl hkr
    | bk => exact hp.elim
    | ct => exact hp.elim
/-- THE RULE for a def: its body's sense -/
theorem fn_d {x qual : Str} {st : Stmt} {f : Addr} {fd : FuncData} {N ps : List Str} {k : Nat} {msk : Option Nat} {kr : Kd} {g : Dv → Rs (Fl × Dv)} (hkr : kr ≠ .B) (hko : kr = .O → ∀ δ δ', g δ ≠ .ok (.nx, δ')) (F : Fun K x qual st f fd) (S : FnScope N ps (defScope st))
    (hbody : ∀ (cdv : Value) (A : Around) (outer : List Env) (s : Shared) (H : Hp) (E : XK), Room k (A.deeper (PyProof.Rows.envOfC qual (defScope st) s.heap.objs.size f cdv)) →
      Pss (cxOf (L2N.CX P w) P w K mg base N qual (defScope st) f cdv A outer s H E) cl (fun c d _ H => E c d H) kr (defBody st) g) :
    FnOk P w K mg base (L2N.CX P w) (k + 1) f fd ps (spD K cl ps.length msk kr (runD N.length msk g)) := by
  obtain ⟨oc, od, kV, doc, pm, an, cdv, ct, osl, rfl, lk, hc⟩ := F.ex
  refine fn_of lk hc S (fun vs H Q E h => h.1) fun A outer s H vs Q E hr h => ⟨_, hbody cdv A outer s H E hr, d_go hkr hko (pre_le S) h⟩
end

section
variable {X : Cx} {cl : Str → Value} {W : WX} {kr : Kd} {a b c e : Expr} {es : List Expr} {fa fb : Dv → Rs (PyData × Dv)} {ga : Dv → Rs (List PyData × Dv)} {pos p p2 : Pos} {f : Addr} {fd : FuncData} {ps : List Str} {k n : Nat} {x y : Str} {S : Sm} {CX : CXT}
/-- behind a call that changes nothing of ours -/
theorem ER.after {K : PySem.W.Frag} {F : Fm} {G H G2 H2 : Hp} {σ : L2.St} {δ : Dv} (r : ER K F G H σ δ) (e1 : Ex G G2) (e2 : Ex G2 H2) (hc : ∀ a o, G2 a = some o → G a = some o ∨ H a = none) (hk : ∀ a o, H a = some o → H2 a = some o) : ER K F G2 H2 σ δ :=
  r.go e1 e2 (fun a o h => by
    rcases hc a o h with z | z
    · exact r.cons a o z
    · exact .inr (r.h0 z)) (fun q m => by
    obtain ⟨m1, m2⟩ := r.mut_there m
    cases hg : G2 q with
    | none => rfl
    | some u =>
      rcases hc q u hg with z | z
      · rw [m2] at z; cases z
      · exact absurd z m1) hk
/-- .. but for one of our objects -/
theorem ER.afterM {K : PySem.W.Frag} {F : Fm} {G H G2 H2 : Hp} {σ : L2.St} {δ : Dv} {i : Nat} {s : SV} {q : Addr} {o2 : HO} {d2 : PyData} (r : ER K F G H σ δ) (hi : δ[i]? = some (some s)) (hm : s.mut = true) (hq : σ[i]? = some (some (.ref q)))
    (e1 : Ex G G2) (e2 : Ex G2 H2) (hc : ∀ a o, G2 a = some o → G a = some o ∨ H a = none) (hk : ∀ a o, H a = some o → a ≠ q → H2 a = some o) (g2 : G2 q = none) (h2 : H2 q = some o2) (hd : hoD K G2 o2 d2) : ER K F G2 H2 σ (δ.set i (some (s.put d2))) := by
  obtain ⟨q', o1, k1, k2, k3, k4, _⟩ := r.isMut hi hm
  rw [hq] at k1
  cases k1
  have r1 : ER K F G2 (upd H2 q o1) σ δ := r.after e1 (Ex.mut e2 g2) hc fun a o h => by
    by_cases ha : a = q
    · subst ha; rw [k3] at h; cases h; exact upd_same
    · rw [upd_ne ha]; exact hk a o h ha
  have r2 := r1.wr hi hm hq hd
  have e : upd (upd H2 q o1) q o2 = H2 := by
    rw [upd_upd]
    funext a
    by_cases ha : a = q
    · subst ha; rw [upd_same, h2]
    · rw [upd_ne ha]
  rw [e] at r2
  exact r2
def fCall (S : Sm) (g : Dv → Rs (List PyData × Dv)) : Dv → Rs (PyData × Dv) := fun δ => (g δ).bind fun x => (S x.1).bind fun y => .ok (y.1, x.2)
def retK : Kd → Kd
  | .O => .O
  | _ => .F
theorem call_sense {K : PySem.W.Frag} {kr : Kd} {σ : L2.St} {H : Hp} {Q : VK} (hlen : ∀ δ r, ga δ = .ok r → r.1.length = n) : tM K cl W (retK kr) (fCall S ga) σ H Q → tCallS (spD K cl n none kr S) (fun σ c d H => W c d σ H) (tA K cl W ga) σ H Q :=
  fun ⟨F, G, δ, er, pp⟩ => ⟨F, G, δ, er, by
    unfold fCall at pp
    cases hga : ga δ with
    | bad => rw [hga] at pp; exact pp
    | err c => rw [hga] at pp; exact pp
    | ok r =>
      have hl := hlen δ r hga
      rw [hga] at pp
      intro vs H1 G1 e1 r1 rv
      have lv : vs.length = n := by rw [rv.length, hl]
      refine ⟨lv, G1, r.1, r1.ext, hl, fun i d hd => ?_, ?_⟩
      · obtain ⟨v, h1, h2⟩ := rv.getD hd
        exact ⟨v, h1, h2⟩
      · have pq := Po.mono pp e1
        simp only [Rs.bind_ok] at pq
        cases hS : S r.1 with
        | bad => rw [hS] at pq; exact pq
        | err c =>
          rw [hS] at pq
          exact ⟨rfl, fun H2 hk2 => pq σ r.2 G1 H2 (Ex.refl G1) (r1.after (Ex.refl G1) (r1.ext.trans hk2) (fun a o h => .inl h) hk2)⟩
        | ok y =>
          rw [hS] at pq
          intro v H2 G2 e2 e3 hc hkk _ res
          have r2 := r1.after e2 e3 hc fun a o h => hkk a o h fun i z => by cases z
          refine pq v H2 G2 e2 r2 ?_
          cases kr with
          | F => exact res
          | B => exact res
          | O =>
            obtain ⟨q, o, h1, h2, h3, h4, h5⟩ := res
            exact ⟨q, o, h1, h2, h3, h4, r1.h0 h5, fun ⟨i, s, m1, m2, m3⟩ => (r1.mut_there ⟨i, s, m1, m2, m3⟩).1 h5⟩⟩
theorem m_call0 {e0 : Expr} (kr : Kd) (h : PE X e0 (tCallS (spD X.K cl n none kr S) (fun σ c d H => W c d σ H) (tA X.K cl W ga))) (hlen : ∀ δ r, ga δ = .ok r → r.1.length = n) : Pm X cl W (retK kr) e0 (fCall S ga) :=
  pe_weak h fun σ H Q q => call_sense hlen q
/-- a call of a def -/
theorem m_call (kr : Kd) (Fn : FnOk X.prog X.w X.K X.mg X.base (L2N.CX X.prog X.w) k f fd ps (spD X.K cl n none kr S)) (hr : Room k X.A) (tk : L2N.Takes X W) (hg : Gl X x) (hm : X.mg x = some (.ref f)) (hk : PySem.W.keepIn X.K (.ref f) = true) (hb : Binds X.K fd ps [])
    (ha : Pa X cl W (e :: es) ga) (hlen : ∀ δ r, ga δ = .ok r → r.1.length = n) (hdb : (x == ("__debug__" : Str)) = false) (he : starEach (e :: es) X.env = (false, eval e X.env) :: starEach es X.env) (hpl : (backTo pos (starEach es X.env)).any (·.1) = false) :
    Pm X cl W (retK kr) (.Call (.Name x p) (e :: es) [] pos) (fCall S ga) :=
  m_call0 kr (pe_callS Fn hr hg hm hk hb (fun σ => L2N.passAt tk σ) ha hdb he hpl) hlen
/-- the first argument is one of our objects and is changed -/
def fCallM (S : Sm) (i : Nat) (g : Dv → Rs (List PyData × Dv)) : Dv → Rs (PyData × Dv) := fun δ => match δ[i]? with
  | some (some _) => (g δ).bind fun x => match x.2[i]? with
    | some (some s) => if s.mut = true then (noErr (S (s.data :: x.1))).bind fun y => (match y.2 with
        | some e => .ok (y.1, x.2.set i (some (s.put e)))
        | none => .bad) else .bad
    | _ => .bad
  | _ => .bad
theorem m_callM (kr : Kd) (i : Nat) (Fn : FnOk X.prog X.w X.K X.mg X.base (L2N.CX X.prog X.w) k f fd ps (spD X.K cl (n + 1) (some 0) kr S)) (hr : Room k X.A) (tk : L2N.Takes X W) (hg : Gl X x) (hm : X.mg x = some (.ref f)) (hk : PySem.W.keepIn X.K (.ref f) = true) (hb : Binds X.K fd ps [])
    (hv : PE X (.Name y p2) (tVar i)) (ha : Pa X cl W es ga) (hlen : ∀ δ r, ga δ = .ok r → r.1.length = n) (hdb : (x == ("__debug__" : Str)) = false) (he : starEach (.Name y p2 :: es) X.env = (false, eval (.Name y p2) X.env) :: starEach es X.env) (hpl : (backTo pos (starEach es X.env)).any (·.1) = false) :
    Pm X cl W (retK kr) (.Call (.Name x p) (.Name y p2 :: es) [] pos) (fCallM S i ga) :=
  pe_weak (pe_callS Fn hr hg hm hk hb (fun σ => L2N.passAt tk σ) (pa_cons hv ha he) hdb he hpl) fun σ H Q ⟨F, G, δ, er, pp⟩ => by
    unfold fCallM at pp
    cases hi : δ[i]? with
    | none => rw [hi] at pp; exact pp.elim
    | some o0 =>
    cases o0 with
    | none => rw [hi] at pp; exact pp.elim
    | some s0 =>
    rw [hi] at pp
    simp only at pp
    obtain ⟨v0, hv0, _⟩ := er.slot i s0 hi
    refine ⟨v0, hv0, F, G, δ, er, ?_⟩
    cases hga : ga δ with
    | bad => rw [hga] at pp; exact pp
    | err c => rw [hga] at pp; exact pp
    | ok r =>
      have hl := hlen δ r hga
      rw [hga] at pp
      intro vs H1 G1 e1 r1 rv
      have pq := Po.mono pp e1
      simp only [Rs.bind_ok] at pq
      cases hi2 : r.2[i]? with
      | none => rw [hi2] at pq; exact pq.elim
      | some o1 =>
      cases o1 with
      | none => rw [hi2] at pq; exact pq.elim
      | some s =>
      rw [hi2] at pq
      simp only at pq
      have hmu : s.mut = true := by
        by_cases hmu : s.mut = true
        · exact hmu
        · rw [if_neg hmu] at pq; exact pq.elim
      rw [if_pos hmu] at pq
      obtain ⟨q, oq, k1, k2, k3, k4, _⟩ := r1.isMut hi2 hmu
      rw [hv0] at k1
      cases k1
      have lv : (V.ref q :: vs).length = n + 1 := by rw [List.length_cons, rv.length, hl]
      refine ⟨lv, G1, s.data :: r.1, r1.ext, by rw [List.length_cons, hl], fun j d hd => ?_, ?_⟩
      · cases j with
        | zero => cases hd; exact ⟨_, rfl, q, oq, rfl, k2, k3, k4⟩
        | succ j =>
          obtain ⟨v, h1, h2⟩ := rv.getD hd
          refine ⟨v, h1, ?_⟩
          have : argS (some 0) (j + 1) d = .v d := by simp [argS]
          rw [this]
          exact h2
      · cases hS : S (s.data :: r.1) with
        | bad => rw [hS] at pq; exact pq
        | err c =>
          rw [hS] at pq
          exact pq.elim
        | ok z =>
          rw [hS] at pq
          intro v H2 G2 e2 e3 hc hkk hout res
          obtain ⟨e', q', o2, w1, w2, w3, w4, w5⟩ := hout 0 rfl
          cases w2
          simp only [noErr_ok, Rs.bind_ok, w1] at pq
          have r2 := r1.afterM hi2 hmu hv0 e2 e3 hc (fun a o h hne => hkk a o h fun j z1 z2 => by cases z1; cases z2; exact hne rfl) w3 w4 w5
          refine pq v H2 G2 e2 r2 ?_
          cases kr with
          | F => exact res
          | B => exact res
          | O =>
            obtain ⟨u, o, h1, h2, h3, h4, h5⟩ := res
            refine ⟨u, o, h1, h2, h3, h4, r1.h0 h5, fun ⟨j, t, m1, m2, m3⟩ => ?_⟩
            rcases set_get m1 with ⟨rfl, g1, _⟩ | ⟨hj, g1⟩
            · rw [hv0] at m3; cases m3
              rw [k3] at h5; cases h5
            · exact (r1.mut_there ⟨j, t, g1, m2, m3⟩).1 h5
end
end Pw

set_option maxRecDepth 100000
set_option maxHeartbeats 3900000
/-! ## 8. raise; subscripts; built-ins; methods -/
namespace Pw
open PySem L2
open Evl (Ex ex_rd fresh_back)

section
variable {X : Cx} {cl : Str → Value} {W : WX} {kr : Kd} {a b c e : Expr} {es : List Expr} {fa fb : Dv → Rs (PyData × Dv)} {pos p p2 pos2 : Pos}
theorem takes_w0 {X : Cx} : L2N.Takes X W0 := fun u s' ⟨_, _, _, _, _, _, _, _, _, _, _, _, _, _, _, _, z⟩ => z.elim
def gErr (c : Str) : Dv → Rs (Fl × Dv) := fun _ => .err c
theorem s_raise {x m : Str} {j : Nat} {C : Addr} {bmB : List Value} {B newId initId : String} (hc : X.calm = true) (tk : L2N.Takes X W) (F : ExcBaseFacts B newId initId bmB) (q : PySem.W.excIn X.K C bmB newId = true) (gC : X.mg x = some (.ref C)) (kC : PySem.W.keepIn X.K (.ref C) = true)
    (r : Raises X (.ref C)) (hg : Gl X x) (hcl : cl x = .ref C) (hdb : (x == ("__debug__" : Str)) = false) : Ps X cl W kr (.Raise (some (.Call (.Name x p) [.Constant (.str m) j p2] [] pos)) none pos2) (gErr x) :=
  ps_weak (L2N.ps_raise hc tk (L2N.pmk_own F q gC kC r hg hdb)) fun D σ H ⟨F, G, δ, er, pp⟩ => by
    have h := pp σ δ G H (Ex.refl G) er
    rw [hcl] at h
    exact h

/-! ### x[i] -/
theorem atI_some {vs : List V} {ds : List PyData} {K : PySem.W.Frag} {G : Hp} {i : Int} {d : PyData} (r : RpA K G vs ds) (h : atI ds i = some d) : ∃ v, atI vs i = some v ∧ Rp K G v d := by
  unfold atI at h ⊢
  rw [r.length]
  cases hi : ixN ds.length i with
  | none => rw [hi] at h; cases h
  | some j =>
    rw [hi] at h
    obtain ⟨v, h1, h2⟩ := r.getD h
    exact ⟨v, h1, h2⟩
def scrL : List (PyData × PyData) → Option (List PyData)
  | [(.none, .list ds)] => (ints? ds).map fun _ => ds
  | _ => none
def ixD : PyData → Int → Option PyData
  | .list ds, i => atI ds i
  | .tuple ds, i => atI ds i
  | .str z, i => if z.length ≤ sizeLine then (atI z.cps.toList i).map fun c => .str ⟨#[c]⟩ else none
  | .dict es, i => (scrL es).bind fun ds => atI ds i
  | _, _ => none
def oIx (x y : PyData) : Option PyData := match y with
  | .int i => ixD x i
  | _ => none
theorem ints_self : ∀ ns : List Int, ints? (ns.map PyData.int) = some ns
  | [] => rfl
  | n :: ns => by rw [List.map_cons, ints?, ints_self ns]; rfl
theorem rpa_ints {K : PySem.W.Frag} {G : Hp} : ∀ ns : List Int, RpA K G (ns.map V.int) (ns.map PyData.int)
  | [] => .nil
  | n :: ns => .cons (.int n) (rpa_ints ns)
/-- a caught error -/
def excB : List (PyData × PyData) → Bool
  | [(.none, .list (.none :: _))] => true
  | _ => false
def scrG (es : List (PyData × PyData)) : Bool := (scrL es).isSome || excB es
theorem excB_no {K : PySem.W.Frag} {G : Hp} {o : HO} {kvs : List (PyData × V)} {es : List (PyData × PyData)} (hk : hoKV o = some kvs) (r : RpK K G kvs es) : excB es = false := by
  cases r with
  | nil => rfl
  | @cons k v kvs d es r1 r2 =>
    cases k <;> try rfl
    cases o with
    | dT l =>
      simp only [hoKV, Option.some.injEq, List.cons.injEq, Prod.mk.injEq] at hk
      obtain ⟨⟨_, rfl⟩, _⟩ := hk
      cases r1
      rfl
    | dK l =>
      simp only [hoKV, Option.some.injEq] at hk
      cases l with
      | nil => cases hk
      | cons p q =>
        rw [List.map_cons] at hk
        have z := congrArg Prod.fst (List.cons.inj hk).1
        obtain ⟨c, _⟩ := p
        cases c <;> cases z
    | _ => cases hk
/-- a dict of ours is not the script -/
theorem scrL_no {K : PySem.W.Frag} {G : Hp} {o : HO} {kvs : List (PyData × V)} {es : List (PyData × PyData)} (hk : hoKV o = some kvs) (r : RpK K G kvs es) : scrL es = none := by
  cases r with
  | nil => rfl
  | @cons k v kvs d es r1 r2 =>
    cases es with
    | cons p q => cases k <;> cases d <;> rfl
    | nil =>
      cases k with
      | none =>
        cases o with
        | dK l =>
          simp only [hoKV, Option.some.injEq] at hk
          cases l with
          | nil => cases hk
          | cons p l =>
            obtain ⟨kk, vv⟩ := p
            cases kk <;> cases hk
        | dT l =>
          simp only [hoKV, Option.some.injEq] at hk
          have hv : v = .non := (Prod.mk.inj (List.cons.inj hk).1).2.symm
          subst hv
          cases r1
          rfl
        | _ => cases hk
      | _ => rfl
theorem scrL_yes (ns : List Int) : scrL [(.none, .list (ns.map .int))] = some (ns.map .int) := by simp [scrL, ints_self]
theorem is_ix {K : PySem.W.Frag} : Is2 K .F oIx (rIx K) := by
  intro F G H σ δ x y dx dy d Q er rx ry ho k
  unfold oIx at ho
  split at ho
  · rename_i i
    obtain rfl := rp_int ry
    cases rx with
    | lst h r =>
      obtain ⟨v, h1, h2⟩ := atI_some r ho
      exact .inl ⟨_, _, i, v, rfl, rfl, SqL.of (er.ext _ _ h), h1, k v H G (Ex.refl G) er h2⟩
    | tup h r =>
      obtain ⟨v, h1, h2⟩ := atI_some r ho
      exact .inr (.inl ⟨_, _, i, v, rfl, rfl, SqT.of (er.ext _ _ h), h1, k v H G (Ex.refl G) er h2⟩)
    | str z =>
      simp only [ixD] at ho
      split at ho
      · rename_i hz
        cases hc : atI z.cps.toList i with
        | none => rw [hc] at ho; cases ho
        | some c =>
          rw [hc] at ho
          cases ho
          exact .inr (.inr ⟨z, i, c, rfl, rfl, hz, hc, k _ H G (Ex.refl G) er (.str _)⟩)
      · cases ho
    | @scr a ns h =>
      simp only [ixD, scrL_yes, Option.bind_some] at ho
      obtain ⟨v, h1, h2⟩ := atI_some (rpa_ints (K := K) (G := G) ns) ho
      exact .inl ⟨_, _, i, v, rfl, rfl, Evl.ex_l er.ext h, h1, k v H G (Ex.refl G) er h2⟩
    | @dct a o kvs es h hk r =>
      simp only [ixD, scrL_no hk r, Option.bind_none] at ho
      cases ho
    | exc a => simp [ixD, excD, scrL, ints?] at ho
    | non => cases ho
    | bl b => cases ho
    | int j => cases ho
  · cases ho
theorem m_ixs (ha : Pm X cl W .F a fa) (hb : Pm X cl W .F b fb) (hs : PlainIx b) : Pm X cl W .F (.Subscript a b pos) (f2 oIx fa fb) := m_ix ix_seq is_ix ha hb hs
/-- the object of a slot, looked into -/
def fIxv (i : Nat) (fb : Dv → Rs (PyData × Dv)) : Dv → Rs (PyData × Dv) := fun δ => match δ[i]? with
  | some (some _) => (fb δ).bind fun y => (match y.2[i]? with
    | some (some s) => lift (oIx s.data y.1) y.2
    | _ => .bad)
  | _ => .bad
theorem m_ixv (i : Nat) {x : Str} (hv : PE X (.Name x p) (tVar i)) (hb : Pm X cl W .F b fb) (hs : PlainIx b) : Pm X cl W .F (.Subscript (.Name x p) b pos) (fIxv i fb) :=
  pe_weak (pe_ix ix_seq hv hb hs) fun σ H Q ⟨F, G, δ, er, pp⟩ => by
    unfold fIxv at pp
    cases hi : δ[i]? with
    | none => rw [hi] at pp; exact pp.elim
    | some o0 =>
    cases o0 with
    | none => rw [hi] at pp; exact pp.elim
    | some s0 =>
    rw [hi] at pp
    simp only at pp
    obtain ⟨v0, hv0, _⟩ := er.slot i s0 hi
    refine ⟨v0, hv0, F, G, δ, er, Po.bind pp fun dy δ2 y H2 G2 e2 r2 ry p2 => ?_⟩
    cases hi2 : δ2[i]? with
    | none => simp only [hi2] at p2; exact p2.elim
    | some o1 =>
    cases o1 with
    | none => simp only [hi2] at p2; exact p2.elim
    | some s =>
    simp only [hi2] at p2
    obtain ⟨v1, hv1, ok⟩ := r2.slot i s hi2
    rw [hv0] at hv1
    cases hv1
    cases ho : oIx s.data dy with
    | none => rw [ho] at p2; exact p2.elim
    | some d =>
    rw [ho] at p2
    by_cases hm : s.mut = true
    · obtain ⟨q, o, rfl, g1, h1, hd⟩ := ok.muts hm
      rcases hd with ⟨xs, ds, rfl, ra, ed⟩ | ⟨kvs, es, hk, rk, ed⟩
      · rw [ed] at ho
        unfold oIx at ho
        split at ho
        · rename_i j
          obtain rfl := rp_int ry
          obtain ⟨v, k1, k2⟩ := atI_some ra ho
          exact .inl ⟨q, xs, j, v, rfl, rfl, SqL.of h1, k1, p2 v H2 G2 (Ex.refl G2) r2 k2⟩
        · cases ho
      · rw [ed] at ho
        unfold oIx at ho
        split at ho
        · simp only [ixD, scrL_no hk rk, Option.bind_none] at ho
          cases ho
        · cases ho
    · cases s with
      | v d0 => exact is_ix F G2 H2 σ δ2 v0 y d0 dy d Q r2 ok ry ho fun v H3 G3 e3 r3 rv => p2 v H3 G3 e3 r3 rv
      | m d0 => exact absurd rfl hm
      | a d0 => exact absurd rfl hm

/-! ### slices -/
def cutD (xs : List PyData) (lo hi : Option Int) : List PyData := (xs.drop (HT.sIx xs.length 0 lo)).take (HT.sIx xs.length xs.length hi - HT.sIx xs.length 0 lo)
theorem RpA.cut {K : PySem.W.Frag} {G : Hp} {vs : List V} {ds : List PyData} (r : RpA K G vs ds) (lo hi : Option Int) : RpA K G (cutV vs lo hi) (cutD ds lo hi) := by
  unfold cutV cutD
  rw [r.length]
  exact (r.drop _).take _
/-- a part of a slice -/
abbrev Dpt := Option (Dv → Rs (PyData × Dv))
def ptR : Dpt → Dv → Rs (Option Int × Dv)
  | none, δ => .ok (none, δ)
  | some f, δ => (f δ).bind fun x => onI x.1 fun i => .ok (some i, x.2)
def PoO (K : PySem.W.Frag) (cl : Str → Value) (W : WX) (F : Fm) (σ : L2.St) (G : Hp) (r : Rs (Option Int × Dv)) (Q : Option Int → Hp → Prop) : Prop := match r with
  | .ok x => ∀ (H2 G2 : Hp), Ex G G2 → ER K F G2 H2 σ x.2 → Q x.1 H2
  | .err c => Wis K cl W F G c
  | .bad => False
def tOD (K : PySem.W.Frag) (cl : Str → Value) (W : WX) (o : Dpt) : TO := fun σ H Q => ∃ (F : Fm) (G : Hp) (δ : Dv), ER K F G H σ δ ∧ PoO K cl W F σ G (ptR o δ) Q
theorem po_weak {e : Option Expr} {t t' : TO} (h : PO X e t) (w : ∀ σ H Q, t' σ H Q → t σ H Q) : PO X e t' := ⟨fun pins s σ H Q I q => h.run pins s σ H Q I (w _ _ _ q)⟩
theorem o_none : PO X none (tOD X.K cl W none) := po_weak po_none fun σ H Q ⟨F, G, δ, er, pp⟩ => pp H G (Ex.refl G) er
theorem o_some (h : Pm X cl W .F a fa) : PO X (some a) (tOD X.K cl W (some fa)) := po_weak (po_some h) fun σ H Q ⟨F, G, δ, er, pp⟩ => ⟨F, G, δ, er, by
  have pp : PoO X.K cl W F σ G ((fa δ).bind fun x => onI x.1 fun i => .ok (some i, x.2)) Q := pp
  cases hf : fa δ with
  | ok y =>
    rw [hf] at pp
    intro v H2 G2 e1 r1 rv
    obtain ⟨d, δ1⟩ := y
    cases rv with
    | int i => exact ⟨i, rfl, pp H2 G2 e1 r1⟩
    | _ => exact pp.elim
  | err c => rw [hf] at pp; exact pp
  | bad => rw [hf] at pp; exact pp⟩
def oCut (d : PyData) (lo hi : Option Int) : Option PyData := match d with
  | .list ds => some (.list (cutD ds lo hi))
  | .tuple ds => some (.tuple (cutD ds lo hi))
  | _ => none
def fCut (fa : Dv → Rs (PyData × Dv)) (lo hi : Dpt) : Dv → Rs (PyData × Dv) := fun δ => (fa δ).bind fun x => (ptR lo x.2).bind fun l => (ptR hi l.2).bind fun h => lift (oCut x.1 l.1 h.1) h.2
theorem cut_whole {xs : List V} {lo hi : Option Int} (h : HT.sIx xs.length 0 lo = 0 ∧ HT.sIx xs.length xs.length hi = xs.length) : cutV xs lo hi = xs := by
  unfold cutV
  rw [h.1, h.2, List.drop_zero, Nat.sub_zero, List.take_length]
theorem m_cut {lo hi : Option Expr} {dl dh : Dpt} (ha : Pm X cl W .F a fa) (hl : PO X lo (tOD X.K cl W dl)) (hh : PO X hi (tOD X.K cl W dh)) : Pm X cl W .F (.Subscript a (.Slice lo hi none p2) pos) (fCut fa dl dh) :=
  pe_weak (pe_slice (sl_list.or sl_tupA) ha hl hh) fun σ H Q ⟨F, G, δ, er, pp⟩ => ⟨F, G, δ, er, Po.bind pp fun dx δ1 x H1 G1 e1 r1 rx p1 => ⟨F, G1, δ1, r1, by
    cases hd : ptR dl δ1 with
    | bad => rw [hd] at p1; exact p1
    | err c => rw [hd] at p1; exact p1
    | ok l =>
      rw [hd] at p1
      intro H2 G2 e2 r2
      refine ⟨F, G2, l.2, r2, ?_⟩
      have p2 := Po.mono p1 e2
      simp only [Rs.bind_ok] at p2
      cases hd2 : ptR dh l.2 with
      | bad => rw [hd2] at p2; exact p2
      | err c => rw [hd2] at p2; exact p2
      | ok h =>
        rw [hd2] at p2
        intro H3 G3 e3 r3
        have p3 := Po.mono p2 e3
        simp only [Rs.bind_ok] at p3
        have rx3 := Rp.mono e3 (Rp.mono e2 rx)
        cases dx with
        | list ds =>
          obtain ⟨q, xs, rfl, h1, ra⟩ := rp_lst rx3
          refine .inl ⟨q, xs, rfl, SqL.of (r3.ext _ _ h1), fun u hu => ?_⟩
          have w := own_new (o := .lst (cutV xs l.1 h.1)) (d := .list (cutD ds l.1 h.1)) r3 hu (.inl ⟨_, _, rfl, ra.cut _ _, rfl⟩)
          obtain ⟨G4, e4, r4, r5⟩ := res_f_of_o w.1 w.2
          exact p3 _ _ G4 e4 r4 r5
        | tuple ds =>
          obtain ⟨q, xs, rfl, h1, ra⟩ := rp_tup rx3
          refine .inr ⟨q, xs, rfl, SqT.of (r3.ext _ _ h1), fun hw => ?_, fun hw u hu => ?_⟩
          · have rc := ra.cut l.1 h.1
            rw [cut_whole hw] at rc
            exact p3 _ H3 G3 (Ex.refl G3) r3 (.tup h1 rc)
          · obtain ⟨w1, w2, w3⟩ := new_tup r3 hu (ra.cut l.1 h.1)
            exact p3 _ _ _ w1 w2 w3
        | _ => exact p3.elim⟩⟩

/-! ### built-ins of one value -/
def Is1 (K : PySem.W.Frag) (kd : Kd) (op : PyData → Option PyData) (r : List V → Hp → VK → Prop) : Prop :=
  ∀ (F : Fm) (G H : Hp) (σ : L2.St) (δ : Dv) (x : V) (dx d : PyData) (Q : VK), ER K F G H σ δ → Res K F G H σ δ .B x dx → op dx = some d →
    (∀ (v : V) (H2 G2 : Hp), Ex G G2 → ER K F G2 H2 σ δ → Res K F G2 H2 σ δ kd v d → Q v H2) → r [x] H Q
theorem Is1.or {K : PySem.W.Frag} {kd : Kd} {p p' : PyData → Option PyData} {r r' : List V → Hp → VK → Prop} (h : Is1 K kd p r) (h' : Is1 K kd p' r') : Is1 K kd (fun x => (p x).or (p' x)) (fun xs H Q => r xs H Q ∨ r' xs H Q) := fun F G H σ δ x dx d Q e rx ho k => by
  cases hp : p dx with
  | some d1 =>
    simp only [hp, Option.or] at ho
    cases ho
    exact .inl (h F G H σ δ x dx d Q e rx hp k)
  | none =>
    simp only [hp, Option.or] at ho
    exact .inr (h' F G H σ δ x dx d Q e rx ho k)
theorem Is1.imp {K : PySem.W.Frag} {kd : Kd} {p p' : PyData → Option PyData} {r : List V → Hp → VK → Prop} (h : Is1 K kd p r) (hp : ∀ x d, p' x = some d → p x = some d) : Is1 K kd p' r := fun F G H σ δ x dx d Q e rx ho k => h F G H σ δ x dx d Q e rx (hp _ _ ho) k
theorem Is1.f {K : PySem.W.Frag} {op : PyData → Option PyData} {r : List V → Hp → VK → Prop} (h : Is1 K .O op r) : Is1 K .F op r := fun F G H σ δ x dx d Q e rx ho k =>
  h F G H σ δ x dx d Q e rx ho fun v H2 G2 e2 r2 rv => by
    obtain ⟨G3, e3, r3, r4⟩ := res_f_of_o r2 rv
    exact k v H2 G3 (e2.trans e3) r3 r4
theorem go1 {K : PySem.W.Frag} {kd : Kd} {op : PyData → Option PyData} {r : List V → Hp → VK → Prop} (ho : Is1 K kd op r) {σ : L2.St} {H : Hp} {Q : VK} (h : tM K cl W kd (f1 op fa) σ H Q) : tCB r (tCons (tM K cl W .B fa) tNil) σ H Q := by
  obtain ⟨F, G, δ, e, p⟩ := h
  refine ⟨F, G, δ, e, Po.bind p fun dx δ1 x H1 G1 e1 r1 rx p1 => ?_⟩
  cases ho' : op dx with
  | none => simp only [ho', lift] at p1; exact p1.elim
  | some d =>
    simp only [ho', lift] at p1
    exact ho F G1 H1 σ δ1 x dx d Q r1 rx ho' fun v H3 G3 e3 r3 rv => p1 v H3 G3 e3 r3 rv
theorem m_b1 {x : Str} {id : String} {kd : Kd} {op : PyData → Option PyData} {r : List V → Hp → VK → Prop} (hc : CallR X (.builtin id) r) (hi : Is1 X.K kd op r) (hg : Gl X x) (hm : X.mg x = none) (hv : bootBuiltins x = some (.builtin id)) (ha : Pm X cl W .B a fa) (hn : x ≠ "__name__") (hdb : (x == ("__debug__" : Str)) = false)
    (he : starEach [a] X.env = (false, eval a X.env) :: starEach [] X.env) (hpl : (backTo pos (starEach [] X.env)).any (·.1) = false) : Pm X cl W kd (.Call (.Name x p) [a] [] pos) (f1 op fa) :=
  pe_weak (pe_callB hc hg hm hv (pa_cons ha pa_nil he) hn hdb he hpl) fun _ _ _ h => go1 hi h
theorem m_t1 {x : Str} {id : String} {kd : Kd} {op : PyData → Option PyData} {r : List V → Hp → VK → Prop} (hc : CallR X (.type id) r) (hi : Is1 X.K kd op r) (hg : Gl X x) (hm : X.mg x = none) (hv : bootBuiltins x = some (.type id)) (ha : Pm X cl W .B a fa) (hn : x ≠ "__name__") (hdb : (x == ("__debug__" : Str)) = false)
    (he : starEach [a] X.env = (false, eval a X.env) :: starEach [] X.env) (hpl : (backTo pos (starEach [] X.env)).any (·.1) = false) : Pm X cl W kd (.Call (.Name x p) [a] [] pos) (f1 op fa) :=
  pe_weak (pe_callTy hc hg hm hv (pa_cons ha pa_nil he) hn hdb he hpl) fun _ _ _ h => go1 hi h
/-- a list that can be read now -/
theorem res_lst {K : PySem.W.Frag} {F : Fm} {G H : Hp} {σ : L2.St} {δ : Dv} {v : V} {ds : List PyData} (e : ER K F G H σ δ) (h : Res K F G H σ δ .B v (.list ds)) : ∃ a xs, v = .ref a ∧ H a = some (.lst xs) ∧ RpA K G xs ds := by
  rcases h with h | ⟨p, o, rfl, h1, h2⟩
  · obtain ⟨a, xs, rfl, h1, h2⟩ := rp_lst h
    exact ⟨a, xs, rfl, e.ext _ _ h1, h2⟩
  · rcases h2 with ⟨xs, ds', rfl, r, ed⟩ | ⟨_, _, _, _, ed⟩
    · cases ed; exact ⟨p, xs, rfl, h1, r⟩
    · cases ed
theorem res_tup {K : PySem.W.Frag} {F : Fm} {G H : Hp} {σ : L2.St} {δ : Dv} {v : V} {ds : List PyData} (e : ER K F G H σ δ) (h : Res K F G H σ δ .B v (.tuple ds)) : ∃ a xs, v = .ref a ∧ H a = some (.tup xs) ∧ G a = some (.tup xs) ∧ RpA K G xs ds := by
  rcases h with h | ⟨p, o, rfl, h1, h2⟩
  · obtain ⟨a, xs, rfl, h1, h2⟩ := rp_tup h
    exact ⟨a, xs, rfl, e.ext _ _ h1, h1, h2⟩
  · rcases h2 with ⟨xs, ds', rfl, r, ed⟩ | ⟨_, _, _, _, ed⟩ <;> cases ed
theorem res_flat {K : PySem.W.Frag} {F : Fm} {G H : Hp} {σ : L2.St} {δ : Dv} {v : V} {d : PyData} (h : Res K F G H σ δ .B v d) (hd : ∀ ds, d ≠ .list ds) (hd2 : ∀ es, d ≠ .dict es) : Rp K G v d := by
  rcases h with h | ⟨p, o, rfl, h1, h2⟩
  · exact h
  · rcases h2 with ⟨xs, ds', _, _, ed⟩ | ⟨_, _, _, _, ed⟩
    · exact absurd ed (hd _)
    · exact absurd ed (hd2 _)
theorem res_scr {K : PySem.W.Frag} {F : Fm} {G H : Hp} {σ : L2.St} {δ : Dv} {v : V} {es : List (PyData × PyData)} {ds : List PyData} (e : ER K F G H σ δ) (h : Res K F G H σ δ .B v (.dict es)) (hs : scrL es = some ds) : ∃ (a : Addr) (ns : List Int), v = .ref a ∧ SqL K H a (ns.map V.int) ∧ ds = ns.map .int := by
  rcases h with h | ⟨p, o, rfl, h1, h2⟩
  · cases h with
    | scr q => rw [scrL_yes] at hs; cases hs; exact ⟨_, _, rfl, Evl.ex_l e.ext q, rfl⟩
    | exc a => simp [scrL, ints?] at hs
    | dct _ hk r => rw [scrL_no hk r] at hs; cases hs
  · rcases h2 with ⟨_, _, _, _, ed⟩ | ⟨kvs, es', hk, r, ed⟩
    · cases ed
    · cases ed; rw [scrL_no hk r] at hs; cases hs
def oLen : PyData → Option PyData
  | .list ds => some (.int ds.length)
  | .tuple ds => some (.int ds.length)
  | .str z => if z.length ≤ sizeLine then some (.int z.length) else none
  | .dict es => (scrL es).map fun ds => .int ds.length
  | _ => none
theorem is_len {K : PySem.W.Frag} : Is1 K .F oLen (fun xs H Q => ∃ x n, xs = [x] ∧ LenV K x H n ∧ Q (.int n) H) := by
  intro F G H σ δ x dx d Q er rx ho k
  cases dx with
  | list ds =>
    cases ho
    obtain ⟨a, xs, rfl, h1, r⟩ := res_lst er rx
    exact ⟨_, ds.length, rfl, .inl ⟨xs, SqL.of h1, r.length.symm⟩, k _ H G (Ex.refl G) er (.int _)⟩
  | tuple ds =>
    cases ho
    obtain ⟨a, xs, rfl, h1, _, r⟩ := res_tup er rx
    exact ⟨_, ds.length, rfl, .inr ⟨xs, SqT.of h1, r.length.symm⟩, k _ H G (Ex.refl G) er (.int _)⟩
  | str z =>
    simp only [oLen] at ho
    split at ho
    · rename_i hz
      cases ho
      obtain rfl := rp_str (res_flat rx (fun _ z => by cases z) fun _ z => by cases z)
      exact ⟨_, z.length, rfl, ⟨hz, rfl⟩, k _ H G (Ex.refl G) er (.int _)⟩
    · cases ho
  | dict es =>
    simp only [oLen] at ho
    cases hs : scrL es with
    | none => rw [hs] at ho; cases ho
    | some ds =>
      rw [hs] at ho
      cases ho
      obtain ⟨a, ns, rfl, h1, rfl⟩ := res_scr er rx hs
      exact ⟨_, (ns.map PyData.int).length, rfl, .inl ⟨_, h1, by rw [List.length_map, List.length_map]⟩, k _ H G (Ex.refl G) er (.int _)⟩
  | _ => cases ho
def bls? : List PyData → Option (List Bool)
  | [] => some []
  | .bool b :: r => (bls? r).map (b :: ·)
  | _ :: _ => none
theorem bls_of {K : PySem.W.Frag} {G : Hp} : ∀ {ds : List PyData} {bs : List Bool} {vs : List V}, bls? ds = some bs → RpA K G vs ds → vs = bs.map V.bl
  | [], bs, vs, h, r => by cases h; cases r; rfl
  | d :: ds, bs, vs, h, r => by
    cases r with
    | @cons v vs d ds r1 r2 =>
      cases d with
      | bool b =>
        cases h1 : bls? ds with
        | none => simp [bls?, h1] at h
        | some ms =>
          simp only [bls?, h1, Option.map_some, Option.some.injEq] at h
          subst h
          rw [rp_bl r1, bls_of h1 r2]
          rfl
      | _ => simp [bls?] at h
def oAll : PyData → Option PyData
  | .list ds => (bls? ds).map fun bs => .bool (bs.all id)
  | _ => none
def oAny : PyData → Option PyData
  | .list ds => (bls? ds).map fun bs => .bool (bs.any id)
  | _ => none
def oSum : PyData → Option PyData
  | .list ds => (ints? ds).map fun ns => .int ns.sum
  | _ => none
theorem is_all {K : PySem.W.Frag} : Is1 K .F oAll (rAll K) := by
  intro F G H σ δ x dx d Q er rx ho k
  cases dx with
  | list ds =>
    cases hb : bls? ds with
    | none => simp only [oAll, hb] at ho; cases ho
    | some bs =>
      simp only [oAll, hb] at ho
      cases ho
      obtain ⟨a, xs, rfl, h1, r⟩ := res_lst er rx
      obtain rfl := bls_of hb r
      exact ⟨a, bs, rfl, SqL.of h1, k _ H G (Ex.refl G) er (.bl _)⟩
  | _ => cases ho
theorem is_any {K : PySem.W.Frag} : Is1 K .F oAny (rAny K) := by
  intro F G H σ δ x dx d Q er rx ho k
  cases dx with
  | list ds =>
    cases hb : bls? ds with
    | none => simp only [oAny, hb] at ho; cases ho
    | some bs =>
      simp only [oAny, hb] at ho
      cases ho
      obtain ⟨a, xs, rfl, h1, r⟩ := res_lst er rx
      obtain rfl := bls_of hb r
      exact ⟨a, bs, rfl, SqL.of h1, k _ H G (Ex.refl G) er (.bl _)⟩
  | _ => cases ho
theorem is_sum {K : PySem.W.Frag} : Is1 K .F oSum (rSum K) := by
  intro F G H σ δ x dx d Q er rx ho k
  cases dx with
  | list ds =>
    cases hb : ints? ds with
    | none => simp only [oSum, hb] at ho; cases ho
    | some bs =>
      simp only [oSum, hb] at ho
      cases ho
      obtain ⟨a, xs, rfl, h1, r⟩ := res_lst er rx
      obtain ⟨rfl, _⟩ := ints_of hb r
      exact ⟨a, bs, rfl, SqL.of h1, k _ H G (Ex.refl G) er (.int _)⟩
  | _ => cases ho
/-- list(..), tuple(..) of a list or a tuple -/
def oList : PyData → Option PyData
  | .list ds => some (.list ds)
  | .tuple ds => some (.list ds)
  | _ => none
def oTuple : PyData → Option PyData
  | .list ds => some (.tuple ds)
  | .tuple ds => some (.tuple ds)
  | _ => none
theorem is_list {K : PySem.W.Frag} : Is1 K .O oList (fun xs H Q => ∃ p ys, xs = [.ref p] ∧ (SqL K H p ys ∨ SqT K H p ys) ∧ ∀ l, H l = none → Q (.ref l) (upd H l (.lst ys))) := by
  intro F G H σ δ x dx d Q er rx ho k
  cases dx with
  | list ds =>
    cases ho
    obtain ⟨a, xs, rfl, h1, r⟩ := res_lst er rx
    refine ⟨a, xs, rfl, .inl (SqL.of h1), fun l hl => ?_⟩
    have w := own_new (o := .lst xs) (d := .list ds) er hl (.inl ⟨_, _, rfl, r, rfl⟩)
    exact k _ _ G (Ex.refl G) w.1 w.2
  | tuple ds =>
    cases ho
    obtain ⟨a, xs, rfl, h1, _, r⟩ := res_tup er rx
    refine ⟨a, xs, rfl, .inr (SqT.of h1), fun l hl => ?_⟩
    have w := own_new (o := .lst xs) (d := .list ds) er hl (.inl ⟨_, _, rfl, r, rfl⟩)
    exact k _ _ G (Ex.refl G) w.1 w.2
  | _ => cases ho
theorem is_tuple {K : PySem.W.Frag} : Is1 K .F oTuple (fun xs H Q => ∃ p ys, xs = [.ref p] ∧ ((SqL K H p ys ∧ ∀ l, H l = none → Q (.ref l) (upd H l (.tup ys))) ∨ (SqT K H p ys ∧ Q (.ref p) H))) := by
  intro F G H σ δ x dx d Q er rx ho k
  cases dx with
  | list ds =>
    cases ho
    obtain ⟨a, xs, rfl, h1, r⟩ := res_lst er rx
    refine ⟨a, xs, rfl, .inl ⟨SqL.of h1, fun l hl => ?_⟩⟩
    obtain ⟨w1, w2, w3⟩ := new_tup er hl r
    exact k _ _ _ w1 w2 w3
  | tuple ds =>
    cases ho
    obtain ⟨a, xs, rfl, h1, h2, r⟩ := res_tup er rx
    exact ⟨a, xs, rfl, .inr ⟨SqT.of h1, k _ H G (Ex.refl G) er (.tup h2 r)⟩⟩
  | _ => cases ho
/-- list(range(..)) -/
def oAbs : PyData → Option PyData
  | .int i => (some (.int (if i < 0 then -i else i)))
  | _ => none
theorem is_abs {K : PySem.W.Frag} : Is1 K .F oAbs (fun xs H Q => ∃ i, xs = [.int i] ∧ Q (.int (if i < 0 then -i else i)) H) := by
  intro F G H σ δ x dx d Q er rx ho k
  cases dx with
  | int i =>
    cases ho
    obtain rfl := rp_int (res_flat rx (fun _ z => by cases z) fun _ z => by cases z)
    exact ⟨i, rfl, k _ H G (Ex.refl G) er (.int _)⟩
  | _ => cases ho
def oInt : PyData → Option PyData
  | .int i => some (.int i)
  | .bool b => (some (.int (if b then 1 else 0)))
  | _ => none
theorem is_int {K : PySem.W.Frag} : Is1 K .F oInt (fun xs H Q => (∃ i, xs = [.int i] ∧ Q (.int i) H) ∨ ∃ k, xs = [.bl k] ∧ Q (.int (if k then 1 else 0)) H) := by
  intro F G H σ δ x dx d Q er rx ho k
  cases dx with
  | int i =>
    cases ho
    obtain rfl := rp_int (res_flat rx (fun _ z => by cases z) fun _ z => by cases z)
    exact .inl ⟨i, rfl, k _ H G (Ex.refl G) er (.int _)⟩
  | bool i =>
    cases ho
    obtain rfl := rp_bl (res_flat rx (fun _ z => by cases z) fun _ z => by cases z)
    exact .inr ⟨i, rfl, k _ H G (Ex.refl G) er (.int _)⟩
  | _ => cases ho
/-! two whole numbers -/
def fB2 (g : Int → Int → Int) (fa fb : Dv → Rs (PyData × Dv)) : Dv → Rs (PyData × Dv) := f2 (oI (fun _ _ => true) fun i j => .int (g i j)) fa fb
theorem m_b2 {x : Str} {id : String} {g : Int → Int → Int} (hc : CallR X (.builtin id) (fun xs H Q => ∃ i j, xs = [.int i, .int j] ∧ Q (.int (g i j)) H)) (hg : Gl X x) (hm : X.mg x = none) (hv : bootBuiltins x = some (.builtin id)) (ha : Pm X cl W .F a fa) (hb : Pm X cl W .F b fb) (hn : x ≠ "__name__") (hdb : (x == ("__debug__" : Str)) = false)
    (he : starEach [a, b] X.env = (false, eval a X.env) :: starEach [b] X.env) (he2 : starEach [b] X.env = (false, eval b X.env) :: starEach [] X.env) (hpl : (backTo pos (starEach [b] X.env)).any (·.1) = false) : Pm X cl W .F (.Call (.Name x p) [a, b] [] pos) (fB2 g fa fb) :=
  pe_weak (pe_callB hc hg hm hv (pa_cons ha (pa_cons hb pa_nil he2) he) hn hdb he hpl) fun σ H Q h => by
    have z := go2 (r := fun x y H Q => ∃ i j, x = .int i ∧ y = .int j ∧ Q (.int (g i j)) H) (K := X.K) (kd := .F) (fun F G H σ δ x y dx dy d Q er rx ry ho k => by
      cases rx <;> cases ry <;> simp only [oI] at ho <;> try (cases ho; done)
      rename_i i j
      simp only [if_true] at ho
      cases ho
      exact ⟨i, j, rfl, rfl, k _ H G (Ex.refl G) er (.int _)⟩) h
    obtain ⟨F, G, δ, er, pp⟩ := z
    refine ⟨F, G, δ, er, ?_⟩
    cases hf : fa δ with
    | ok y =>
      rw [hf] at pp
      intro v H2 G2 e1 r1 rv
      obtain ⟨F', G', δ', er', pp'⟩ := pp v H2 G2 e1 r1 rv
      refine ⟨F', G', δ', er', ?_⟩
      cases hf2 : fb δ' with
      | ok y2 =>
        rw [hf2] at pp'
        intro v2 H3 G3 e3 r3 rv3
        obtain ⟨i, j, rfl, rfl, q⟩ := pp' v2 H3 G3 e3 r3 rv3
        exact ⟨i, j, rfl, q⟩
      | err c => rw [hf2] at pp'; exact pp'
      | bad => rw [hf2] at pp'; exact pp'
    | err c => rw [hf] at pp; exact pp
    | bad => rw [hf] at pp; exact pp
def gMin (i j : Int) : Int := if j < i then j else i
def gMax (i j : Int) : Int := if j > i then j else i
end
end Pw

set_option maxRecDepth 100000
set_option maxHeartbeats 3900000
/-! ## 9. in; isinstance; methods of lists; stores; sorts; zip -/
namespace Pw
open PySem L2
open Evl (Ex ex_rd fresh_back)

/-! ### dicts as data -/
def keyK : PyData → Option Key
  | .int i => some (.inl i)
  | .str x => some (.inr x)
  | _ => none
def keysK : List PyData → Option (List Key)
  | [] => some []
  | d :: ds => (keyK d).bind fun k => (keysK ds).map (k :: ·)
def keyT : PyData → Option (List Key)
  | .tuple ds => keysK ds
  | _ => none
def lookK (es : List (PyData × PyData)) (q : Key) : Option PyData := (es.find? fun e => decide (keyK e.1 = some q)).map (·.2)
def lookT (es : List (PyData × PyData)) (q : List Key) : Option PyData := (es.find? fun e => decide (keyT e.1 = some q)).map (·.2)
def isDT : List (PyData × PyData) → Option (List (PyData × PyData))
  | (.none, .none) :: r => some r
  | _ => none
/-- what a dict holds at a key; none: not a key of it, or the script -/
def dGetD (es : List (PyData × PyData)) (k : PyData) : Option (Option PyData) := match isDT es with
  | some r => (keyT k).map fun q => lookT r q
  | none => if scrG es = true then none else (keyK k).map fun q => lookK es q
theorem keyK_kD (q : Key) : keyK (kD q) = some q := by cases q <;> rfl
theorem keysK_kD : ∀ qs : List Key, keysK (qs.map kD) = some qs
  | [] => rfl
  | q :: qs => by rw [List.map_cons, keysK, keyK_kD, keysK_kD qs]; rfl
theorem keyK_of {d : PyData} {q : Key} (h : keyK d = some q) : d = kD q := by
  cases d <;> first | (cases h; rfl) | cases h
theorem keysK_of : ∀ {ds : List PyData} {qs : List Key}, keysK ds = some qs → ds = qs.map kD
  | [], qs, h => by cases h; rfl
  | d :: ds, qs, h => by
    cases h1 : keyK d with
    | none => simp [keysK, h1] at h
    | some q =>
      cases h2 : keysK ds with
      | none => simp [keysK, h1, h2] at h
      | some r =>
        simp only [keysK, h1, h2, Option.bind_some, Option.map_some, Option.some.injEq] at h
        subst h
        rw [keyK_of h1, keysK_of h2]
        rfl
section
variable {K : PySem.W.Frag} {G H : Hp}
theorem rp_key {v : V} {q : Key} (r : Rp K G v (kD q)) : v = kV q := by
  cases q with
  | inl i => exact rp_int r
  | inr x => exact rp_str r
theorem rpa_keys : ∀ {vs : List V} {qs : List Key}, RpA K G vs (qs.map kD) → vs = qs.map kV
  | _, [], r => by cases r; rfl
  | _, q :: qs, r => by
    cases r with
    | cons r1 r2 => rw [rp_key r1, rpa_keys r2]; rfl
theorem rpk_look : ∀ {kvs : List (Key × V)} {es : List (PyData × PyData)} (q : Key), RpK K G (kvs.map fun p => (kD p.1, p.2)) es →
    (valV kvs q = none ∧ lookK es q = none) ∨ ∃ v d, valV kvs q = some v ∧ lookK es q = some d ∧ Rp K G v d
  | [], es, q, r => by cases r; exact .inl ⟨rfl, rfl⟩
  | p :: kvs, es, q, r => by
    cases r with
    | @cons k v kvs' d es' r1 r2 =>
      by_cases h : p.1 = q
      · refine .inr ⟨p.2, d, valV_pos h, ?_, r1⟩
        simp [lookK, List.find?, keyK_kD, h]
      · have e1 : lookK ((kD p.1, d) :: es') q = lookK es' q := by simp [lookK, List.find?, keyK_kD, h]
        rw [valV_neg h, e1]
        exact rpk_look q r2
theorem rpk_lookT : ∀ {kvs : List (List Key × V)} {es : List (PyData × PyData)} (q : List Key), RpK K G (kvs.map fun p => (.tuple (p.1.map kD), p.2)) es →
    (valV kvs q = none ∧ lookT es q = none) ∨ ∃ v d, valV kvs q = some v ∧ lookT es q = some d ∧ Rp K G v d
  | [], es, q, r => by cases r; exact .inl ⟨rfl, rfl⟩
  | p :: kvs, es, q, r => by
    cases r with
    | @cons k v kvs' d es' r1 r2 =>
      by_cases h : p.1 = q
      · refine .inr ⟨p.2, d, valV_pos h, ?_, r1⟩
        simp [lookT, List.find?, keyT, keysK_kD, h]
      · have e1 : lookT ((.tuple (p.1.map kD), d) :: es') q = lookT es' q := by simp [lookT, List.find?, keyT, keysK_kD, h]
        rw [valV_neg h, e1]
        exact rpk_lookT q r2
theorem kD_ne (q : Key) : kD q ≠ .none := by cases q <;> exact nofun
/-- the two makes of dicts told apart by their data -/
theorem dK_data {kvs : List (Key × V)} {es : List (PyData × PyData)} (r : RpK K G (kvs.map fun p => (kD p.1, p.2)) es) : isDT es = none ∧ scrG es = false := by
  refine ⟨?_, by rw [scrG, scrL_no (o := .dK kvs) rfl r, excB_no (o := .dK kvs) rfl r]; rfl⟩
  cases kvs with
  | nil => cases r; rfl
  | cons p kvs =>
    cases r with
    | @cons k v kvs' d es' r1 r2 =>
      obtain ⟨q, w⟩ := p
      cases q <;> rfl
theorem dT_data {kvs : List (List Key × V)} {es : List (PyData × PyData)} (r : RpK K G ((.none, .non) :: kvs.map fun p => (.tuple (p.1.map kD), p.2)) es) : ∃ r', es = (.none, .none) :: r' ∧ RpK K G (kvs.map fun p => (.tuple (p.1.map kD), p.2)) r' := by
  cases r with
  | cons r1 r2 => cases r1; exact ⟨_, rfl, r2⟩
/-- a dict that can be read now -/
theorem res_dct {F : Fm} {σ : L2.St} {δ : Dv} {v : V} {es : List (PyData × PyData)} (e : ER K F G H σ δ) (h : Res K F G H σ δ .B v (.dict es)) (hs : scrG es = false) : ∃ (a : Addr) (o : HO) (kvs : List (PyData × V)), v = .ref a ∧ H a = some o ∧ hoKV o = some kvs ∧ RpK K G kvs es := by
  rcases h with h | ⟨p, o, rfl, h1, h2⟩
  · cases h with
    | scr q => simp [scrG, scrL_yes] at hs
    | exc a => simp [scrG, excB] at hs
    | dct h hk r => exact ⟨_, _, _, rfl, e.ext _ _ h, hk, r⟩
  · rcases h2 with ⟨_, _, _, _, ed⟩ | ⟨kvs, es', hk, r, ed⟩
    · cases ed
    · cases ed; exact ⟨p, o, kvs, rfl, h1, hk, r⟩
theorem dget_of {a : Addr} {o : HO} {kvs : List (PyData × V)} {es : List (PyData × PyData)} {y : V} {dy : PyData} {w : Option PyData} (eg : Ex G H) (h : H a = some o) (hk : hoKV o = some kvs) (r : RpK K G kvs es) (ry : Rp K G y dy) (hd : dGetD es dy = some w) :
    (w = none ∧ DGet H a y none) ∨ ∃ v d, w = some d ∧ DGet H a y (some v) ∧ Rp K G v d := by
  cases o with
  | dK l =>
    cases hk
    obtain ⟨e1, e2⟩ := dK_data r
    simp only [dGetD, e1, e2, Bool.false_eq_true, if_false] at hd
    cases hq : keyK dy with
    | none => rw [hq] at hd; cases hd
    | some q =>
      rw [hq] at hd
      cases hd
      obtain rfl := keyK_of hq
      obtain rfl := rp_key ry
      rcases rpk_look q r with ⟨h1, h2⟩ | ⟨v, d, h1, h2, h3⟩
      · refine .inl ⟨h2, ?_⟩
        rw [← h1]
        exact DGet.k h
      · refine .inr ⟨v, d, h2, ?_, h3⟩
        rw [← h1]
        exact DGet.k h
  | dT l =>
    cases hk
    obtain ⟨r', rfl, r2⟩ := dT_data r
    simp only [dGetD, isDT] at hd
    cases hq : keyT dy with
    | none => rw [hq] at hd; cases hd
    | some q =>
      rw [hq] at hd
      cases hd
      cases dy with
      | tuple ds =>
        obtain rfl := keysK_of hq
        obtain ⟨b, xs, rfl, hb, ra⟩ := rp_tup ry
        obtain rfl := rpa_keys ra
        rcases rpk_lookT q r2 with ⟨h1, h2⟩ | ⟨v, d, h1, h2, h3⟩
        · refine .inl ⟨h2, ?_⟩
          rw [← h1]
          exact DGet.t h (eg _ _ hb)
        · refine .inr ⟨v, d, h2, ?_, h3⟩
          rw [← h1]
          exact DGet.t h (eg _ _ hb)
      | _ => cases hq
  | _ => cases hk
end

section
variable {X : Cx} {cl : Str → Value} {W : WX} {kr : Kd} {a b c e : Expr} {es : List Expr} {fa fb : Dv → Rs (PyData × Dv)} {pos p p2 pos2 : Pos}
/-! ### x in c -/
def Is2B (K : PySem.W.Frag) (op : PyData → PyData → Option PyData) (r : R2) : Prop :=
  ∀ (F : Fm) (G H : Hp) (σ : L2.St) (δ : Dv) (x y : V) (dx dy d : PyData) (Q : VK), ER K F G H σ δ → Rp K G x dx → Res K F G H σ δ .B y dy → op dx dy = some d → (∀ v : V, Rp K G v d → Q v H) → r x y H Q
theorem go2b {K : PySem.W.Frag} {op : PyData → PyData → Option PyData} {r : R2} (ho : Is2B K op r) {σ : L2.St} {H : Hp} {Q : VK} (h : tM K cl W .F (f2 op fa fb) σ H Q) : tOp r (tM K cl W .F fa) (tM K cl W .B fb) σ H Q := by
  obtain ⟨F, G, δ, e, p⟩ := h
  refine ⟨F, G, δ, e, Po.bind p fun dx δ1 x H1 G1 e1 r1 rx p1 => ⟨F, G1, δ1, r1, Po.bind p1 fun dy δ2 y H2 G2 e2 r2 ry p2 => ?_⟩⟩
  cases ho' : op dx dy with
  | none => simp only [ho', lift] at p2; exact p2.elim
  | some d =>
    simp only [ho', lift] at p2
    exact ho F G2 H2 σ δ2 x y dx dy d Q r2 (Rp.mono e2 rx) ry ho' fun v rv => p2 v H2 G2 (Ex.refl G2) r2 rv
def rDIn (n : Bool) : R2 := fun x y H Q => ∃ a o, y = .ref a ∧ DGet H a x o ∧ Q (.bl (n ^^ o.isSome)) H
theorem op_din (hu : X.A.units + 1 < cLine) : OpR X (compareOp .In) (rDIn false) := by
  intro pins s σ H x y v u Q I rx ry ⟨a, o, e, g, q⟩
  subst e
  cases ry
  rw [Bool.false_xor] at q
  exact d_in hu I g rx fun s' I' => ⟨.bl _, H, I', rfl, q⟩
theorem op_dnin (hu : X.A.units + 1 < cLine) : OpR X (compareOp .NotIn) (rDIn true) := by
  intro pins s σ H x y v u Q I rx ry ⟨a, o, e, g, q⟩
  subst e
  cases ry
  rw [Bool.true_xor] at q
  exact d_notIn hu I g rx fun s' I' => ⟨.bl _, H, I', rfl, q⟩
def occS (i j : Str) : Bool := !(Builtin.Str.occurrences j i 0 j.length 1).isEmpty
def inD (x y : PyData) : Option Bool := match y with
  | .list ds => if (okD x && PyData.plainAll ds) = true then some (ds.any fun z => PyData.eqv z x) else none
  | .tuple ds => if (okD x && PyData.plainAll ds) = true then some (ds.any fun z => PyData.eqv z x) else none
  | .dict es => if scrG es = true then none else (dGetD es x).map fun o => o.isSome
  | .str j => match x with
    | .str i => some (occS i j)
    | _ => none
  | _ => none
def oIn (x y : PyData) : Option PyData := (inD x y).map fun b => .bool b
def oNin (x y : PyData) : Option PyData := (inD x y).map fun b => .bool (!b)
def rInAll (K : PySem.W.Frag) (n : Bool) : R2 := fun x y H Q => rInP K n x y H Q ∨ rDIn n x y H Q ∨ ∃ i j, x = .str i ∧ y = .str j ∧ Q (.bl (n ^^ occS i j)) H
theorem is_inAll {K : PySem.W.Frag} (n : Bool) : Is2B K (fun x y => (inD x y).map fun b => .bool (n ^^ b)) (rInAll K n) := by
  intro F G H σ δ x y dx dy d Q er rx ry ho k
  dsimp only at ho
  cases hb : inD dx dy with
  | none => rw [hb] at ho; cases ho
  | some b =>
    rw [hb] at ho
    cases ho
    have q := k (.bl (n ^^ b)) (.bl _)
    cases dy with
    | list ds =>
      simp only [inD] at hb
      split at hb
      · rename_i hh
        cases hb
        rw [Bool.and_eq_true] at hh
        obtain ⟨a, xs, rfl, h1, r⟩ := res_lst er ry
        exact .inl ⟨dx, ds, dp_of er.ext rx (okD_of hh.1).1, .inl (.lst (SqL.of h1) (dpa_of er.ext r hh.2)), hh.1, hh.2, q⟩
      · cases hb
    | tuple ds =>
      simp only [inD] at hb
      split at hb
      · rename_i hh
        cases hb
        rw [Bool.and_eq_true] at hh
        obtain ⟨a, xs, rfl, h1, _, r⟩ := res_tup er ry
        exact .inl ⟨dx, ds, dp_of er.ext rx (okD_of hh.1).1, .inr (.tup (SqT.of h1) (dpa_of er.ext r hh.2)), hh.1, hh.2, q⟩
      · cases hb
    | dict es =>
      simp only [inD] at hb
      split at hb
      · cases hb
      · rename_i hs
        rw [Bool.not_eq_true] at hs
        obtain ⟨a, o, kvs, rfl, h1, hk, r⟩ := res_dct er ry hs
        cases hg : dGetD es dx with
        | none => rw [hg] at hb; cases hb
        | some w =>
          rw [hg] at hb
          cases hb
          refine .inr (.inl ⟨a, ?_⟩)
          rcases dget_of er.ext h1 hk r rx hg with ⟨rfl, g⟩ | ⟨v, d, rfl, g, _⟩
          · exact ⟨none, rfl, g, q⟩
          · exact ⟨some v, rfl, g, q⟩
    | str j =>
      cases dx with
      | str i =>
        cases hb
        obtain rfl := rp_str rx
        obtain rfl := rp_str (res_flat ry (fun _ z => by cases z) fun _ z => by cases z)
        exact .inr (.inr ⟨i, j, rfl, rfl, q⟩)
      | _ => cases hb
    | _ => cases hb
theorem m_in {n : Nat} (hr : Room n X.A) (ha : Pm X cl W .F a fa) (hb : Pm X cl W .B b fb) (hm : behindInMarks .In b = false) : Pm X cl W .F (.Compare a [.In] [b] pos) (f2 oIn fa fb) :=
  pe_weak (pe_cmpR ((op_inP (units65 hr)).or ((op_din (by have := hr.un; omega)).or (by
    intro pins s σ H x y v u Q I rx ry ⟨i, j, e1, e2, q⟩
    rw [Bool.false_xor] at q
    exact op_in_str pins s σ H x y v u Q I rx ry ⟨i, j, e1, e2, q⟩))) ha hb hm) fun σ H Q h => go2b (K := X.K) (op := oIn) (fun F G H σ δ x y dx dy d Q er rx ry ho k => is_inAll false F G H σ δ x y dx dy d Q er rx ry (by simpa [oIn] using ho) k) h
theorem m_nin {n : Nat} (hr : Room n X.A) (ha : Pm X cl W .F a fa) (hb : Pm X cl W .B b fb) (hm : behindInMarks .NotIn b = false) : Pm X cl W .F (.Compare a [.NotIn] [b] pos) (f2 oNin fa fb) :=
  pe_weak (pe_cmpR ((op_ninP (units65 hr)).or ((op_dnin (by have := hr.un; omega)).or (by
    intro pins s σ H x y v u Q I rx ry ⟨i, j, e1, e2, q⟩
    rw [Bool.true_xor] at q
    exact op_notin_str pins s σ H x y v u Q I rx ry ⟨i, j, e1, e2, q⟩))) ha hb hm) fun σ H Q h => go2b (K := X.K) (op := oNin) (fun F G H σ δ x y dx dy d Q er rx ry ho k => is_inAll true F G H σ δ x y dx dy d Q er rx ry (by simpa [oNin] using ho) k) h

/-! ### isinstance(x, T) -/
def tyD : PyData → String
  | .none => "NoneType"
  | .bool _ => "bool"
  | .int _ => "int"
  | .str _ => "str"
  | .list _ => "list"
  | .tuple _ => "tuple"
  | .dict _ => "dict"
def isiB (T : String) (d : PyData) : Bool := match d with
  | .bool _ => T == "bool" || T == "int"
  | d => tyD d == T
def oIsi (T : String) (d : PyData) : Option PyData := match d with
  | .dict es => if scrG es = true then none else some (.bool (isiB T d))
  | d => some (.bool (isiB T d))
/-- T is one of the types asked for here -/
def GoodT (T : String) : Prop := ∀ t ∈ ["NoneType", "bool", "int", "str", "list", "tuple", "dict"], kitB t T = some (t == T || (t == "bool" && T == "int"))
theorem goodT_int : GoodT "int" := by unfold GoodT; decide +kernel
theorem goodT_bool : GoodT "bool" := by unfold GoodT; decide +kernel
theorem goodT_tuple : GoodT "tuple" := by unfold GoodT; decide +kernel
theorem goodT_list : GoodT "list" := by unfold GoodT; decide +kernel
theorem goodT_str : GoodT "str" := by unfold GoodT; decide +kernel
theorem goodT_dict : GoodT "dict" := by unfold GoodT; decide +kernel
theorem isiB_eq (T : String) (d : PyData) : (tyD d == T || (tyD d == "bool" && T == "int")) = isiB T d := by
  cases d <;> first | (simp [isiB, tyD]; done) | skip
  simp only [isiB, tyD]
  rw [show ("bool" == T) = (T == "bool") from by rw [Bool.eq_iff_iff, beq_iff_eq, beq_iff_eq]; exact eq_comm]
  simp
theorem tyD_mem (d : PyData) : tyD d ∈ ["NoneType", "bool", "int", "str", "list", "tuple", "dict"] := by cases d <;> simp [tyD]
theorem ty_of {K : PySem.W.Frag} {F : Fm} {G H : Hp} {σ : L2.St} {δ : Dv} {v : V} {d : PyData} {T : String} {z : PyData} (er : ER K F G H σ δ) (h : Res K F G H σ δ .B v d) (ho : oIsi T d = some z) : TyOf K H v (.type (tyD d)) ∧ z = .bool (isiB T d) := by
  cases d with
  | dict es =>
    simp only [oIsi] at ho
    split at ho
    · cases ho
    · rename_i hs
      rw [Bool.not_eq_true] at hs
      cases ho
      obtain ⟨a, o, kvs, rfl, h1, hk, r⟩ := res_dct er h hs
      refine ⟨?_, rfl⟩
      cases o with
      | dK l => exact .dK h1
      | dT l => exact .dT h1
      | _ => cases hk
  | list ds =>
    cases ho
    obtain ⟨a, xs, rfl, h1, r⟩ := res_lst er h
    exact ⟨.lst h1, rfl⟩
  | tuple ds =>
    cases ho
    obtain ⟨a, xs, rfl, h1, _, r⟩ := res_tup er h
    exact ⟨.tup h1, rfl⟩
  | none =>
    cases ho
    obtain rfl := rp_non (res_flat h (fun _ z => by cases z) fun _ z => by cases z)
    exact ⟨.non, rfl⟩
  | bool b =>
    cases ho
    obtain rfl := rp_bl (res_flat h (fun _ z => by cases z) fun _ z => by cases z)
    exact ⟨.bl _, rfl⟩
  | int b =>
    cases ho
    obtain rfl := rp_int (res_flat h (fun _ z => by cases z) fun _ z => by cases z)
    exact ⟨.int _, rfl⟩
  | str b =>
    cases ho
    obtain rfl := rp_str (res_flat h (fun _ z => by cases z) fun _ z => by cases z)
    exact ⟨.str _, rfl⟩
theorem m_isi {T : String} {x : Str} (hT : GoodT T) (hg : Gl X "isinstance") (hm : X.mg "isinstance" = none) (hv : bootBuiltins "isinstance" = some (.builtin "isinstance")) (hg2 : Gl X x) (hm2 : X.mg x = none) (hv2 : bootBuiltins x = some (.type T)) (hn2 : x ≠ "__name__") (hd2 : (x == ("__debug__" : Str)) = false) (ha : Pm X cl W .B a fa)
    (he : starEach [a, .Name x p2] X.env = (false, eval a X.env) :: starEach [.Name x p2] X.env) (he2 : starEach [.Name x p2] X.env = (false, eval (.Name x p2) X.env) :: starEach [] X.env) (hpl : (backTo pos (starEach [.Name x p2] X.env)).any (·.1) = false) :
    Pm X cl W .F (.Call (.Name "isinstance" p) [a, .Name x p2] [] pos) (f1 (oIsi T) fa) :=
  pe_weak (pe_callB call_isi hg hm hv (pa_cons ha (pa_cons (pe_bltn (v := .ty T) hg2 hm2 hv2 rfl hn2 hd2) pa_nil he2) he) (by decide) (by decide) he hpl) fun σ H Q ⟨F, G, δ, er, pp⟩ => ⟨F, G, δ, er, Po.bind pp fun dx δ1 v H1 G1 e1 r1 rv p1 => by
    cases ho : oIsi T dx with
    | none => simp only [ho, lift] at p1; exact p1.elim
    | some z =>
      simp only [ho, lift] at p1
      obtain ⟨ty, rfl⟩ := ty_of r1 rv ho
      refine ⟨v, .ty T, _, _, isiB T dx, rfl, .ty T, .base ty, kit_ty ?_, p1 _ H1 G1 (Ex.refl G1) r1 (.bl _)⟩
      rw [← isiB_eq]
      exact hT _ (tyD_mem dx)⟩

/-! ### methods of a list that changes -/
def onMut (δ : Dv) (i : Nat) (k : SV → Rs (PyData × Dv)) : Rs (PyData × Dv) := match δ[i]? with
  | some (some s) => if s.mut = true then k s else .bad
  | _ => .bad
def hasSl (δ : Dv) (i : Nat) : Bool := match δ[i]? with
  | some (some (.m (.list _))) => true
  | some (some (.a (.list _))) => true
  | _ => false
def liftM (o : Option (PyData × PyData)) (δ : Dv) (i : Nat) (s : SV) : Rs (PyData × Dv) := match o with
  | some x => .ok (x.1, δ.set i (some (s.put x.2)))
  | none => .bad
/-- a method of the list in slot i -/
def fMt (i : Nat) (op : List PyData → List PyData → Option (PyData × List PyData)) (g : Dv → Rs (List PyData × Dv)) : Dv → Rs (PyData × Dv) := fun δ => if hasSl δ i = true then (g δ).bind fun x => (match x.2[i]? with
    | some (some (.m (.list ds))) => (match op ds x.1 with
      | some y => .ok (y.1, x.2.set i (some (.m (.list y.2))))
      | none => .bad)
    | some (some (.a (.list ds))) => (match op ds x.1 with
      | some y => .ok (y.1, x.2.set i (some (.a (.list y.2))))
      | none => .bad)
    | _ => .bad) else .bad
def IsMt (K : PySem.W.Frag) (op : List PyData → List PyData → Option (PyData × List PyData)) (r : V → List V → Hp → VK → Prop) : Prop :=
  ∀ (G H : Hp) (p : Addr) (xs vs : List V) (ds as : List PyData) (y : PyData × List PyData) (Q : VK), Ex G H → H p = some (.lst xs) → RpA K G xs ds → RpA K G vs as → op ds as = some y →
    (∀ (v : V) (xs' : List V), Rp K G v y.1 → RpA K G xs' y.2 → Q v (upd H p (.lst xs'))) → r (.ref p) vs H Q
theorem hasSl_of {δ : Dv} {i : Nat} (h : hasSl δ i = true) : ∃ s ds, δ[i]? = some (some s) ∧ s.mut = true ∧ s.data = .list ds := by
  unfold hasSl at h
  split at h
  · rename_i ds hd; exact ⟨_, ds, hd, rfl, rfl⟩
  · rename_i ds hd; exact ⟨_, ds, hd, rfl, rfl⟩
  · cases h
theorem go_mt {K : PySem.W.Frag} {i : Nat} {op : List PyData → List PyData → Option (PyData × List PyData)} {r : V → List V → Hp → VK → Prop} {g : Dv → Rs (List PyData × Dv)} (ho : IsMt K op r) {σ : L2.St} {H : Hp} {Q : VK} (h : tM K cl W .F (fMt i op g) σ H Q) :
    ∃ v, σ[i]? = some (some v) ∧ tyV K "list" v H ∧ tA K cl W g σ H fun vs H2 => r v vs H2 Q := by
  obtain ⟨F, G, δ, er, pp⟩ := h
  unfold fMt at pp
  by_cases hs : hasSl δ i = true
  · rw [if_pos hs] at pp
    obtain ⟨s0, ds0, h1, h2, h3⟩ := hasSl_of hs
    obtain ⟨p, o, k1, k2, k3, k4, _⟩ := er.isMut h1 h2
    rw [h3] at k4
    refine ⟨_, k1, ?_, F, G, δ, er, PoA.bind pp fun as δ2 vs H2 G2 e2 r2 rv p2 => ?_⟩
    · rcases k4 with ⟨xs, ds, rfl, r, ed⟩ | ⟨_, _, _, _, ed⟩
      · exact .inl ⟨rfl, xs, SqL.of k3⟩
      · cases ed
    · have fin : ∀ (s : SV) (ds : List PyData), δ2[i]? = some (some s) → s.mut = true → s.data = .list ds → ∀ y, op ds as = some y → Po K cl W F σ G2 .F (.ok (y.1, δ2.set i (some (s.put (.list y.2))))) Q → r (.ref p) vs H2 Q := by
        intro s ds g1 g2 g3 y hy hp
        obtain ⟨p', o', j1, j2, j3, j4, _⟩ := r2.isMut g1 g2
        rw [k1] at j1
        cases j1
        rw [g3] at j4
        rcases j4 with ⟨xs, ds', rfl, rr, ed⟩ | ⟨_, _, _, _, ed⟩
        · cases ed
          refine ho G2 H2 p xs vs ds as y Q r2.ext j3 rr rv hy fun v xs' hv hx => ?_
          exact hp v _ G2 (Ex.refl G2) (r2.wr g1 g2 k1 (.inl ⟨xs', y.2, rfl, hx, rfl⟩)) hv
        · cases ed
      split at p2
      · rename_i ds hd
        split at p2
        · rename_i y hy
          exact fin _ ds hd rfl rfl y hy p2
        · exact p2.elim
      · rename_i ds hd
        split at p2
        · rename_i y hy
          exact fin _ ds hd rfl rfl y hy p2
        · exact p2.elim
      · exact p2.elim
  · rw [if_neg hs] at pp
    exact pp.elim
theorem m_mt {i : Nat} {x name : Str} {id : String} {apos cpos : Pos} {op : List PyData → List PyData → Option (PyData × List PyData)} {r : V → List V → Hp → VK → Prop} {g : Dv → Rs (List PyData × Dv)} (slot : Slot "list" name id) (hty : typeOf (.builtin id) = pure (.type "method_descriptor")) (hm : MtR X id r) (hi : IsMt X.K op r)
    (hv : PE X (.Name x p) (tVar i)) (ha : Pa X cl W (e :: es) g) (hbase : attributeBase (.Name x p) name X.env (eval (.Name x p) X.env) = eval (.Name x p) X.env)
    (hfew : ((backTo cpos (starEach (e :: es) X.env)).all (fun x => !x.1) && (backToKw cpos (keywordEach [] X.env)).all (fun x => x.1.isSome) && decide ((e :: es).length + ([] : List Keyword).length + (if ([] : List Keyword).isEmpty then 0 else 1) < 30)) = true)
    (hline : (apos.endLine == cpos.line) = true) (hs : starEach (e :: es) X.env = (false, eval e X.env) :: starEach es X.env) (hplain : (backTo cpos (starEach es X.env)).any (·.1) = false) :
    Pm X cl W .F (.Call (.Attribute (.Name x p) name apos) (e :: es) [] cpos) (fMt i op g) :=
  pe_weak (pe_bm PySem.F.plainAttrs_list slot hty hm hv ha hbase hfew hline hs hplain) fun σ H Q h => go_mt hi h
theorem m_mt0 {i : Nat} {x name : Str} {id : String} {apos cpos : Pos} {op : List PyData → List PyData → Option (PyData × List PyData)} {r : V → List V → Hp → VK → Prop} (slot : Slot "list" name id) (hty : typeOf (.builtin id) = pure (.type "method_descriptor")) (hm : MtR X id r) (hi : IsMt X.K op r)
    (hv : PE X (.Name x p) (tVar i)) (hbase : attributeBase (.Name x p) name X.env (eval (.Name x p) X.env) = eval (.Name x p) X.env) (hline : (apos.endLine == cpos.line) = true) :
    Pm X cl W .F (.Call (.Attribute (.Name x p) name apos) [] [] cpos) (fMt i op aNil) :=
  pe_weak (pe_bm0 PySem.F.plainAttrs_list slot hty hm hv hbase hline) fun σ H Q h => by
    obtain ⟨v, h1, h2, F, G, δ, er, pp⟩ := go_mt (K := X.K) hi h
    exact ⟨v, h1, h2, pp [] H G (Ex.refl G) er .nil⟩
def mApp (ds as : List PyData) : Option (PyData × List PyData) := match as with
  | [d] => if ds.length < sizeLine then some (.none, ds ++ [d]) else none
  | _ => none
theorem is_app {K : PySem.W.Frag} : IsMt K mApp rAppend := by
  intro G H p xs vs ds as y Q eg h r ra ho k
  cases as with
  | nil => cases ho
  | cons d as =>
    cases as with
    | cons _ _ => cases ho
    | nil =>
      simp only [mApp] at ho
      split at ho
      · rename_i hz
        cases ho
        cases ra with
        | cons r1 r2 =>
          cases r2
          exact ⟨p, xs, _, rfl, rfl, h, by rw [r.length]; exact hz, k _ _ .non (r.append (.cons r1 .nil))⟩
      · cases ho
def mExt (ds as : List PyData) : Option (PyData × List PyData) := match as with
  | [.list es] => if ds.length + es.length ≤ sizeLine then some (.none, ds ++ es) else none
  | _ => none
theorem is_ext {K : PySem.W.Frag} : IsMt K mExt rExtend := by
  intro G H p xs vs ds as y Q eg h r ra ho k
  unfold mExt at ho
  split at ho
  · rename_i es
    split at ho
    · rename_i hz
      cases ho
      cases ra with
      | cons r1 r2 =>
        cases r2
        obtain ⟨b, zs, rfl, hb, rb⟩ := rp_lst r1
        exact ⟨p, b, xs, zs, rfl, rfl, h, eg _ _ hb, by rw [r.length, rb.length]; exact hz, k _ _ .non (r.append rb)⟩
    · cases ho
  · cases ho
def mPopAt (ds as : List PyData) : Option (PyData × List PyData) := match as with
  | [.int i] => if i62 i = true then (ixN ds.length i).bind fun k => (ds[k]?).map fun d => (d, ds.eraseIdx k) else none
  | _ => none
theorem is_popAt {K : PySem.W.Frag} : IsMt K mPopAt rPopAt := by
  intro G H p xs vs ds as y Q eg h r ra ho k
  unfold mPopAt at ho
  split at ho
  · rename_i i
    split at ho
    · rename_i hz
      cases hk : ixN ds.length i with
      | none => rw [hk] at ho; cases ho
      | some j =>
        rw [hk] at ho
        simp only [Option.bind_some] at ho
        cases hd : ds[j]? with
        | none => rw [hd] at ho; cases ho
        | some d =>
          rw [hd] at ho
          cases ho
          cases ra with
          | cons r1 r2 =>
            cases r2
            obtain rfl := rp_int r1
            obtain ⟨v, h1, h2⟩ := r.getD hd
            have z := i62_of hz
            exact ⟨p, xs, i, j, v, rfl, rfl, h, by have := z.1; omega, by have := z.2; omega, by rw [r.length]; exact (ixN_seq hk).1, h1, k v _ h2 (r.eraseIdx j)⟩
    · cases ho
  · cases ho
def mPop (ds as : List PyData) : Option (PyData × List PyData) := match as with
  | [] => (ds[ds.length - 1]?).map fun d => (d, ds.dropLast)
  | _ => none
theorem is_pop {K : PySem.W.Frag} : IsMt K mPop rPop := by
  intro G H p xs vs ds as y Q eg h r ra ho k
  unfold mPop at ho
  split at ho
  · cases hd : ds[ds.length - 1]? with
    | none => rw [hd] at ho; cases ho
    | some d =>
      rw [hd] at ho
      cases ho
      cases ra
      obtain ⟨v, h1, h2⟩ := r.getD hd
      exact ⟨p, xs, v, rfl, rfl, h, by rw [r.length]; exact h1, k v _ h2 r.dropLast⟩
  · cases ho
/-! ### x[k] = e -/
def setD (d k v : PyData) : Option PyData := match d, k with
  | .list ds, .int j => (ixN ds.length j).map fun i => .list (ds.set i v)
  | _, _ => none
def gStL (i : Nat) (fk fe : Dv → Rs (PyData × Dv)) : Dv → Rs (Fl × Dv) := fun δ => (fe δ).bind fun v => (match v.2[i]? with
  | some (some s0) => if s0.mut = true then (fk v.2).bind fun k => (match k.2[i]? with
      | some (some s) => if s.mut = true then (match setD s.data k.1 v.1 with
          | some d => .ok (.nx, k.2.set i (some (s.put d)))
          | none => .bad) else .bad
      | _ => .bad) else .bad
  | _ => .bad)
theorem s_subL {i : Nat} {x : Str} (hv : PE X (.Name x p) (tVar i)) (hk : Pm X cl W .F b fb) (he : Pm X cl W .F a fa) (hs : swapsWithSole [.Subscript (.Name x p) b p2] a pos.line X.env = pure false) (hw : swappedStores [.Subscript (.Name x p) b p2] a X.env = pure none)
    (h1 : (assignEach [.Subscript (.Name x p) b p2] X.env).map (·.2) = [assign (.Subscript (.Name x p) b p2) X.env])
    (h2 : ∀ v, assign (.Subscript (.Name x p) b p2) X.env v = (do
      let ov ← holding [v] (eval (.Name x p) X.env)
      let iv ← holding [v, ov] (eval b X.env)
      standAt p2
      (holding [v, ov, iv] (setItem ov iv v))
      release [v, ov, iv] [])) : Ps X cl W kr (.Assign [.Subscript (.Name x p) b p2] a pos) (gStL i fb fa) :=
  ps_weak (ps_asg he (pg_sub hv hk set_list h2) hs hw h1) fun D σ H ⟨F, G, δ, er, pp⟩ => ⟨F, G, δ, er, Po.bindS pp fun dv δ1 v H1 G1 e1 r1 rv p1 => by
    cases hi : δ1[i]? with
    | none => simp only [hi] at p1; exact p1.elim
    | some o0 =>
    cases o0 with
    | none => simp only [hi] at p1; exact p1.elim
    | some s0 =>
    simp only [hi] at p1
    have hm0 : s0.mut = true := by
      by_cases h : s0.mut = true
      · exact h
      · rw [if_neg h] at p1; exact p1.elim
    rw [if_pos hm0] at p1
    obtain ⟨q, o, k1, _⟩ := r1.isMut hi hm0
    refine ⟨_, k1, F, G1, δ1, r1, Po.bindS p1 fun dk δ2 kv H2 G2 e2 r2 rk p2 => ?_⟩
    cases hi2 : δ2[i]? with
    | none => simp only [hi2] at p2; exact p2.elim
    | some o0 =>
    cases o0 with
    | none => simp only [hi2] at p2; exact p2.elim
    | some s =>
    simp only [hi2] at p2
    have hm : s.mut = true := by
      by_cases h : s.mut = true
      · exact h
      · rw [if_neg h] at p2; exact p2.elim
    rw [if_pos hm] at p2
    obtain ⟨q', o', j1, j2, j3, j4, _⟩ := r2.isMut hi2 hm
    rw [k1] at j1
    cases j1
    cases hd : setD s.data dk dv with
    | none => simp only [hd] at p2; exact p2.elim
    | some d' =>
    simp only [hd] at p2
    unfold setD at hd
    split at hd
    · rename_i ds j hsd
      cases hx : ixN ds.length j with
      | none => rw [hx] at hd; cases hd
      | some jj =>
        rw [hx] at hd
        cases hd
        obtain rfl := rp_int rk
        rw [hsd] at j4
        rcases j4 with ⟨xs, ds', rfl, rr, ed⟩ | ⟨_, _, _, _, ed⟩
        · cases ed
          exact ⟨q, xs, j, jj, rfl, rfl, j3, by rw [rr.length]; exact hx, p2 σ _ G2 (Ex.refl G2) (r2.wr hi2 hm k1 (.inl ⟨_, _, rfl, rr.set (Rp.mono e2 rv) jj, rfl⟩))⟩
        · cases ed
    · cases hd⟩
end
end Pw

set_option maxRecDepth 100000
set_option maxHeartbeats 3900000
/-! ## 10. dicts; list(range ..); zip, enumerate; sorted; least and greatest -/
namespace Pw
open PySem L2
open Evl (Ex ex_rd fresh_back)

/-! ### sorting, in plain Lean -/
def ins {α : Type} (le : α → α → Bool) (x : α) : List α → List α
  | [] => [x]
  | y :: r => if le x y = true then x :: y :: r else y :: ins le x r
def isrt {α : Type} (le : α → α → Bool) : List α → List α
  | [] => []
  | x :: r => ins le x (isrt le r)
section
variable {α : Type} {le : α → α → Bool}
theorem ins_perm (x : α) : ∀ l : List α, (ins le x l).Perm (x :: l)
  | [] => List.Perm.refl _
  | y :: r => by
    rw [ins]
    split
    · exact List.Perm.refl _
    · exact (List.Perm.cons y (ins_perm x r)).trans (List.Perm.swap x y r)
theorem isrt_perm : ∀ l : List α, (isrt le l).Perm l
  | [] => List.Perm.refl _
  | x :: r => (ins_perm x _).trans (List.Perm.cons x (isrt_perm r))
theorem ins_sorted (tot : ∀ a b, le a b = true ∨ le b a = true) (tr : ∀ a b c, le a b = true → le b c = true → le a c = true) (x : α) : ∀ l : List α, l.Pairwise (fun a b => le a b = true) → (ins le x l).Pairwise (fun a b => le a b = true)
  | [], _ => List.pairwise_singleton _ _
  | y :: r, h => by
    (have h' := List.pairwise_cons.mp h)
    rw [ins]
    split
    · rename_i hxy
      exact List.pairwise_cons.mpr ⟨fun z hz => (List.mem_cons.mp hz).elim (fun e => by rw [e]; exact hxy) fun hz => tr _ _ _ hxy (h'.1 z hz), h⟩
    · rename_i hxy
      have hyx : le y x = true := (tot y x).resolve_right hxy
      refine List.pairwise_cons.mpr ⟨fun z hz => ?_, ins_sorted tot tr x r h'.2⟩
      rcases List.mem_cons.mp ((ins_perm x r).mem_iff.mp hz) with e | hz
      · rw [e]; exact hyx
      · exact h'.1 z hz
theorem isrt_sorted (tot : ∀ a b, le a b = true ∨ le b a = true) (tr : ∀ a b c, le a b = true → le b c = true → le a c = true) : ∀ l : List α, (isrt le l).Pairwise (fun a b => le a b = true)
  | [] => List.Pairwise.nil
  | x :: r => ins_sorted tot tr x _ (isrt_sorted tot tr r)
/-- there is just one -/
theorem sorted_one (anti : ∀ a b, le a b = true → le b a = true → a = b) : ∀ {l m : List α}, l.Perm m → l.Pairwise (fun a b => le a b = true) → m.Pairwise (fun a b => le a b = true) → l = m
  | [], m, p, _, _ => (p.symm.eq_nil).symm
  | x :: l, [], p, _, _ => p.eq_nil
  | x :: l, y :: m, p, h1, h2 => by
    have c1 := List.pairwise_cons.mp h1
    have c2 := List.pairwise_cons.mp h2
    have e : x = y := by
      rcases List.mem_cons.mp (p.mem_iff.mp List.mem_cons_self) with e | hx
      · exact e
      · rcases List.mem_cons.mp (p.mem_iff.mpr (List.mem_cons_self (a := y) (l := m))) with e | hy
        · exact e.symm
        · exact anti _ _ (c1.1 y hy) (c2.1 x hx)
    subst e
    rw [sorted_one anti p.cons_inv c1.2 c2.2]
end
def leI (i j : Int) : Bool := decide (i ≤ j)
def leP (p q : Int × Int) : Bool := decide (p.1 < q.1 ∨ (p.1 = q.1 ∧ p.2 ≤ q.2))
def srtI (ns : List Int) : List Int := isrt leI ns
def srtP (ps : List (Int × Int)) : List (Int × Int) := isrt leP ps
theorem srtI_of {ns ms : List Int} (p : ms.Perm ns) (h : ms.Pairwise (· ≤ ·)) : ms = srtI ns :=
  sorted_one (le := leI) (fun a b h1 h2 => Int.le_antisymm (of_decide_eq_true h1) (of_decide_eq_true h2)) (p.trans (isrt_perm ns).symm) (h.imp fun h => decide_eq_true h)
    (isrt_sorted (fun a b => (Int.le_total a b).elim (fun h => .inl (decide_eq_true h)) fun h => .inr (decide_eq_true h)) (fun a b c h1 h2 => decide_eq_true (Int.le_trans (of_decide_eq_true h1) (of_decide_eq_true h2))) ns)
theorem leP_anti (a b : Int × Int) (h1 : leP a b = true) (h2 : leP b a = true) : a = b := by
  have h1 := of_decide_eq_true h1
  have h2 := of_decide_eq_true h2
  exact Prod.ext (by omega) (by omega)
theorem leP_tot (a b : Int × Int) : leP a b = true ∨ leP b a = true := by
  simp only [leP, decide_eq_true_eq]
  omega
theorem leP_tr (a b c : Int × Int) (h1 : leP a b = true) (h2 : leP b c = true) : leP a c = true := by
  simp only [leP, decide_eq_true_eq] at h1 h2 ⊢
  omega
theorem srtP_of {ns ms : List (Int × Int)} (p : ms.Perm ns) (h : ms.Pairwise (fun a b => leP a b = true)) : ms = srtP ns :=
  sorted_one leP_anti (p.trans (isrt_perm ns).symm) h (isrt_sorted leP_tot leP_tr ns)
def pairD (p : Int × Int) : PyData := .tuple [.int p.1, .int p.2]
def prs? : List PyData → Option (List (Int × Int))
  | [] => some []
  | .tuple [.int i, .int j] :: r => (prs? r).map ((i, j) :: ·)
  | _ :: _ => none
theorem prs_self : ∀ ps : List (Int × Int), prs? (ps.map pairD) = some ps
  | [] => rfl
  | p :: ps => by rw [List.map_cons, pairD, prs?, prs_self ps]; rfl
theorem prs_of : ∀ {ds : List PyData} {ps : List (Int × Int)}, prs? ds = some ps → ds = ps.map pairD
  | [], ps, h => by cases h; rfl
  | d :: ds, ps, h => by
    unfold prs? at h
    split at h
    · rename_i h0; cases h0
    · rename_i i j r h0
      cases h0
      cases h1 : prs? ds with
      | none => (rw [h1] at h; cases h)
      | some qs => rw [h1] at h; cases h; rw [prs_of h1]; rfl
    · cases h
def sortD (ds : List PyData) : Option (List PyData) := match ints? ds with
  | some ns => some ((srtI ns).map .int)
  | none => (prs? ds).map fun ps => (srtP ps).map pairD

section
variable {X : Cx} {cl : Str → Value} {W : WX} {kr : Kd} {a b c e tg : Expr} {es : List Expr} {fa fb fc : Dv → Rs (PyData × Dv)} {pos p p2 pos2 : Pos}
def oSorted : PyData → Option PyData
  | .list ds => (sortD ds).map .list
  | _ => none
def pairAt (H : Hp) : V → Int × Int
  | .ref t => match H t with
    | some (.tup [.int i, .int j]) => (i, j)
    | _ => (0, 0)
  | _ => (0, 0)
theorem rpa_pairs {K : PySem.W.Frag} {G H : Hp} (eg : Ex G H) : ∀ {vs : List V} {ps : List (Int × Int)}, RpA K G vs (ps.map pairD) → vs.map (pairAt H) = ps ∧ ∀ x ∈ vs, (∃ t, x = .ref t ∧ H t = some (.tup [.int (pairAt H x).1, .int (pairAt H x).2])) ∧ Rp K G x (pairD (pairAt H x))
  | vs, [], r => by cases r; exact ⟨rfl, fun _ h => nomatch h⟩
  | vs, q :: ps, r => by
    cases r with
    | @cons v vs d ds r1 r2 =>
      obtain ⟨h1, h2⟩ := rpa_pairs eg r2
      obtain ⟨t, xs, rfl, ht, ra⟩ := rp_tup r1
      have ex : xs = [.int q.1, .int q.2] := by
        cases ra with
        | cons a1 a2 =>
          cases a2 with
          | cons b1 b2 =>
            cases b2
            rw [rp_int a1, rp_int b1]
      subst ex
      have hp : pairAt H (.ref t) = q := by
        simp only [pairAt, eg _ _ ht]
      refine ⟨by rw [List.map_cons, hp, h1], fun x hx => ?_⟩
      (rcases List.mem_cons.mp hx with e | hx)
      · subst e
        rw [hp]
        exact ⟨⟨t, rfl, eg _ _ ht⟩, r1⟩
      · exact h2 x hx
theorem rpa_map {K : PySem.W.Frag} {G : Hp} {f : V → PyData} : ∀ {vs : List V}, (∀ x ∈ vs, Rp K G x (f x)) → RpA K G vs (vs.map f)
  | [], _ => .nil
  | v :: vs, h => .cons (h v List.mem_cons_self) (rpa_map fun x hx => h x (List.mem_cons_of_mem _ hx))
def rSortAll (K : PySem.W.Frag) : List V → Hp → VK → Prop := fun xs H Q => rSortedI K xs H Q ∨ rSortedPO K xs H Q
theorem is_sorted {K : PySem.W.Frag} : Is1 K .O oSorted (rSortAll K) := by
  intro F G H σ δ x dx d Q er rx ho k
  cases dx with
  | list ds =>
    obtain ⟨a, xs, rfl, h1, r⟩ := res_lst er rx
    simp only [oSorted, sortD] at ho
    cases hi : ints? ds with
    | some ns =>
      rw [hi] at ho
      cases ho
      obtain ⟨rfl, rfl⟩ := ints_of hi r
      refine .inl ⟨a, ns, rfl, SqL.of h1, fun ns' q hp hs hq => ?_⟩
      rw [srtI_of hp hs]
      have w := own_new (o := .lst ((srtI ns).map V.int)) (d := .list ((srtI ns).map .int)) er hq (.inl ⟨_, _, rfl, rpa_ints _, rfl⟩)
      exact k _ _ G (Ex.refl G) w.1 w.2
    | none =>
      rw [hi] at ho
      cases hp : prs? ds with
      | none => rw [hp] at ho; cases ho
      | some ps =>
        rw [hp] at ho
        cases ho
        obtain rfl := prs_of hp
        obtain ⟨e1, e2⟩ := rpa_pairs er.ext r
        refine .inr ⟨a, xs, pairAt H, rfl, SqL.of h1, fun x hx => (e2 x hx).1, ?_⟩
        intro ys q hS hB hq
        have em : ys.map (pairAt H) = srtP ps := by
          refine srtP_of ?_ ?_
          · rw [← e1]; exact hB.perm.map _
          · refine List.pairwise_map.mpr (List.Pairwise.imp ?_ hS)
            intro u v huv
            have huv' : SrtO.lexB (pairAt H v) (pairAt H u) = false := huv
            rw [SrtO.lexB_no] at huv'
            simp only [leP, decide_eq_true_eq]
            omega
        have rr : RpA K G ys ((srtP ps).map pairD) := by
          rw [← em, List.map_map]
          exact rpa_map fun x hx => (e2 x (hB.perm.mem_iff.mp hx)).2
        have w := own_new (o := .lst ys) (d := .list ((srtP ps).map pairD)) er hq (.inl ⟨_, _, rfl, rr, rfl⟩)
        exact k _ _ G (Ex.refl G) w.1 w.2
  | _ => cases ho
theorem cr_sortAll : CallR X (.builtin "sorted") (rSortAll X.K) := cr_sortedI.or cr_sortedPO
/-! least and greatest of a list of whole numbers -/
def foldMin : List Int → Option Int
  | [] => none
  | n :: ns => some (ns.foldl (fun a b => if b < a then b else a) n)
def foldMax : List Int → Option Int
  | [] => none
  | n :: ns => some (ns.foldl (fun a b => if b > a then b else a) n)
theorem foldMin_is : ∀ (ns : List Int) (n : Int), (ns.foldl (fun a b => if b < a then b else a) n ∈ n :: ns) ∧ ∀ y ∈ n :: ns, ns.foldl (fun a b => if b < a then b else a) n ≤ y
  | [], n => ⟨List.mem_cons_self, fun y h => by rw [List.mem_singleton.mp h]; exact Int.le_refl _⟩
  | m :: ns, n => by
    rw [List.foldl_cons]
    obtain ⟨h1, h2⟩ := foldMin_is ns (if m < n then m else n)
    refine ⟨?_, fun y hy => ?_⟩
    · rcases List.mem_cons.mp h1 with e | h
      · rw [e]; split
        · exact List.mem_cons_of_mem _ List.mem_cons_self
        · exact List.mem_cons_self
      · exact List.mem_cons_of_mem _ (List.mem_cons_of_mem _ h)
    · have h3 := h2 _ List.mem_cons_self
      (rcases List.mem_cons.mp hy with e | hy)
      · rw [e]; split at h3 <;> split <;> omega
      · rcases List.mem_cons.mp hy with e | hy
        · rw [e]; split at h3 <;> split <;> omega
        · exact h2 y (List.mem_cons_of_mem _ hy)
theorem foldMax_is : ∀ (ns : List Int) (n : Int), (ns.foldl (fun a b => if b > a then b else a) n ∈ n :: ns) ∧ ∀ y ∈ n :: ns, y ≤ ns.foldl (fun a b => if b > a then b else a) n
  | [], n => ⟨List.mem_cons_self, fun y h => by rw [List.mem_singleton.mp h]; exact Int.le_refl _⟩
  | m :: ns, n => by
    rw [List.foldl_cons]
    obtain ⟨h1, h2⟩ := foldMax_is ns (if m > n then m else n)
    refine ⟨?_, fun y hy => ?_⟩
    · rcases List.mem_cons.mp h1 with e | h
      · rw [e]; split
        · exact List.mem_cons_of_mem _ List.mem_cons_self
        · exact List.mem_cons_self
      · exact List.mem_cons_of_mem _ (List.mem_cons_of_mem _ h)
    · have h3 := h2 _ List.mem_cons_self
      (rcases List.mem_cons.mp hy with e | hy)
      · rw [e]; split at h3 <;> split <;> omega
      · rcases List.mem_cons.mp hy with e | hy
        · rw [e]; split at h3 <;> split <;> omega
        · exact h2 y (List.mem_cons_of_mem _ hy)
def oMin : PyData → Option PyData
  | .list ds => ((ints? ds).bind foldMin).map .int
  | _ => none
def oMax : PyData → Option PyData
  | .list ds => ((ints? ds).bind foldMax).map .int
  | _ => none
theorem is_min {K : PySem.W.Frag} : Is1 K .F oMin (rMin K) := by
  intro F G H σ δ x dx d Q er rx ho k
  cases dx with
  | list ds =>
    obtain ⟨a, xs, rfl, h1, r⟩ := res_lst er rx
    simp only [oMin] at ho
    cases hi : ints? ds with
    | none => rw [hi] at ho; cases ho
    | some ns =>
      rw [hi] at ho
      obtain ⟨rfl, rfl⟩ := ints_of hi r
      cases ns with
      | nil => cases ho
      | cons n ns =>
        cases ho
        refine ⟨a, n :: ns, rfl, SqL.of h1, Nat.succ_pos _, fun m hm hle => ?_⟩
        obtain ⟨w1, w2⟩ := foldMin_is ns n
        have : m = ns.foldl (fun a b => if b < a then b else a) n := Int.le_antisymm (hle _ w1) (w2 m hm)
        rw [this]
        exact k _ H G (Ex.refl G) er (.int _)
  | _ => cases ho
theorem is_max {K : PySem.W.Frag} : Is1 K .F oMax (rMax K) := by
  intro F G H σ δ x dx d Q er rx ho k
  cases dx with
  | list ds =>
    obtain ⟨a, xs, rfl, h1, r⟩ := res_lst er rx
    simp only [oMax] at ho
    cases hi : ints? ds with
    | none => rw [hi] at ho; cases ho
    | some ns =>
      rw [hi] at ho
      obtain ⟨rfl, rfl⟩ := ints_of hi r
      cases ns with
      | nil => cases ho
      | cons n ns =>
        cases ho
        refine ⟨a, n :: ns, rfl, SqL.of h1, Nat.succ_pos _, fun m hm hle => ?_⟩
        obtain ⟨w1, w2⟩ := foldMax_is ns n
        have : m = ns.foldl (fun a b => if b > a then b else a) n := Int.le_antisymm (w2 m hm) (hle _ w1)
        rw [this]
        exact k _ H G (Ex.refl G) er (.int _)
  | _ => cases ho

/-! ### list(range(..)) -/
def rgOk (a b : Int) : Bool := i62 a && i62 b && decide ((b - a).toNat ≤ 2 ^ 24)
def fLrg1 (fa : Dv → Rs (PyData × Dv)) : Dv → Rs (PyData × Dv) := fun δ => (fa δ).bind fun x => onI x.1 fun j => if rgOk 0 j = true then .ok (.list (rngD 0 j.toNat), x.2) else .bad
def fLrg2 (fa fb : Dv → Rs (PyData × Dv)) : Dv → Rs (PyData × Dv) := fun δ => (fa δ).bind fun x => (fb x.2).bind fun y => onI x.1 fun i => onI y.1 fun j => if rgOk i j = true then .ok (.list (rngD i (j - i).toNat), y.2) else .bad
theorem rgOk_of {a b : Int} (h : rgOk a b = true) : RgOk a b := by
  rw [rgOk, Bool.and_eq_true, Bool.and_eq_true] at h
  have h1 := i62_of h.1.1
  have h2 := i62_of h.1.2
  exact ⟨h1.1, h1.2, h2.1, h2.2, of_decide_eq_true h.2⟩
theorem rpa_rng {K : PySem.W.Frag} {G : Hp} (a b : Int) : RpA K G (rgV a b) (rngD a (b - a).toNat) := by
  unfold rgV rngD
  generalize List.range (b - a).toNat = l
  induction l with
  | nil => exact .nil
  | cons n l ih => exact .cons (.int _) ih
theorem m_lrg1 (hc : X.calm = true) (hg0 : Gl X "list") (hm0 : X.mg "list" = none) (hg : Gl X "range") (hm : X.mg "range" = none) (ha : Pm X cl W .F a fa) (na : starEach [a] X.env = (false, eval a X.env) :: starEach [] X.env)
    (nb : starEach [.Call (.Name "range" p2) [a] [] pos2] X.env = (false, eval (.Call (.Name "range" p2) [a] [] pos2) X.env) :: starEach [] X.env) : Pm X cl W .O (.Call (.Name "list" p) [.Call (.Name "range" p2) [a] [] pos2] [] pos) (fLrg1 fa) :=
  pe_weak (pe_listRg hc hg0 hm0 (prg_1 hg hm ha na) nb) fun σ H Q ⟨F, G, δ, er, pp⟩ => ⟨F, G, δ, er, Po.bind pp fun dx δ1 v H1 G1 e1 r1 rv p1 => by
    cases rv with
    | int j =>
      rw [onI_int] at p1
      by_cases h : rgOk 0 j = true
      · rw [if_pos h] at p1
        refine ⟨j, rfl, rgOk_of h, fun q hq => ?_⟩
        have w := own_new (o := .lst (rgV 0 j)) (d := .list (rngD 0 j.toNat)) r1 hq (.inl ⟨_, _, rfl, by have := rpa_rng (K := X.K) (G := G1) 0 j; rw [Int.sub_zero] at this; exact this, rfl⟩)
        exact p1 _ _ G1 (Ex.refl G1) w.1 w.2
      · rw [if_neg h] at p1; exact p1.elim
    | _ => exact p1.elim⟩
theorem m_lrg2 (hc : X.calm = true) (hg0 : Gl X "list") (hm0 : X.mg "list" = none) (hg : Gl X "range") (hm : X.mg "range" = none) (ha : Pm X cl W .F a fa) (hb : Pm X cl W .F b fb) (na : starEach [a, b] X.env = (false, eval a X.env) :: starEach [b] X.env) (na2 : starEach [b] X.env = (false, eval b X.env) :: starEach [] X.env)
    (hp : (backTo pos2 (starEach [b] X.env)).any (·.1) = false) (nb : starEach [.Call (.Name "range" p2) [a, b] [] pos2] X.env = (false, eval (.Call (.Name "range" p2) [a, b] [] pos2) X.env) :: starEach [] X.env) : Pm X cl W .O (.Call (.Name "list" p) [.Call (.Name "range" p2) [a, b] [] pos2] [] pos) (fLrg2 fa fb) :=
  pe_weak (pe_listRg hc hg0 hm0 (prg_2 hg hm ha hb na na2 hp) nb) fun σ H Q ⟨F, G, δ, er, pp⟩ => ⟨F, G, δ, er, Po.bind pp fun dx δ1 v H1 G1 e1 r1 rv p1 => ⟨F, G1, δ1, r1, Po.bind p1 fun dy δ2 v2 H2 G2 e2 r2 rv2 p2 => by
    cases rv with
    | int i =>
      cases rv2 with
      | int j =>
        rw [onI_int, onI_int] at p2
        by_cases h : rgOk i j = true
        · rw [if_pos h] at p2
          refine ⟨i, j, rfl, rfl, rgOk_of h, fun q hq => ?_⟩
          have w := own_new (o := .lst (rgV i j)) (d := .list (rngD i (j - i).toNat)) r2 hq (.inl ⟨_, _, rfl, rpa_rng i j, rfl⟩)
          exact p2 _ _ G2 (Ex.refl G2) w.1 w.2
        · rw [if_neg h] at p2; exact p2.elim
      | _ => exact p2.elim
    | _ => exact p2.elim⟩⟩

/-! ### zip, enumerate -/
def zipD : List PyData → List PyData → List PyData
  | x :: xs, y :: ys => .tuple [x, y] :: zipD xs ys
  | _, _ => []
def enumD : Int → List PyData → List PyData
  | _, [] => []
  | i, x :: xs => .tuple [.int i, x] :: enumD (i + 1) xs
theorem zipD_length : ∀ xs ys : List PyData, (zipD xs ys).length = min xs.length ys.length
  | [], _ => by simp [zipD]
  | _ :: _, [] => by simp [zipD]
  | x :: xs, y :: ys => by rw [zipD, List.length_cons, zipD_length xs ys, List.length_cons, List.length_cons]; omega
theorem zipD_get : ∀ {xs ys : List PyData} {i : Nat} {x y : PyData}, xs[i]? = some x → ys[i]? = some y → (zipD xs ys)[i]? = some (.tuple [x, y])
  | [], _, _, _, _, h, _ => (by simp at h)
  | _ :: _, [], _, _, _, _, h => (by simp at h)
  | a :: xs, b :: ys, 0, x, y, h1, h2 => by simp at h1 h2; subst h1 h2; rfl
  | a :: xs, b :: ys, i + 1, x, y, h1, h2 => by
    rw [List.getElem?_cons_succ] at h1 h2
    rw [zipD, List.getElem?_cons_succ]
    exact zipD_get h1 h2
theorem enumD_length : ∀ (xs : List PyData) (i : Int), (enumD i xs).length = xs.length
  | [], _ => rfl
  | x :: xs, i => by rw [enumD, List.length_cons, List.length_cons, enumD_length xs]
theorem enumD_get : ∀ {xs : List PyData} {i : Nat} {k : Int} {x : PyData}, xs[i]? = some x → (enumD k xs)[i]? = some (.tuple [.int (k + (i : Int)), x])
  | [], _, _, _, h => (by simp at h)
  | a :: xs, 0, k, x, h => by simp at h; subst h; simp [enumD]
  | a :: xs, i + 1, k, x, h => by
    rw [List.getElem?_cons_succ] at h
    rw [enumD, List.getElem?_cons_succ, enumD_get h]
    congr 4
    omega
theorem new_pair {K : PySem.W.Frag} {F : Fm} {G H : Hp} {σ : L2.St} {δ : Dv} {T : Addr} {x y : V} {dx dy : PyData} (er : ER K F G H σ δ) (hT : H T = none) (rx : Rp K G x dx) (ry : Rp K G y dy) :
    ∃ G2, Ex G G2 ∧ ER K F G2 (upd H T (.tup [x, y])) σ δ ∧ Rp K G2 (.ref T) (.tuple [dx, dy]) ∧ ∀ a o, H a = some o → upd H T (.tup [x, y]) a = some o := by
  obtain ⟨w1, w2, w3⟩ := new_tup er hT (.cons rx (.cons ry .nil))
  exact ⟨_, w1, w2, w3, fun a o h => by rw [upd_ne (ne_of_none h hT)]; exact h⟩
theorem wk_zipL {K : PySem.W.Frag} {G : Hp} {a b : Addr} {xs ys : List V} {ds es : List PyData} (ha : G a = some (.lst xs)) (hb : G b = some (.lst ys)) (ra : RpA K G xs ds) (rb : RpA K G ys es) : Wk K G (Itz K a b) (zipD ds es) where
  go := fun i G' H' hi e1 e2 => by
    rw [zipD_length] at hi
    exact ⟨xs, ys, _, _, SqL.of (e2 _ _ (e1 _ _ ha)), SqL.of (e2 _ _ (e1 _ _ hb)), List.getElem?_eq_getElem (by rw [ra.length]; omega), List.getElem?_eq_getElem (by rw [rb.length]; omega)⟩
  yld := fun i F σ δ G' H' H2 x hi e1 er ⟨T, u, v, ex, hT, eh, h1, h2⟩ => by
    subst ex eh
    obtain ⟨du, k1, k2⟩ := ra.get (h1 xs (SqL.of (er.ext _ _ (e1 _ _ ha))))
    obtain ⟨dv, k3, k4⟩ := rb.get (h2 ys (SqL.of (er.ext _ _ (e1 _ _ hb))))
    obtain ⟨G2, w1, w2, w3, w4⟩ := new_pair er hT (k2.mono e1) (k4.mono e1)
    exact ⟨G2, _, w1, w2, zipD_get k1 k3, w3, w4⟩
  stop := fun G' H' e1 e2 => ⟨xs, ys, SqL.of (e2 _ _ (e1 _ _ ha)), SqL.of (e2 _ _ (e1 _ _ hb)), by rw [zipD_length, ra.length, rb.length]; omega⟩
theorem wk_zipT {K : PySem.W.Frag} {G : Hp} {a b : Addr} {xs ys : List V} {ds es : List PyData} (ha : G a = some (.tup xs)) (hb : G b = some (.tup ys)) (ra : RpA K G xs ds) (rb : RpA K G ys es) : Wk K G (RZ.ItzT K a b) (zipD ds es) where
  go := fun i G' H' hi e1 e2 => by
    rw [zipD_length] at hi
    exact ⟨xs, ys, _, _, SqT.of (e2 _ _ (e1 _ _ ha)), SqT.of (e2 _ _ (e1 _ _ hb)), List.getElem?_eq_getElem (by rw [ra.length]; omega), List.getElem?_eq_getElem (by rw [rb.length]; omega)⟩
  yld := fun i F σ δ G' H' H2 x hi e1 er ⟨T, u, v, ex, hT, eh, h1, h2⟩ => by
    subst ex eh
    obtain ⟨du, k1, k2⟩ := ra.get (h1 xs (SqT.of (er.ext _ _ (e1 _ _ ha))))
    obtain ⟨dv, k3, k4⟩ := rb.get (h2 ys (SqT.of (er.ext _ _ (e1 _ _ hb))))
    obtain ⟨G2, w1, w2, w3, w4⟩ := new_pair er hT (k2.mono e1) (k4.mono e1)
    exact ⟨G2, _, w1, w2, zipD_get k1 k3, w3, w4⟩
  stop := fun G' H' e1 e2 => ⟨xs, ys, SqT.of (e2 _ _ (e1 _ _ ha)), SqT.of (e2 _ _ (e1 _ _ hb)), by rw [zipD_length, ra.length, rb.length]; omega⟩
theorem wk_enum {K : PySem.W.Frag} {G : Hp} {a : Addr} {xs : List V} {ds : List PyData} (ha : G a = some (.lst xs)) (ra : RpA K G xs ds) : Wk K G (Ite K a) (enumD 0 ds) where
  go := fun i G' H' hi e1 e2 => by
    rw [enumD_length] at hi
    exact ⟨xs, _, SqL.of (e2 _ _ (e1 _ _ ha)), List.getElem?_eq_getElem (by rw [ra.length]; omega)⟩
  yld := fun i F σ δ G' H' H2 x hi e1 er ⟨T, u, ex, hT, eh, h1⟩ => by
    subst ex eh
    obtain ⟨du, k1, k2⟩ := ra.get (h1 xs (SqL.of (er.ext _ _ (e1 _ _ ha))))
    obtain ⟨G2, w1, w2, w3, w4⟩ := new_pair er hT (.int (i : Int)) (k2.mono e1)
    have := enumD_get (k := 0) k1
    rw [Int.zero_add] at this
    exact ⟨G2, _, w1, w2, this, w3, w4⟩
  stop := fun G' H' e1 e2 => ⟨xs, SqL.of (e2 _ _ (e1 _ _ ha)), by rw [enumD_length, ra.length]; omega⟩
def zip2 : PyData → PyData → Option (List PyData)
  | .list xs, .list ys => some (zipD xs ys)
  | .tuple xs, .tuple ys => some (zipD xs ys)
  | _, _ => none
def wZip (fa fb : Dv → Rs (PyData × Dv)) : Dv → Rs (List PyData × Dv) := fun δ => (fa δ).bind fun x => (fb x.2).bind fun y => liftL (zip2 x.1 y.1) y.2
theorem i_zip {elts : List Expr} {kk : Nat} {tpos : Pos} (hg : Gl X "zip") (hm : X.mg "zip" = none) (ha : Pm X cl W .F a fa) (hb : Pm X cl W .F b fb) (hs : starEach [a, b] X.env = (false, eval a X.env) :: starEach [b] X.env) (hs2 : starEach [b] X.env = (false, eval b X.env) :: starEach [] X.env) (hpl : (backTo pos (starEach [b] X.env)).any (·.1) = false) :
    Pi' X cl W (.Tuple elts kk tpos) (.Call (.Name "zip" p) [a, b] [] pos) (wZip fa fb) :=
  pi_weak (RZ.pi_zipA hg hm (pa_cons ha (pa_cons hb pa_nil hs2) hs) hs hpl) fun σ H R ⟨F, G, δ, er, pp⟩ => ⟨F, G, δ, er, Po.bindI pp fun dx δ1 v H1 G1 e1 r1 rv p1 => ⟨F, G1, δ1, r1, Po.bindI p1 fun dy δ2 v2 H2 G2 e2 r2 rv2 p2 => by
    cases dx with
    | list xs =>
      cases dy with
      | list ys =>
        obtain ⟨q1, l1, rfl, h1, k1⟩ := rp_lst (Rp.mono e2 rv)
        obtain ⟨q2, l2, rfl, h2, k2⟩ := rp_lst rv2
        exact ⟨q1, q2, l1, l2, rfl, .inl ⟨SqL.of (r2.ext _ _ h1), SqL.of (r2.ext _ _ h2), p2 _ H2 G2 (Ex.refl G2) r2 (wk_zipL h1 h2 k1 k2)⟩⟩
      | _ => exact p2.elim
    | tuple xs =>
      cases dy with
      | tuple ys =>
        obtain ⟨q1, l1, rfl, h1, k1⟩ := rp_tup (Rp.mono e2 rv)
        obtain ⟨q2, l2, rfl, h2, k2⟩ := rp_tup rv2
        exact ⟨q1, q2, l1, l2, rfl, .inr ⟨SqT.of (r2.ext _ _ h1), SqT.of (r2.ext _ _ h2), p2 _ H2 G2 (Ex.refl G2) r2 (wk_zipT h1 h2 k1 k2)⟩⟩
      | _ => exact p2.elim
    | _ => exact p2.elim⟩⟩
def enum1 : PyData → Option (List PyData)
  | .list xs => some (enumD 0 xs)
  | _ => none
def wEnum (fa : Dv → Rs (PyData × Dv)) : Dv → Rs (List PyData × Dv) := fun δ => (fa δ).bind fun x => liftL (enum1 x.1) x.2
theorem i_enum {elts : List Expr} {kk : Nat} {tpos : Pos} (hg : Gl X "enumerate") (hm : X.mg "enumerate" = none) (ha : Pm X cl W .F a fa) (hs : starEach [a] X.env = [(false, eval a X.env)]) :
    Pi' X cl W (.Tuple elts kk tpos) (.Call (.Name "enumerate" p) [a] [] pos) (wEnum fa) :=
  pi_weak (pi_enum hg hm (pa_cons ha pa_nil (by rw [hs]; rfl)) hs) fun σ H R ⟨F, G, δ, er, pp⟩ => ⟨F, G, δ, er, Po.bindI pp fun dx δ1 v H1 G1 e1 r1 rv p1 => by
    cases dx with
    | list xs =>
      obtain ⟨q1, l1, rfl, h1, k1⟩ := rp_lst rv
      exact ⟨q1, l1, rfl, SqL.of (r1.ext _ _ h1), p1 _ H1 G1 (Ex.refl G1) r1 (wk_enum h1 k1)⟩
    | _ => exact p1.elim⟩

/-! ### dicts -/
/-- d[k] -/
def ixDct (d k : PyData) : Option PyData := match d with
  | .dict es => if scrG es = true then none else (dGetD es k).bind id
  | _ => none
theorem m_dix {n : Nat} (hr : Room n X.A) (ha : Pm X cl W .F a fa) (hb : Pm X cl W .F b fb) (hs : NoSl b) : Pm X cl W .F (.Subscript a b pos) (f2 ixDct fa fb) :=
  pe_weak (pe_dget (by have := hr.un; omega) ha hb hs) fun σ H Q ⟨F, G, δ, er, pp⟩ => ⟨F, G, δ, er, Po.bind pp fun dx δ1 x H1 G1 e1 r1 rx p1 => ⟨F, G1, δ1, r1, Po.bind p1 fun dy δ2 y H2 G2 e2 r2 ry p2 => by
    cases dx with
    | dict es =>
      simp only [ixDct] at p2
      split at p2
      · exact p2.elim
      · rename_i hsc
        rw [Bool.not_eq_true] at hsc
        obtain ⟨q, o, kvs, rfl, h1, hk, rr⟩ := res_dct r2 (.inl (Rp.mono e2 rx)) hsc
        cases hg : dGetD es dy with
        | none => rw [hg] at p2; exact p2.elim
        | some w =>
          rw [hg] at p2
          rcases dget_of r2.ext h1 hk rr ry hg with ⟨rfl, g⟩ | ⟨v, d, rfl, g, rv⟩
          · exact p2.elim
          · exact ⟨q, v, rfl, g, p2 v H2 G2 (Ex.refl G2) r2 rv⟩
    | _ => exact p2.elim⟩⟩
/-- d[k], the dict in slot i -/
def fDixv (i : Nat) (fb : Dv → Rs (PyData × Dv)) : Dv → Rs (PyData × Dv) := fun δ => match δ[i]? with
  | some (some _) => (fb δ).bind fun y => (match y.2[i]? with
    | some (some s) => lift (ixDct s.data y.1) y.2
    | _ => .bad)
  | _ => .bad
/-- what is read of a slot is there now -/
theorem slot_res {K : PySem.W.Frag} {F : Fm} {G H : Hp} {σ : L2.St} {δ : Dv} {i : Nat} {s : SV} (er : ER K F G H σ δ) (hi : δ[i]? = some (some s)) : ∃ v, σ[i]? = some (some v) ∧ Res K F G H σ δ .B v s.data := by
  obtain ⟨v, h1, h2⟩ := er.slot i s hi
  refine ⟨v, h1, ?_⟩
  cases s with
  | v d => exact .inl h2
  | m d => obtain ⟨p, o, rfl, _, k2, k3⟩ := h2; exact .inr ⟨p, o, rfl, k2, k3⟩
  | a d => obtain ⟨p, o, rfl, _, k2, k3⟩ := h2; exact .inr ⟨p, o, rfl, k2, k3⟩
theorem m_dixv {n : Nat} (i : Nat) {x : Str} (hr : Room n X.A) (hv : PE X (.Name x p) (tVar i)) (hb : Pm X cl W .F b fb) (hs : NoSl b) : Pm X cl W .F (.Subscript (.Name x p) b pos) (fDixv i fb) :=
  pe_weak (pe_dget (by have := hr.un; omega) hv hb hs) fun σ H Q ⟨F, G, δ, er, pp⟩ => by
    unfold fDixv at pp
    cases hi : δ[i]? with
    | none => rw [hi] at pp; exact pp.elim
    | some o0 =>
    cases o0 with
    | none => rw [hi] at pp; exact pp.elim
    | some s0 =>
    rw [hi] at pp
    simp only at pp
    obtain ⟨v0, hv0, _⟩ := er.slot i s0 hi
    refine ⟨v0, hv0, F, G, δ, er, Po.bind pp fun dy δ2 y H2 G2 e2 r2 ry p2 => ?_⟩
    cases hi2 : δ2[i]? with
    | none => simp only [hi2] at p2; exact p2.elim
    | some o1 =>
    cases o1 with
    | none => simp only [hi2] at p2; exact p2.elim
    | some s =>
    simp only [hi2] at p2
    obtain ⟨v1, hv1, ok⟩ := slot_res r2 hi2
    rw [hv0] at hv1
    cases hv1
    cases hd : s.data with
    | dict es =>
      rw [hd] at p2 ok
      simp only [ixDct] at p2
      split at p2
      · exact p2.elim
      · rename_i hsc
        rw [Bool.not_eq_true] at hsc
        obtain ⟨q, o, kvs, rfl, h1, hk, rr⟩ := res_dct r2 ok hsc
        cases hg : dGetD es dy with
        | none => rw [hg] at p2; exact p2.elim
        | some w =>
          rw [hg] at p2
          rcases dget_of r2.ext h1 hk rr ry hg with ⟨rfl, g⟩ | ⟨v, d, rfl, g, rv⟩
          · exact p2.elim
          · exact ⟨q, v, rfl, g, p2 v H2 G2 (Ex.refl G2) r2 rv⟩
    | _ => rw [hd] at p2; exact p2.elim
/-- d[k] = v -/
def putE (p : PyData → Bool) (es : List (PyData × PyData)) (k v : PyData) : List (PyData × PyData) :=
  if (es.any fun e => p e.1) = true then es.map (fun e => if p e.1 = true then (e.1, v) else e) else es ++ [(k, v)]
def dPutD (es : List (PyData × PyData)) (k v : PyData) : Option (List (PyData × PyData)) := match isDT es with
  | some r => (keyT k).bind fun q => if r.length < sizeLine then some ((.none, .none) :: putE (fun x => decide (keyT x = some q)) r k v) else none
  | none => if scrG es = true then none else (keyK k).bind fun q => if es.length < sizeLine then some (putE (fun x => decide (keyK x = some q)) es k v) else none
theorem rpk_length {K : PySem.W.Frag} {G : Hp} : ∀ {kvs : List (PyData × V)} {es : List (PyData × PyData)}, RpK K G kvs es → kvs.length = es.length
  | _, _, .nil => rfl
  | _, _, .cons _ r => congrArg (· + 1) (rpk_length r)
theorem rpk_snoc {K : PySem.W.Frag} {G : Hp} {k d : PyData} {v : V} (h : Rp K G v d) : ∀ {kvs : List (PyData × V)} {es : List (PyData × PyData)}, RpK K G kvs es → RpK K G (kvs ++ [(k, v)]) (es ++ [(k, d)])
  | _, _, .nil => .cons h .nil
  | _, _, .cons h1 r => .cons h1 (rpk_snoc h r)
/-- putting, over any make of keys -/
theorem rpk_put {K : PySem.W.Frag} {G : Hp} {κ : Type} [DecidableEq κ] (enc : κ → PyData) (p : PyData → Bool) (q : κ) (hp : ∀ k, p (enc k) = decide (k = q)) {v : V} {d : PyData} (h : Rp K G v d) {kvs : List (κ × V)} {es : List (PyData × PyData)}
    (r : RpK K G (kvs.map fun x => (enc x.1, x.2)) es) : RpK K G ((putK kvs q v).map fun x => (enc x.1, x.2)) (putE p es (enc q) d) := by
  have hany : ∀ {kvs : List (κ × V)} {es : List (PyData × PyData)}, RpK K G (kvs.map fun x => (enc x.1, x.2)) es → (es.any fun e => p e.1) = (kvs.any fun kv => decide (kv.1 = q)) := by
    intro kvs
    induction kvs with
    | nil => intro es r; cases r; rfl
    | cons x kvs ih =>
      intro es r
      cases r with
      | cons r1 r2 => rw [List.any_cons, List.any_cons, ih r2, hp]
  have hmap : ∀ {kvs : List (κ × V)} {es : List (PyData × PyData)}, RpK K G (kvs.map fun x => (enc x.1, x.2)) es → RpK K G ((kvs.map fun kv => if kv.1 = q then (kv.1, v) else kv).map fun x => (enc x.1, x.2)) (es.map fun e => if p e.1 = true then (e.1, d) else e) := by
    intro kvs
    induction kvs with
    | nil => intro es r; cases r; exact .nil
    | cons x kvs ih =>
      intro es r
      cases r with
      | cons r1 r2 =>
        rw [List.map_cons, List.map_cons, List.map_cons]
        simp only [hp]
        by_cases hx : x.1 = q
        · rw [if_pos hx, if_pos (decide_eq_true hx)]
          exact .cons h (ih r2)
        · rw [if_neg hx, if_neg (by rw [decide_eq_false hx]; exact nofun)]
          exact .cons r1 (ih r2)
  unfold putK putE
  rw [hany r]
  by_cases hc : (kvs.any fun kv => decide (kv.1 = q)) = true
  · rw [if_pos hc, if_pos hc]
    exact hmap r
  · rw [if_neg hc, if_neg hc, List.map_append]
    exact rpk_snoc h r
theorem kD_inj {a b : Key} (h : kD a = kD b) : a = b := by
  have := congrArg keyK h
  rw [keyK_kD, keyK_kD] at this
  exact Option.some.inj this
theorem keyK_dec (k q : Key) : decide (keyK (kD k) = some q) = decide (k = q) := by
  rw [keyK_kD]
  by_cases h : k = q
  · rw [h]; simp
  · rw [decide_eq_false h, decide_eq_false fun z => h (Option.some.inj z)]
theorem keyT_dec (k q : List Key) : decide (keyT (.tuple (k.map kD)) = some q) = decide (k = q) := by
  rw [show keyT (.tuple (k.map kD)) = some k from keysK_kD k]
  by_cases h : k = q
  · rw [h]; simp
  · rw [decide_eq_false h, decide_eq_false fun z => h (Option.some.inj z)]
theorem dput_of {K : PySem.W.Frag} {G H : Hp} {a : Addr} {o : HO} {kvs : List (PyData × V)} {es es' : List (PyData × PyData)} {y v : V} {dy dv : PyData} (eg : Ex G H) (h : H a = some o) (hk : hoKV o = some kvs) (r : RpK K G kvs es) (ry : Rp K G y dy) (rv : Rp K G v dv) (hd : dPutD es dy dv = some es') :
    ∃ o' kvs', DPut H a y v (upd H a o') ∧ hoKV o' = some kvs' ∧ RpK K G kvs' es' := by
  cases o with
  | dK l =>
    cases hk
    obtain ⟨e1, e2⟩ := dK_data r
    simp only [dPutD, e1, e2, Option.isSome_none, Bool.false_eq_true, if_false] at hd
    cases hq : keyK dy with
    | none => rw [hq] at hd; cases hd
    | some q =>
      rw [hq] at hd
      simp only [Option.bind_some] at hd
      split at hd
      · rename_i hz
        cases hd
        obtain rfl := keyK_of hq
        obtain rfl := rp_key ry
        have hl := rpk_length r
        rw [List.length_map] at hl
        exact ⟨_, _, DPut.k h (by rw [hl]; exact hz), rfl, rpk_put kD _ q (fun k => keyK_dec k q) rv r⟩
      · cases hd
  | dT l =>
    cases hk
    obtain ⟨r', rfl, r2⟩ := dT_data r
    simp only [dPutD, isDT] at hd
    cases hq : keyT dy with
    | none => rw [hq] at hd; cases hd
    | some q =>
      rw [hq] at hd
      simp only [Option.bind_some] at hd
      split at hd
      · rename_i hz
        cases hd
        cases dy with
        | tuple ds =>
          obtain rfl := keysK_of hq
          obtain ⟨b, xs, rfl, hb, ra⟩ := rp_tup ry
          obtain rfl := rpa_keys ra
          have hl := rpk_length r2
          rw [List.length_map] at hl
          exact ⟨_, _, DPut.t h (eg _ _ hb) (by rw [hl]; exact hz), rfl, .cons .non (rpk_put (fun k => .tuple (k.map kD)) _ q (fun k => keyT_dec k q) rv r2)⟩
        | _ => cases hq
      · cases hd
  | _ => cases hk
def gStD (i : Nat) (fk fe : Dv → Rs (PyData × Dv)) : Dv → Rs (Fl × Dv) := fun δ => (fe δ).bind fun v => (match v.2[i]? with
  | some (some s0) => if s0.mut = true then (fk v.2).bind fun k => (match k.2[i]? with
      | some (some s) => if s.mut = true then (match s.data with
          | .dict es => if scrG es = true then .bad else (match dPutD es k.1 v.1 with
            | some es' => .ok (.nx, k.2.set i (some (s.put (.dict es'))))
            | none => .bad)
          | _ => .bad) else .bad
      | _ => .bad) else .bad
  | _ => .bad)
theorem s_subD {n : Nat} {i : Nat} {x : Str} (hr : Room n X.A) (hv : PE X (.Name x p) (tVar i)) (hk : Pm X cl W .F b fb) (he : Pm X cl W .F a fa) (hs : swapsWith a (some (.Subscript (.Name x p) b p2)) pos.line X.env = pure false) : Ps X cl W kr (.Assign [.Subscript (.Name x p) b p2] a pos) (gStD i fb fa) :=
  ps_weak (ps_dput (by have := hr.un; omega) hv hk he hs) fun D σ H ⟨F, G, δ, er, pp⟩ => ⟨F, G, δ, er, Po.bindS pp fun dv δ1 v H1 G1 e1 r1 rv p1 => by
    cases hi : δ1[i]? with
    | none => simp only [hi] at p1; exact p1.elim
    | some o0 =>
    cases o0 with
    | none => simp only [hi] at p1; exact p1.elim
    | some s0 =>
    simp only [hi] at p1
    have hm0 : s0.mut = true := by
      by_cases h : s0.mut = true
      · exact h
      · rw [if_neg h] at p1; exact p1.elim
    rw [if_pos hm0] at p1
    obtain ⟨q, o, k1, _⟩ := r1.isMut hi hm0
    refine ⟨_, k1, F, G1, δ1, r1, Po.bindS p1 fun dk δ2 kv H2 G2 e2 r2 rk p2 => ?_⟩
    cases hi2 : δ2[i]? with
    | none => simp only [hi2] at p2; exact p2.elim
    | some o0 =>
    cases o0 with
    | none => simp only [hi2] at p2; exact p2.elim
    | some s =>
    simp only [hi2] at p2
    have hm : s.mut = true := by
      by_cases h : s.mut = true
      · exact h
      · rw [if_neg h] at p2; exact p2.elim
    rw [if_pos hm] at p2
    obtain ⟨q', o', j1, j2, j3, j4, _⟩ := r2.isMut hi2 hm
    rw [k1] at j1
    cases j1
    cases hd : s.data with
    | dict es =>
      rw [hd] at p2 j4
      simp only at p2
      split at p2
      · exact p2.elim
      · cases hp : dPutD es dk dv with
        | none => simp only [hp] at p2; exact p2.elim
        | some es' =>
          simp only [hp] at p2
          rcases j4 with ⟨_, _, _, _, ed⟩ | ⟨kvs, es2, hkv, rr, ed⟩
          · cases ed
          · cases ed
            obtain ⟨o2, kvs2, w1, w2, w3⟩ := dput_of r2.ext j3 hkv rr rk (Rp.mono e2 rv) hp
            exact ⟨q, _, rfl, w1, p2 σ _ G2 (Ex.refl G2) (r2.wr hi2 hm k1 (.inr ⟨kvs2, es', w2, w3, rfl⟩))⟩
    | _ => rw [hd] at p2; exact p2.elim⟩
/-! {}, {k: v} -/
theorem m_dK : Pm X cl W .O (.Dict [] [] pos) (fC (.dict [])) := pe_weak pe_dnewK fun σ H Q ⟨F, G, δ, er, pp⟩ q hq => by
  have w := own_new (o := .dK []) (d := .dict []) er hq (.inr ⟨_, _, rfl, .nil, rfl⟩)
  exact pp _ _ G (Ex.refl G) w.1 w.2
theorem m_dT : Pm X cl W .O (.Dict [] [] pos) (fC (.dict [(.none, .none)])) := pe_weak pe_dnewT fun σ H Q ⟨F, G, δ, er, pp⟩ q hq => by
  have w := own_new (o := .dT []) (d := .dict [(.none, .none)]) er hq (.inr ⟨_, _, rfl, .cons .non .nil, rfl⟩)
  exact pp _ _ G (Ex.refl G) w.1 w.2
def fD1 (fa fb : Dv → Rs (PyData × Dv)) : Dv → Rs (PyData × Dv) := fun δ => if allAb δ = true then (fa δ).bind fun x => (fb x.2).bind fun y => (match keyK x.1 with
  | some _ => .ok (.dict [(x.1, y.1)], y.2)
  | none => .bad) else .bad
end
end Pw

set_option maxRecDepth 100000
set_option maxHeartbeats 3900000
/-! ## 11. sorted tuples, sorted sets of pairs, turned tuples, displays of dicts -/
namespace Pw
open PySem L2
open Evl (Ex ex_rd fresh_back)

/-! ### sorted of a tuple -/
section
open PyProof.Rows
variable {prog : Program}
variable {w : World} {A : Around} {E : Value → Shared → Prop} {s : Shared}
/-- the items of a tuple, gathered -/
theorem gather_tup {tt : Addr} {us : List Value} {Q : List Value → Shared → Prop} (ht : s.heap.IsTuple tt us.toArray) (hz : us.length ≤ sizeLine)
    (k : Q us { s with heap := (s.heap.push (seqObj "list" #[] 0)).update s.heap.objs.size (Obj.mapSeq (· ++ us.toArray)) }) : wpAny (model prog w) A (collect (.ref tt)) Q E s := by
  obtain ⟨ot, gt, ct, nt, dt⟩ := id ht
  have gt' : (s.heap.push (seqObj "list" #[] 0)).get? tt = some ot := Heap.get?_push_of_some _ gt
  have g0 : (s.heap.push (seqObj "list" #[] 0)).get? s.heap.objs.size = some (seqObj "list" #[] 0) := Heap.get?_push_size _ rfl
  have un : wpAny (model prog w) A.in1 (Builtin.List.listExtendWith (.ref s.heap.objs.size) (.ref tt) (.ref s.heap.objs.size)) (fun r s' => r = .done (.ret (.ref s.heap.objs.size)) ∧ s' = { s with heap := (s.heap.push (seqObj "list" #[] 0)).update s.heap.objs.size (Obj.mapSeq (· ++ us.toArray)) }) E { s with heap := s.heap.push (seqObj "list" #[] 0) } := by
    (unfold Builtin.List.listExtendWith)
    refine wpAny_bind (wpAny_typeOf (T := "tuple") ⟨ot, gt', ct⟩ ?_)
    rw [if_pos (by rw [show (Value.type "tuple" == Value.type "tuple") = true from rfl]; simp)]
    refine wpAny_bind (listItems_at gt' dt (wpAny_bind (listItems_at (xs := #[]) (n := 0) g0 rfl ?_)))
    rw [if_neg (by simp)]
    refine wpAny_bind (listUpdate_at (xs := #[]) (n := 0) g0 rfl (wpAny_bind (wpAny_pure (wpAny_pure ⟨rfl, rfl⟩))) (Nat.zero_le _) ?_)
    show (#[] ++ us.toArray).size ≤ sizeLine + 1
    simp only [Array.size_append, List.size_toArray, List.length_nil]
    omega
  unfold collect
  (refine wpAny_bind (wpAny_runValue (codeAny_builtin entry_proto_collect' ?_)))
  refine wpAny_bind (m := newList []) (wpAny_newList (wpAny_pure ⟨Code.quiet_builtin _ (by decide +kernel), codeAny_builtin entry_list_iadd' (wpAny_mono un (fun r s' hr => ?_) fun _ _ x => x)⟩))
  obtain ⟨rfl, rfl⟩ := hr
  refine wpAny_bind (wpAny_load (get?_update_seq g0 _) ?_)
  have e : ((#[] : Array Value) ++ us.toArray).toList = us := by simp
  show wpAny _ _ (pure ((#[] : Array Value) ++ us.toArray).toList) Q E _
  rw [e]
  exact wpAny_pure k
/-- sorted of a tuple: any order that sorts a list of the same -/
theorem srt_tup {tt : Addr} {us : List Value} {lt : Value → Value → Bool} {Q : Value → Shared → Prop} (O : SrtO.Swo lt) (ht : s.heap.IsTuple tt us.toArray) (hz : us.length ≤ sizeLine)
    (hS : 2 ≤ us.length → ∀ (hp : Heap) (b : Addr), hp.get? b = some (seqObj "list" us.toArray 0) → (∀ c u, s.heap.get? c = some u → hp.get? c = some u) → SrtO.SortableO prog w A.in1.in1 { s with heap := hp } b us lt)
    (k : ∀ out : List Value, SrtO.Srtd lt out → SrtO.Stb lt out us → Q (.ref (s.heap.objs.size + 1)) { s with heap := sortedAll s.heap us out.toArray }) : wpAny (model prog w) A (call (.builtin "sorted") [.ref tt]) Q E s := by
  let h1 := (s.heap.push (seqObj "list" #[] 0)).update s.heap.objs.size (Obj.mapSeq (· ++ us.toArray))
  have z1 : h1.objs.size = s.heap.objs.size + 1 := (Heap.size_update ..).trans (size_push' _ _)
  have g1 : (h1.push (seqObj "list" us.toArray 0)).get? (s.heap.objs.size + 1) = some (seqObj "list" us.toArray 0) := z1 ▸ Heap.get?_push_size _ rfl
  (refine Calls.call_function_entry kind_sorted plain_sorted entry_sorted (args_sorted1 _) ?_)
  unfold Builtin.«sorted»
  refine wpAny_bind (m := checkCount "sorted" 1 1 _) (wpAny_pure (wpAny_bind (gather_tup ht hz (wpAny_bind (wpAny_newList ?_ hz)))))
  show wpAny _ _ _ _ _ { s with heap := h1.push (seqObj "list" us.toArray 0) }
  have z2 : ((s.heap.push (seqObj "list" #[] 0)).update s.heap.objs.size (Obj.mapSeq (· ++ us.toArray))).objs.size = s.heap.objs.size + 1 := z1
  simp only [z2]
  refine wpAny_bind (wpAny_holding (wpAny_call_entry slot_list_sort ⟨_, g1, rfl⟩ entry_list_sort (SrtO.list_sort_ord O g1 hz (fun h2 => hS h2 _ _ g1 fun c u q => ?_) fun out a1 a2 => ⟨_, rfl, wpAny_pure ⟨_, rfl, k out a1 a2⟩⟩) (args_list_sort _)))
  exact Heap.get?_push_of_some _ ((Heap.get?_update_ne _ _ _ _ (Nat.ne_of_lt (Heap.lt_size q))).trans (Heap.get?_push_of_some _ q))
end
section
variable {X : Cx}
/-- sorted of a tuple of whole numbers -/
def rSrtTI (K : PySem.W.Frag) : List V → Hp → VK → Prop := fun xs H Q => ∃ (tt : Addr) (ns : List Int), xs = [V.ref tt] ∧ SqT K H tt (ns.map V.int) ∧
  ∀ (ms : List Int) (q : Addr), ms.Perm ns → ms.Pairwise (· ≤ ·) → H q = none → Q (.ref q) (upd H q (.lst (ms.map V.int)))
theorem cr_srtTI : CallR X (.builtin "sorted") (rSrtTI X.K) := by
  intro pins s σ H xs us Q I rx ⟨tt, ns, ex, ht, k⟩
  subst ex
  obtain ⟨its, rv, tl, hz⟩ := I.tuple ht
  have hi := rv.ints
  rw [List.length_map] at hz
  have hl : its.length ≤ sizeLine := by rw [← rv.length, List.length_map]; exact hz
  rw [Vals.ref1 rx]
  refine srt_tup SrtO.swo_int tl hl (fun h2 _ _ _ _ => SrtO.ints_sortable hi h2) fun out a1 a2 => ?_
  obtain ⟨c1, c2, c3⟩ := SrtO.ints_out hi a1 a2
  obtain ⟨ep, he⟩ := PyProof.Rows.sortedAll_at s.heap its out.toArray
  refine ⟨.ref _, _, I.laid (o := .lst ((out.map SrtO.iv).map V.int)) (t' := s.toks) (fun _ _ => PyProof.Rows.sortedAll_old) (Nat.le_succ _) ⟨?_, out, ep, vals_of_ints c1, he⟩, rfl, k _ _ c2 c3 (I.hok.fresh (Nat.le_succ _))⟩
  rw [List.length_map, c2.length_eq]
  exact hz
/-- sorted of a tuple of pairs -/
def rSrtTP (K : PySem.W.Frag) : List V → Hp → VK → Prop := fun vs H Q => ∃ (tt : Addr) (xs : List V) (k : V → Int × Int), vs = [V.ref tt] ∧ SqT K H tt xs ∧ (∀ x ∈ xs, ∃ t, x = .ref t ∧ H t = some (.tup [.int (k x).1, .int (k x).2])) ∧
  ∀ ys q, SrtO.Srtd (ltP k) ys → SrtO.Stb (ltP k) ys xs → H q = none → Q (.ref q) (upd H q (.lst ys))
theorem cr_srtTP : CallR X (.builtin "sorted") (rSrtTP X.K) := by
  intro pins s σ H vs us Q I rx ⟨tt, xs, k, ex, ht, hx, kk⟩
  subst ex
  obtain ⟨its, rv, tl, hz⟩ := I.tuple ht
  obtain ⟨b1, b2⟩ := refs_back rv fun x m => (hx x m).elim fun t z => ⟨t, z.1⟩
  have hp : ∀ u ∈ its, Srt.IsPair s.heap u (k (backV u)).1 (k (backV u)).2 := fun v hv => by
    obtain ⟨t, et⟩ := b2 v hv
    subst et
    obtain ⟨t2, e2, g2⟩ := hx (V.ref t) (by rw [b1]; exact List.mem_map.mpr ⟨_, hv, rfl⟩)
    cases e2
    obtain ⟨_, js, rj, ob, h1, h2, n, h3⟩ := I.hok _ _ g2
    obtain ⟨w1, w2, ew, ⟨p1, q1⟩, p2, q2⟩ := vals2 rj
    subst ew q1 q2
    exact ⟨t, ob, p1, p2, n, rfl, h1, h2, h3⟩
  rw [Vals.ref1 rx]
  refine srt_tup (SrtO.swo_lex fun u => k (backV u)) tl (by rw [← rv.length]; exact hz) (fun h2 hp' b hb kp => ?_) fun out a1 a2 => ?_
  · refine SrtO.pairs_sortableO (s := { s with heap := hp' }) (by omega) (fun v m => (hp v m).keeps fun c o e _ => kp c o e) fun o e hc => ?_
    cases (show some o = some (PyProof.Rows.seqObj "list" its.toArray 0) from e.symm.trans hb)
    exact absurd (Value.type.inj hc) (by decide)
  · have h3 : ∀ u ∈ out, ∃ t, u = Value.ref t := fun u m => b2 u (a2.perm.mem_iff.mp m)
    obtain ⟨ep, he⟩ := PyProof.Rows.sortedAll_at s.heap its out.toArray
    have hb : SrtO.Stb (ltP k) (out.map backV) xs := b1 ▸ SrtO.Stb.map (ltP_swo k) backV a2
    exact ⟨.ref _, _, I.laid (o := .lst (out.map backV)) (t' := s.toks) (fun _ _ => PyProof.Rows.sortedAll_old) (Nat.le_succ _) ⟨hb.len ▸ hz, out, ep, vals_back h3, he⟩, rfl, kk _ _ (SrtO.srtd_map a1) hb (I.hok.fresh (Nat.le_succ _))⟩
end
section
variable {X : Cx}
/-- sorted of a list or a tuple -/
def oSortA : PyData → Option PyData
  | .list ds => (sortD ds).map .list
  | .tuple ds => (sortD ds).map .list
  | _ => none
def rSortX (K : PySem.W.Frag) : List V → Hp → VK → Prop := fun xs H Q => rSortAll K xs H Q ∨ rSrtTI K xs H Q ∨ rSrtTP K xs H Q
theorem cr_sortX : CallR X (.builtin "sorted") (rSortX X.K) := cr_sortAll.or (cr_srtTI.or cr_srtTP)
theorem is_sortX {K : PySem.W.Frag} : Is1 K .O oSortA (rSortX K) := by
  intro F G H σ δ x dx d Q er rx ho k
  cases dx with
  | list ds => exact .inl (is_sorted F G H σ δ x _ d Q er rx ho k)
  | tuple ds =>
    refine .inr ?_
    obtain ⟨a, xs, rfl, h1, _, r⟩ := res_tup er rx
    simp only [oSortA, sortD] at ho
    cases hi : ints? ds with
    | some ns =>
      rw [hi] at ho
      cases ho
      obtain ⟨rfl, rfl⟩ := ints_of hi r
      refine .inl ⟨a, ns, rfl, SqT.of h1, fun ns' q hp hs hq => ?_⟩
      obtain rfl := srtI_of hp hs
      have z := own_new (o := .lst ((srtI ns).map V.int)) er hq (.inl ⟨_, _, rfl, rpa_ints _, rfl⟩)
      exact k _ _ G (Ex.refl G) z.1 z.2
    | none =>
      rw [hi] at ho
      cases hp : prs? ds with
      | none => rw [hp] at ho; cases ho
      | some ps =>
        rw [hp] at ho
        cases ho
        obtain rfl := prs_of hp
        obtain ⟨c1, c2⟩ := rpa_pairs er.ext r
        refine .inr ⟨a, xs, pairAt H, rfl, SqT.of h1, fun x hx => (c2 x hx).1, fun ys q hS hB hq => ?_⟩
        have em : ys.map (pairAt H) = srtP ps := by
          refine srtP_of (c1 ▸ hB.perm.map _) (List.pairwise_map.mpr (List.Pairwise.imp ?_ hS))
          intro u v huv
          have hv : SrtO.lexB (pairAt H v) (pairAt H u) = false := huv
          rw [SrtO.lexB_no] at hv
          simp only [leP, decide_eq_true_eq]
          omega
        have rr : RpA K G ys ((srtP ps).map pairD) := by
          rw [← em, List.map_map]
          exact rpa_map fun x hx => (c2 x (hB.perm.mem_iff.mp hx)).2
        have z := own_new (o := .lst ys) er hq (.inl ⟨_, _, rfl, rr, rfl⟩)
        exact k _ _ G (Ex.refl G) z.1 z.2
  | _ => cases ho
end
end Pw

namespace Pw
open PySem L2 PySem.Spec PyProof.Rows
section
variable {P : Program}
variable {w : World} {A : Around} {E : Value → Shared → Prop} {s : Shared}
/-- a set that holds nothing -/
abbrev setNil (w : World) : Obj := { cls := .type "set", dict := none, data := .set #[] 0 (.fresh 0 0 (!w.params.followText "set-order")) }
set_option maxRecDepth 99000 in
set_option maxHeartbeats 3900000 in
/-- set(t), t a tuple of tuples of ints -/
theorem set_of_tup {tt : Addr} {us : Array Value} (ks : List (Addr × List Int)) {Q : Value → Shared → Prop} (hd : A.handled = none) (ht : s.heap.IsTuple tt us) (hu : us.toList = ks.map fun p => Value.ref p.1)
    (hk : ∀ p ∈ ks, IsT P w s.heap p.2 p.1) (few : ks.length < 64) (room : A.units + 3 < cLine)
    (k : ∀ (h' : Heap) (tk : Nat) L es ep t, SetTR P w h' s.heap.objs.size L es ep t → Got ks ks.length L → (∀ b o, s.heap.get? b = some o → h'.get? b = some o) → Q (.ref s.heap.objs.size) { s with heap := h', toks := tk }) :
    wpAny (model P w) A (call (.type "set") [.ref tt]) Q E s := by
  have zu : us.size = ks.length := by rw [← Array.length_toList, hu, List.length_map]
  (obtain ⟨c, tl, hmro⟩ := F.called_set.mro)
  have made := F.called_set.made
  have sub := F.called_set.sub
  (refine wpAny_call (codeAny_of_tree ?_))
  (show wpAny _ _ (callAny (.type "set") _) _ _ _)
  (refine wpAny_pure ⟨Code.quiet_builtin _ (by decide +kernel), codeAny_builtin F.entry_type_call ?_⟩)
  rw [Around.under_plain (weight_type_call_type "set" [.ref tt] []) rfl]
  have n1 := F.called_set.notType
  have n2 := F.called_set.canCreate
  have n3 := F.typeCall_set_1 (.ref tt)
  (repeat (any_goals (first | assumption | wp_step)))
  refine codeAny_mono (code_set_led1 (.ref tt) (E := E) (Q₁ := fun v s1 => v = .ref s.heap.objs.size ∧ s1 = { s with heap := s.heap.push (setNil w) }) ⟨rfl, rfl⟩) fun r s1 hr => ?_
  cases r with
  | error e => exact hr
  | ok fl =>
    cases fl with
    | ret v =>
      obtain ⟨rfl, rfl⟩ := hr
      have gS : (s.heap.push (setNil w)).get? s.heap.objs.size = some (setNil w) := Heap.get?_push_size _ rfl
      have tS : Shared.TypeIs { s with heap := s.heap.push (setNil w) } (.ref s.heap.objs.size) "set" := ⟨_, gS, rfl⟩
      have n4 := F.called_set.init.lookup
      have n5 := F.called_set.init.bind (.ref s.heap.objs.size)
      (repeat (any_goals (first | assumption | wp_step)))
      refine codeAny_mono (codeAny_call_builtin (R := wants (fun r s2 => r = .none ∧ ∃ h' tk L es ep t, s2 = { s with heap := h', toks := tk } ∧ SetTR P w h' s.heap.objs.size L es ep t ∧ Got ks ks.length L ∧
          (∀ b o, s.heap.get? b = some o → h'.get? b = some o)) E) F.called_set.init.plain F.entry_set_init (check_set_init_1 tS ?_)) fun r2 s2 hr2 => ?_
      · obtain ⟨⟨oc, od, oda, osl⟩, g1, cl, nl, dl⟩ := ht
        simp only at cl dl
        subst cl dl
        have g2 : (s.heap.push (setNil w)).get? tt = some { cls := .type "tuple", dict := od, data := .seq us nl, slots := osl } := Heap.get?_push_of_some _ g1
        have m1 := F.sub_tuple_set
        have m2 := F.sub_tuple_frozenset
        have m3 : (Value.type "tuple" == Value.type "dict") = false := by decide
        have tl1 : (s.heap.push (setNil w)).IsTuple tt us := ⟨_, g2, rfl, nl, rfl⟩
        (unfold Builtin.«set.__init__» noKeywords Builtin.Frozenset.updateFrom)
        generalize hPI : pyIter = PI
        wp_walk
        subst hPI
        refine wpAny_pyIter_tuple tl1 ?_
        (refine wpAny_bind (wpAny_runValue ?_))
        have ltS : tt < s.heap.objs.size := Heap.lt_size g1
        have hd3 : A.in1.in1.in1.handled = none := by simp [hd]
        have neI : tt ≠ (s.heap.push (setNil w)).objs.size := by
          exact Heap.size_push s.heap _ ▸ Nat.ne_of_lt (Nat.lt_succ_of_lt ltS)
        have noS : s.heap.objs.size ∉ [(s.heap.push (setNil w)).objs.size, tt] := by
          rw [Heap.size_push]
          intro z
          (rcases List.mem_cons.mp z with z | z)
          · exact Nat.ne_of_lt (Nat.lt_succ_self _) z
          · exact Nat.ne_of_gt ltS (List.mem_singleton.mp z)
        have val : ∀ (i : Nat) (v : Value), us[i]? = some v → ∃ p, ks[i]? = some p ∧ v = .ref p.1 := fun i v hv => by
          have q : (ks.map fun p => Value.ref p.1)[i]? = some v := by rw [← hu, Array.getElem?_toList]; exact hv
          rw [List.getElem?_map] at q
          obtain ⟨p, q1, q2⟩ := Option.map_eq_some_iff.mp q
          exact ⟨p, q1, q2.symm⟩
        have noA : ∀ b, s.heap.objs.size ≤ b → s.heap.get? b = none := fun b hb => by
          cases q : s.heap.get? b with
          | none => rfl
          | some o => exact absurd (Heap.lt_size q) (Nat.not_lt_of_le hb)
        refine set_update_tups ((Walks.tuple hd3 _ tt neI us).toS) s.heap.objs.size noS ks zu few val s.heap hk (noA _ (Nat.le_refl _)) (fun b hb => noA b ?_) room (us.size - 0) 0 _ (by omega) (Nat.zero_le _)
          ⟨⟨_, Heap.get?_push_size _ rfl, rfl, rfl⟩, (tl1.push _)⟩ (fun b o e => Heap.get?_push_of_some _ (Heap.get?_push_of_some _ e)) ?_ ?_
        · rw [List.mem_singleton.mp hb, Heap.size_push]; exact Nat.le_succ _
        · exact ⟨[], #[], 0, _, setTR_fresh (Heap.get?_push_of_some _ gS), Got.zero ks⟩
        · intro s' L es ep t hm hS' g' kp
          (obtain ⟨h', g2, d', tk', os'⟩ := s')
          cases (show g2 = s.gens from hm.gens)
          cases (show d' = s.drawn from hm.drawn)
          cases (show os' = s.os from hm.os)
          show wpAny _ _ _ _ _ _
          refine wpAny_pure ?_
          (show wpAny _ _ (ret Value.none) _ _ _)
          exact wpAny_pure ⟨rfl, h', tk', L, es, ep, t, rfl, hS', zu ▸ g', kp⟩
      · cases r2 with
        | error e => exact hr2
        | ok f2 =>
          cases f2 with
          | ret r =>
            obtain ⟨rfl, h', tk, L, es, ep, t, rfl, a1, a2, a3⟩ := hr2
            (repeat (any_goals (first | assumption | wp_step)))
            exact k _ _ _ _ _ _ a1 a2 a3
          | _ => exact hr2.elim
    | _ => exact hr.elim
end
/-! ### sorted(set(..)) of pairs -/
section
variable {X : Cx}
/-- set(t), t a tuple of tuples of whole numbers -/
def rSetTT (K : PySem.W.Frag) (P : Program) (w : World) : List V → Hp → VK → Prop := fun xs H Q => ∃ (tt : Addr) (ks : List (Addr × List Int)), xs = [V.ref tt] ∧ SqT K H tt (ks.map fun p => V.ref p.1) ∧ (∀ p ∈ ks, SqT K H p.1 (p.2.map V.int)) ∧ ks.length < 64 ∧
  ∀ c L, H c = none → (∀ p ∈ L, p ∈ ks) → (∀ p ∈ ks, p.2 ∈ L.map (·.2)) → Q (.ref c) (upd H c (SetTO P w c L))
theorem cr_setTT (hc : X.calm = true) (hu : X.A.units + 64 < cLine) : CallR X (.type "set") (rSetTT X.K X.prog X.w) := by
  intro pins s σ H xs us Q I rx ⟨tt, ks, ex, ht, hk, few, q⟩
  subst ex
  obtain ⟨its, rv, tl, hz⟩ := I.tuple ht
  rw [Vals.ref1 rx]
  refine set_of_tup (P := X.prog) (w := X.w) ks (I.ok.hd hc) tl (by simpa using refs_of_vals rv) (fun p hp => I.isT (hk p hp)) few (by omega) fun h' tk L es ep t R g k => ?_
  have new : H s.heap.objs.size = none := I.hok.fresh (Nat.le_refl _)
  exact ⟨.ref s.heap.objs.size, _, I.laid (o := SetTO X.prog X.w s.heap.objs.size L) (t' := tk) k (Nat.le_refl _) (setTO_new R.t0), rfl, q _ L new (fun p hp => List.mem_of_mem_take (g.sub p hp)) fun p hp => g.all p (by rw [List.take_length]; exact hp)⟩
def rSetX (K : PySem.W.Frag) (P : Program) (w : World) : List V → Hp → VK → Prop := fun xs H Q => rSetOfT K P w xs H Q ∨ rSetTT K P w xs H Q
theorem cr_setX (hc : X.calm = true) (hu : X.A.units + 64 < cLine) : CallR X (.type "set") (rSetX X.K X.prog X.w) := (cr_setOfT hc hu).or (cr_setTT hc hu)
end
end Pw

set_option maxRecDepth 100000
set_option maxHeartbeats 3900000
namespace Pw
open PySem L2
open Evl (Ex ex_rd fresh_back)
/-- each once -/
def dd {α : Type} [DecidableEq α] : List α → List α
  | [] => []
  | x :: xs => if x ∈ xs then dd xs else x :: dd xs
theorem mem_dd {α : Type} [DecidableEq α] {y : α} : ∀ {l : List α}, y ∈ dd l ↔ y ∈ l
  | [] => Iff.rfl
  | x :: xs => by
    unfold dd
    split
    · rename_i h
      rw [mem_dd, List.mem_cons]
      exact ⟨.inr, fun z => z.elim (fun e => e ▸ h) id⟩
    · rw [List.mem_cons, List.mem_cons, mem_dd]
theorem nodup_dd {α : Type} [DecidableEq α] : ∀ l : List α, (dd l).Nodup
  | [] => List.nodup_nil
  | x :: xs => by
    unfold dd
    split
    · exact nodup_dd xs
    · rename_i h
      exact List.nodup_cons.mpr ⟨fun z => h (mem_dd.mp z), nodup_dd xs⟩
def okP (p : Int × Int) : Bool := decide (0 ≤ p.1 ∧ p.1 < 64 ∧ 0 ≤ p.2 ∧ p.2 < 64)
def setP (ds : List PyData) : Option (List PyData) := match prs? ds with
  | some ps => if ps.length < 64 ∧ ps.all okP = true then some ((srtP (dd ps)).map pairD) else none
  | none => none
/-- sorted(set(..)) of pairs -/
def oSrtSet : PyData → Option PyData
  | .list ds => (setP ds).map .list
  | .tuple ds => (setP ds).map .list
  | _ => none
def adr : V → Addr
  | .ref t => t
  | _ => 0
def prI (q : Addr × List Int) : Int × Int := match q.2 with
  | [i, j] => (i, j)
  | _ => (0, 0)
/-- of the rows (address, numbers) -/
def rowOf (H : Hp) (v : V) : Addr × List Int := (adr v, [(pairAt H v).1, (pairAt H v).2])
section
variable {X : Cx} {cl : Str → Value} {W : WX} {kr : Kd} {a b c e tg : Expr} {es : List Expr} {fa fb fc : Dv → Rs (PyData × Dv)} {pos p p2 pos2 : Pos}
theorem pairs_same {ms ns : List (Int × Int)} (h1 : ms.Nodup) (h2 : ns.Nodup) (h : ∀ x, x ∈ ms ↔ x ∈ ns) : ms.Perm ns := (List.perm_ext_iff_of_nodup h1 h2).mpr h
theorem set_rows {K : PySem.W.Frag} {F : Fm} {G H : Hp} {σ : L2.St} {δ : Dv} {vs : List V} {ps : List (Int × Int)} {Q : VK} {P : Program} {w : World} (er : ER K F G H σ δ) (r : RpA K G vs (ps.map pairD)) (few : ps.length < 64) (ok : ps.all okP = true)
    (k : ∀ (v : V) (H2 G2 : Hp), Ex G G2 → ER K F G2 H2 σ δ → Res K F G2 H2 σ δ .O v (.list ((srtP (dd ps)).map pairD)) → Q v H2) :
    vs = (vs.map (rowOf H)).map (fun q => V.ref q.1) ∧ (∀ q ∈ vs.map (rowOf H), SqT K H q.1 (q.2.map V.int)) ∧ (vs.map (rowOf H)).length < 64 ∧
    ∀ c L, H c = none → (∀ q ∈ L, q ∈ vs.map (rowOf H)) → (∀ q ∈ vs.map (rowOf H), q.2 ∈ L.map (·.2)) → rSortedT K P w [.ref c] (upd H c (SetTO P w c L)) Q := by
  obtain ⟨c1, c2⟩ := rpa_pairs er.ext r
  have hl : vs.length = ps.length := by rw [r.length, List.length_map]
  have inP : ∀ v ∈ vs, pairAt H v ∈ ps := fun v hv => c1 ▸ List.mem_map_of_mem hv
  have okv : ∀ v ∈ vs, okP (pairAt H v) = true := fun v hv => List.all_eq_true.mp ok _ (inP v hv)
  refine ⟨?_, ?_, by rw [List.length_map, hl]; exact few, ?_⟩
  · rw [List.map_map]
    refine (List.map_id vs).symm.trans (List.map_congr_left fun v hv => ?_)
    obtain ⟨⟨t, et, _⟩, _⟩ := c2 v hv
    subst et
    rfl
  · intro q hq
    obtain ⟨v, hv, rfl⟩ := List.mem_map.mp hq
    obtain ⟨⟨t, et, ht⟩, _⟩ := c2 v hv
    subst et
    exact SqT.of ht
  · intro c L hc l1 l2
    have ne : ∀ t u, H t = some u → t ≠ c := fun t u e => ne_of_none e hc
    have row : ∀ q ∈ L, ∃ v ∈ vs, q = rowOf H v := fun q hq => by
      obtain ⟨v, hv, e⟩ := List.mem_map.mp (l1 q hq)
      exact ⟨v, hv, e.symm⟩
    refine ⟨c, L, 2, 64, rfl, upd_same, fun q hq => ?_, by decide, fun q hq => ?_, fun L' q pm nd _ pw hq => ?_⟩
    · obtain ⟨v, hv, rfl⟩ := row q hq
      obtain ⟨⟨t, et, ht⟩, _⟩ := c2 v hv
      subst et
      exact SqT.of ((upd_ne (ne t _ ht)).trans ht)
    · obtain ⟨v, hv, rfl⟩ := row q hq
      have o := of_decide_eq_true (okv v hv)
      refine ⟨rfl, fun x hx => ?_⟩
      (rcases List.mem_cons.mp hx with e | hx)
      · subst e; exact ⟨o.1, o.2.1⟩
      · rw [List.mem_singleton.mp hx]; exact ⟨o.2.2.1, o.2.2.2⟩
    · have er1 := er.own' (o := SetTO P w c L) hc
      have row' : ∀ q ∈ L', ∃ v ∈ vs, q = rowOf H v := fun q hq => row q (pm.mem_iff.mp hq)
      have e : L'.map prI = srtP (dd ps) := by
        refine srtP_of (pairs_same ?_ (nodup_dd ps) fun x => ?_) (List.pairwise_map.mpr (List.Pairwise.imp_of_mem (fun {u v} hu hv z => ?_) pw))
        · have nd2 := List.pairwise_map.mp nd
          refine List.pairwise_map.mpr (List.Pairwise.imp_of_mem (fun {u v} hu hv z zz => z ?_) nd2)
          obtain ⟨x, _, rfl⟩ := row' u hu
          obtain ⟨y, _, rfl⟩ := row' v hv
          have z1 : pairAt H x = pairAt H y := zz
          simp only [rowOf, z1]
        · rw [mem_dd]
          constructor
          · intro hx
            obtain ⟨u, hu, rfl⟩ := List.mem_map.mp hx
            obtain ⟨v, hv, rfl⟩ := row' u hu
            exact inP v hv
          · intro hx
            rw [← c1] at hx
            obtain ⟨v, hv, rfl⟩ := List.mem_map.mp hx
            obtain ⟨u, hu, eu⟩ := List.mem_map.mp (l2 _ (List.mem_map_of_mem hv))
            obtain ⟨v', hv', rfl⟩ := row u hu
            refine List.mem_map.mpr ⟨_, pm.mem_iff.mpr hu, ?_⟩
            have q1 : [(pairAt H v').1, (pairAt H v').2] = [(pairAt H v).1, (pairAt H v).2] := eu
            have q2 := List.cons.inj q1
            exact Prod.ext q2.1 (List.cons.inj q2.2).1
        · obtain ⟨x, hx, rfl⟩ := row' u hu
          obtain ⟨y, hy, rfl⟩ := row' v hv
          have o1 := of_decide_eq_true (okv x hx)
          have o2 := of_decide_eq_true (okv y hy)
          have z' : TS.code 64 [(pairAt H x).1, (pairAt H x).2] ≤ TS.code 64 [(pairAt H y).1, (pairAt H y).2] := z
          rw [code_pair, code_pair] at z'
          show leP (pairAt H x) (pairAt H y) = true
          simp only [leP, decide_eq_true_eq]
          omega
      have rr : RpA K G (L'.map fun q => V.ref q.1) ((srtP (dd ps)).map pairD) := by
        rw [← e, List.map_map]
        have : ∀ M : List (Addr × List Int), (∀ q ∈ M, ∃ v ∈ vs, q = rowOf H v) → RpA K G (M.map fun q => V.ref q.1) (M.map (pairD ∘ prI)) := by
          intro M
          induction M with
          | nil => exact fun _ => .nil
          | cons q M ih =>
            intro h
            refine .cons ?_ (ih fun x hx => h x (List.mem_cons_of_mem _ hx))
            obtain ⟨v, hv, rfl⟩ := h q List.mem_cons_self
            obtain ⟨⟨t, et, _⟩, rp⟩ := c2 v hv
            subst et
            exact rp
        exact this L' row'
      have z := own_new (o := .lst (L'.map fun q => V.ref q.1)) er1 hq (.inl ⟨_, _, rfl, rr, rfl⟩)
      exact k _ _ G (Ex.refl G) z.1 z.2
theorem m_srtSet {n : Nat} (hr : Room n X.A) (hc : X.calm = true) (hg : Gl X "sorted") (hm : X.mg "sorted" = none) (hg2 : Gl X "set") (hm2 : X.mg "set" = none) (ha : Pm X cl W .B a fa)
    (he : starEach [a] X.env = (false, eval a X.env) :: starEach [] X.env) (he2 : starEach [Expr.Call (.Name "set" p2) [a] [] pos2] X.env = (false, eval (Expr.Call (.Name "set" p2) [a] [] pos2) X.env) :: starEach [] X.env) :
    Pm X cl W .O (.Call (.Name "sorted" p) [.Call (.Name "set" p2) [a] [] pos2] [] pos) (f1 oSrtSet fa) :=
  pe_weak (pe_callB (cr_sortedT hc) hg hm (by rfl) (pa_cons (pe_callTy (cr_setX hc (by have := units65 hr; omega)) hg2 hm2 (by rfl) (pa_cons ha pa_nil he) (by decide) (by decide) he rfl) pa_nil he2) (by decide) (by decide) he2 rfl) fun σ H Q ⟨F, G, δ, er, pp⟩ =>
    ⟨F, G, δ, er, Po.bind pp fun dx δ1 x H1 G1 e1 r1 rx p1 => by
      cases dx with
      | list ds =>
        simp only [oSrtSet, setP] at p1
        cases hp : prs? ds with
        | none => simp only [hp, Option.map, lift] at p1; exact p1.elim
        | some ps =>
          simp only [hp] at p1
          split at p1
          · rename_i hz
            obtain rfl := prs_of hp
            obtain ⟨l, xs, rfl, h1, r⟩ := res_lst r1 rx
            obtain ⟨k1, k2, k3, k4⟩ := set_rows (P := X.prog) (w := X.w) r1 r hz.1 hz.2 p1
            exact .inl ⟨l, _, rfl, SqL.of (h1.trans (congrArg (fun z => some (HO.lst z)) k1)), k2, k3, k4⟩
          · exact p1.elim
      | tuple ds =>
        simp only [oSrtSet, setP] at p1
        cases hp : prs? ds with
        | none => simp only [hp, Option.map, lift] at p1; exact p1.elim
        | some ps =>
          simp only [hp] at p1
          split at p1
          · rename_i hz
            obtain rfl := prs_of hp
            obtain ⟨l, xs, rfl, h1, _, r⟩ := res_tup r1 rx
            obtain ⟨k1, k2, k3, k4⟩ := set_rows (P := X.prog) (w := X.w) r1 r hz.1 hz.2 p1
            exact .inr ⟨l, _, rfl, SqT.of (h1.trans (congrArg (fun z => some (HO.tup z)) k1)), k2, k3, k4⟩
          · exact p1.elim
      | _ => simp only [oSrtSet, lift] at p1; exact p1.elim⟩
end
end Pw

set_option maxRecDepth 100000
set_option maxHeartbeats 3900000
/-! ## 12. lists and tuples turned about; displays of dicts -/
namespace Pw
open PySem L2
open Evl (Ex ex_rd fresh_back)
section
open PyProof.Rows HT
variable {prog : Program}
variable {w : World} {A : Around} {E : Value → Shared → Prop} {s : Shared}
theorem turned (xs : Array Value) : ((List.range xs.size).filterMap fun (k : Nat) => xs[(((xs.size : Int) - 1) + (k : Int) * (-1)).toNat]?) = xs.toList.reverse := by
  have e : ∀ k, k < xs.size → xs[(((xs.size : Int) - 1) + (k : Int) * (-1)).toNat]? = xs.toList.reverse[k]? := fun k hk => by
    rw [List.getElem?_reverse (by rw [Array.length_toList]; exact hk), Array.getElem?_toList, Array.length_toList]
    congr 1
    omega
  have g : ∀ n, n ≤ xs.size → (List.range n).filterMap (fun (k : Nat) => xs[(((xs.size : Int) - 1) + (k : Int) * (-1)).toNat]?) = xs.toList.reverse.take n := by
    intro n
    induction n with
    | zero => exact fun _ => rfl
    | succ n ih =>
      intro hn
      rw [List.range_succ, List.filterMap_append, ih (by omega), List.take_succ]
      congr 1
      have q := e n (by omega)
      cases hx : xs.toList.reverse[n]? with
      | none => rw [hx] at q; simp only [List.filterMap_cons, List.filterMap_nil, q]; rfl
      | some v => rw [hx] at q; simp only [List.filterMap_cons, List.filterMap_nil, q]; rfl
  rw [g xs.size (Nat.le_refl _), List.take_of_length_le (by rw [List.length_reverse, Array.length_toList]; exact Nat.le_refl _)]
theorem back_parts (n : Nat) : Builtin.Slice.sliceAdjust none none (-1) (n : Int) = ((n : Int) - 1, -1) := by
  (unfold Builtin.Slice.sliceAdjust)
  simp
theorem back_places (n : Nat) : Builtin.Slice.slicePlaces ((n : Int) - 1) (-1) (-1) = n := by
  (unfold Builtin.Slice.slicePlaces)
  simp only [show ¬ ((-1 : Int) > 0) from by decide, if_false]
  split <;> simp <;> omega
theorem turn_parts {sl : Addr} {v1 v2 v3 : Value} {n : Nat} {Q : Int × Int × Nat → Shared → Prop} (hs : s.heap.IsSliceOf sl v1 v2 v3) (p1 : IsPart v1 none) (p2 : IsPart v2 none) (p3 : IsPart v3 (some (-1)))
    (h : Q ((n : Int) - 1, -1, n) s) : wpAny (model prog w) A (Builtin.Slice.sliceApplied (.ref sl) (pure (n : Int))) Q E s := by
  obtain ⟨ob, g1, g2, g3⟩ := id hs
  (unfold Builtin.Slice.sliceApplied Builtin.Slice.sliceFields)
  refine wpAny_bind (wpAny_bind (wpAny_field g1 g3 (x := v1) rfl (wpAny_bind (wpAny_field g1 g3 (x := v2) rfl (wpAny_bind (wpAny_field g1 g3 (x := v3) rfl (wpAny_pure ?_)))))))
  refine wpAny_bind (slicePart_ p3 ?_)
  show wpAny _ _ (if ((-1 : Int) == 0) = true then _ else _) _ _ s
  rw [if_neg (by decide)]
  refine wpAny_bind (slicePart_ p1 (wpAny_bind (slicePart_ p2 (wpAny_bind (wpAny_pure ?_)))))
  show wpAny _ _ (match Builtin.Slice.sliceAdjust none none (-1) (n : Int) with | (lo, hi) => pure (lo, (-1 : Int), Builtin.Slice.slicePlaces lo hi (-1))) _ _ s
  rw [back_parts]
  show wpAny _ _ (pure ((n : Int) - 1, (-1 : Int), Builtin.Slice.slicePlaces ((n : Int) - 1) (-1) (-1))) _ _ s
  rw [back_places]
  exact wpAny_pure h
/-- t[::-1], t a tuple -/
theorem turn_tup {t sl : Addr} {us : Array Value} {v1 v2 v3 : Value} {Q : Value → Shared → Prop} (ht : IsTup s.heap t us) (hs : s.heap.IsSliceOf sl v1 v2 v3) (p1 : IsPart v1 none) (p2 : IsPart v2 none) (p3 : IsPart v3 (some (-1)))
    (k : Q (.ref s.heap.objs.size) { s with heap := s.heap.push { cls := .type "tuple", data := .seq us.toList.reverse.toArray } }) (hz : us.size ≤ sizeLine) : wpAny (model prog w) A (getItem (.ref t) (.ref sl)) Q E s := by
  obtain ⟨ob, g1, g2, g3⟩ := id hs
  have ty : s.TypeIs (.ref sl) "slice" := ⟨ob, g1, g2⟩
  have z2 : sizeOk (.seq us.toList.reverse.toArray) := by
    show us.toList.reverse.toArray.size ≤ sizeLine
    rw [List.size_toArray, List.length_reverse, Array.length_toList]
    exact hz
  unfold getItem
  (try with_reducible refine wpAny_holding ?_)
  (first | refine wpAny_bind (wpAny_pure ?_) | skip)
  (refine wpAny_bind (wpAny_sequenceKey ht.typeIs (by decide) ?_))
  refine wpAny_bind (wpAny_callSpecial?_slot (name := Str.ofString "__getitem__") ht.typeIs PyProof.Rows.slot_tuple_getitem (wpAny_call_entry PyProof.Rows.slot_tuple_getitem ht.typeIs entry_tuple_getitem ?_ (args_tuple_getitem _ _)))
  (show wpAny _ _ (Builtin.Tuple.tupleItemsOf (.ref t) >>= _) _ _ s)
  refine wpAny_bind (tupleItemsOf_ ht (wpAny_bind (wpAny_typeOf ty ?_)))
  rw [if_pos (by decide)]
  refine wpAny_bind (turn_parts hs p1 p2 p3 ?_)
  show wpAny _ _ (if (((us.size : Int) - 1) == 0 && (-1 : Int) == 1 && us.size == us.size) = true then _ else _) _ _ s
  rw [if_neg (by simp), turned]
  first
    | exact wpAny_bind (m := Builtin.Tuple.tupleExact _) (wpAny_newObj_type (wpAny_pure ⟨_, rfl, wpAny_pure k⟩) z2)
    | exact wpAny_bind (wpAny_bind (m := Builtin.Tuple.tupleExact _) (wpAny_newObj_type (wpAny_pure ⟨_, rfl, wpAny_pure k⟩) z2))
    | exact wpAny_bind (m := Builtin.Tuple.tupleExact _) (wpAny_newObj_type (wpAny_bind (wpAny_pure (wpAny_pure ⟨_, rfl, wpAny_pure k⟩))) z2)
end
section
open PySem.Spec
variable {X : Cx} {cl : Str → Value} {W : WX} {kr : Kd} {a b c e tg : Expr} {es : List Expr} {fa fb fc : Dv → Rs (PyData × Dv)} {pos p p1 p2 p3 pos2 : Pos}
/-- e[::-1], e a tuple -/
def tTurn (K : PySem.W.Frag) (te : TE) : TE := fun σ H Q => te σ H fun x H1 => ∃ t xs, x = .ref t ∧ SqT K H1 t xs ∧ ∀ q, H1 q = none → Q (.ref q) (upd H1 q (.tup xs.reverse))
theorem pe_turn {te : TE} {k : Nat} (he : PE X e te) : PE X (.Subscript e (.Slice none none (some (.UnaryOp .USub (.Constant (.int 1) k p1) p2)) p3) pos) (tTurn X.K te) := by
  (refine ⟨fun pins s σ H Q I h => ?_⟩)
  refine PyProof.Rows.Subscript_ (thn (he.run pins s σ H _ I h) fun v s1 ⟨x, H1, I1, r1, t, xs, ex, hx, q⟩ => ?_)
  subst ex
  cases r1
  (have hst : PO X (some (.UnaryOp .USub (.Constant (.int 1) k p1) p2)) (tPart (tUn (rU fun i => .int (-i)) (tC (.int 1)))) := po_some (pe_un un_neg pe_int))
  refine wpAny_Slice (thn (po_none.run pins s1 σ H1 (fun o u => o = none ∧ u = H1) I1 ⟨rfl, rfl⟩) fun w1 s2 ⟨o1, H2, I2, a1, b1, c1⟩ => ?_)
  subst b1 c1
  refine thn (po_none.run pins s2 σ H2 (fun o u => o = none ∧ u = H2) I2 ⟨rfl, rfl⟩) fun w2 s3 ⟨o2, H3, I3, a2, b2, c2⟩ => ?_
  subst b2 c2
  refine thn (hst.run pins s3 σ H3 (fun o u => o = some (-1) ∧ u = H3) I3 ⟨1, rfl, -1, rfl, rfl, rfl⟩) fun w3 s4 ⟨o3, H4, I4, a3, b3, c3⟩ => ?_
  subst b3 c3
  have I5 : Inv X pins σ H4 { s4 with heap := s4.heap.push { cls := .type "slice", data := .fields #[w1, w2, w3] } } := I4.kept (t' := s4.toks) fun b ob z => Heap.get?_push_of_some _ z
  obtain ⟨its, r, ht, hz⟩ := I5.tuple hx
  have hlen := r.length
  show wpAny (model X.prog X.w) X.A (PyProof.Rows.subscriptTail e (.Slice none none (some (.UnaryOp .USub (.Constant (.int 1) k p1) p2)) p3) (.ref t) (.ref s4.heap.objs.size)) (EP X pins σ Q) X.xe { s4 with heap := s4.heap.push { cls := .type "slice", data := .fields #[w1, w2, w3] } }
  refine PyProof.Rows.tail_any (ops := [.ref t, .ref s4.heap.objs.size]) ht.typeIs PyProof.Rows.slot_tuple_getitem.lookup ?_ (by with_unfolding_all rfl)
  refine turn_tup ht (Heap.IsSliceOf.new _ w1 w2 w3) a1 a2 a3 ?_ (by rw [List.size_toArray]; omega)
  refine ⟨.ref _, _, I5.laid (t' := s4.toks) (o := .tup xs.reverse) (fun b ob z => Heap.get?_push_of_some _ z) (Nat.le_refl _) ?_, rfl, q _ (I5.hok.fresh (Nat.le_refl _))⟩
  exact ⟨by rw [List.length_reverse]; exact hz, _, r.reverse, _, Heap.get?_push_size _ rfl, rfl, 0, rfl⟩
def oTurnT : PyData → Option PyData
  | .tuple ds => some (.tuple ds.reverse)
  | _ => none
theorem m_turn {k : Nat} (ha : Pm X cl W .F a fa) : Pm X cl W .F (.Subscript a (.Slice none none (some (.UnaryOp .USub (.Constant (.int 1) k p1) p2)) p3) pos) (f1 oTurnT fa) :=
  pe_weak (pe_turn ha) fun σ H Q ⟨F, G, δ, er, pp⟩ => ⟨F, G, δ, er, Po.bind pp fun dx δ1 x H1 G1 e1 r1 rx pq => by
    cases dx with
    | tuple ds =>
      have pq' : ∀ (v : V) (H2 G2 : Hp), Ex G1 G2 → ER X.K F G2 H2 σ δ1 → Rp X.K G2 v (.tuple ds.reverse) → Q v H2 := pq
      obtain ⟨t, xs, rfl, h1, ra⟩ := rp_tup rx
      refine ⟨t, xs, rfl, SqT.of (r1.ext _ _ h1), fun q hq => ?_⟩
      obtain ⟨w1, w2, w3⟩ := new_tup r1 hq ra.reverse
      exact pq' _ _ _ w1 w2 w3
    | _ => exact pq.elim⟩
end
end Pw

set_option maxRecDepth 100000
set_option maxHeartbeats 3900000
/-! ## 13. caught errors: try, the word of an error -/
namespace Pw
open PySem L2
open Evl (Ex ex_rd fresh_back)

/-! ### methods that only look -/
def hasLs (δ : Dv) (i : Nat) : Bool := match δ[i]? with
  | some (some s) => (match s.data with | .list _ => true | _ => false)
  | _ => false
theorem hasLs_of {δ : Dv} {i : Nat} (h : hasLs δ i = true) : ∃ s ds, δ[i]? = some (some s) ∧ s.data = .list ds := by
  unfold hasLs at h
  split at h
  · rename_i s hs
    split at h
    · rename_i ds hd; exact ⟨s, ds, hs, hd⟩
    · cases h
  · cases h
/-- a method of the list in slot i that looks -/
def fLk (i : Nat) (op : List PyData → List PyData → Option PyData) (g : Dv → Rs (List PyData × Dv)) : Dv → Rs (PyData × Dv) := fun δ => if hasLs δ i = true then (g δ).bind fun x => (match x.2[i]? with
    | some (some s) => (match s.data with
      | .list ds => lift (op ds x.1) x.2
      | _ => .bad)
    | _ => .bad) else .bad
def IsLk (K : PySem.W.Frag) (op : List PyData → List PyData → Option PyData) (r : V → List V → Hp → VK → Prop) : Prop :=
  ∀ (G H : Hp) (p : Addr) (xs vs : List V) (ds as : List PyData) (y : PyData) (Q : VK), Ex G H → H p = some (.lst xs) → RpA K G xs ds → RpA K G vs as → op ds as = some y → (∀ (v : V), Rp K G v y → Q v H) → r (.ref p) vs H Q
theorem slot_lst {K : PySem.W.Frag} {F : Fm} {G H : Hp} {σ : L2.St} {δ : Dv} {i : Nat} {s : SV} {ds : List PyData} (er : ER K F G H σ δ) (hi : δ[i]? = some (some s)) (hd : s.data = .list ds) : ∃ p xs, σ[i]? = some (some (.ref p)) ∧ H p = some (.lst xs) ∧ RpA K G xs ds := by
  obtain ⟨v, h1, h2⟩ := er.slot i s hi
  have hb : Res K F G H σ δ .B v (.list ds) := by
    rw [← hd]
    cases s with
    | v d => exact .inl h2
    | m d => obtain ⟨p, o, e1, _, e3, e4⟩ := h2; exact .inr ⟨p, o, e1, e3, e4⟩
    | a d => obtain ⟨p, o, e1, _, e3, e4⟩ := h2; exact .inr ⟨p, o, e1, e3, e4⟩
  obtain ⟨a, xs, rfl, h3, h4⟩ := res_lst er hb
  exact ⟨a, xs, h1, h3, h4⟩
theorem go_lk {K : PySem.W.Frag} {cl : Str → Value} {W : WX} {i : Nat} {op : List PyData → List PyData → Option PyData} {r : V → List V → Hp → VK → Prop} {g : Dv → Rs (List PyData × Dv)} (ho : IsLk K op r) {σ : L2.St} {H : Hp} {Q : VK} (h : tM K cl W .F (fLk i op g) σ H Q) :
    ∃ v, σ[i]? = some (some v) ∧ tyV K "list" v H ∧ tA K cl W g σ H fun vs H2 => r v vs H2 Q := by
  obtain ⟨F, G, δ, er, pp⟩ := h
  unfold fLk at pp
  by_cases hs : hasLs δ i = true
  · rw [if_pos hs] at pp
    obtain ⟨s0, ds0, h1, h3⟩ := hasLs_of hs
    obtain ⟨p, xs0, k1, k2, _⟩ := slot_lst er h1 h3
    refine ⟨_, k1, .inl ⟨rfl, xs0, SqL.of k2⟩, F, G, δ, er, PoA.bind pp fun as δ2 vs H2 G2 e2 r2 rv p2 => ?_⟩
    split at p2
    · rename_i s hs2
      split at p2
      · rename_i ds hd
        obtain ⟨p', xs, j1, j2, j3⟩ := slot_lst r2 hs2 hd
        rw [k1] at j1
        cases j1
        cases hop : op ds as with
        | none => rw [hop] at p2; exact p2.elim
        | some y =>
          rw [hop] at p2
          exact ho G2 H2 p xs vs ds as y Q r2.ext j2 j3 rv hop fun v hv => p2 v H2 G2 (Ex.refl G2) r2 hv
      · exact p2.elim
    · exact p2.elim
  · rw [if_neg hs] at pp
    exact pp.elim
section
variable {X : Cx} {cl : Str → Value} {W : WX} {kr : Kd} {a b c e : Expr} {es : List Expr} {fa fb : Dv → Rs (PyData × Dv)} {pos p p2 pos2 : Pos}
theorem m_lk {i : Nat} {x name : Str} {id : String} {apos cpos : Pos} {op : List PyData → List PyData → Option PyData} {r : V → List V → Hp → VK → Prop} {g : Dv → Rs (List PyData × Dv)} (slot : Slot "list" name id) (hty : typeOf (.builtin id) = pure (.type "method_descriptor")) (hm : MtR X id r) (hi : IsLk X.K op r)
    (hv : PE X (.Name x p) (tVar i)) (ha : Pa X cl W (e :: es) g) (hbase : attributeBase (.Name x p) name X.env (eval (.Name x p) X.env) = eval (.Name x p) X.env)
    (hfew : ((backTo cpos (starEach (e :: es) X.env)).all (fun x => !x.1) && (backToKw cpos (keywordEach [] X.env)).all (fun x => x.1.isSome) && decide ((e :: es).length + ([] : List Keyword).length + (if ([] : List Keyword).isEmpty then 0 else 1) < 30)) = true)
    (hline : (apos.endLine == cpos.line) = true) (hs : starEach (e :: es) X.env = (false, eval e X.env) :: starEach es X.env) (hplain : (backTo cpos (starEach es X.env)).any (·.1) = false) :
    Pm X cl W .F (.Call (.Attribute (.Name x p) name apos) (e :: es) [] cpos) (fLk i op g) :=
  pe_weak (pe_bm PySem.F.plainAttrs_list slot hty hm hv ha hbase hfew hline hs hplain) fun σ H Q h => go_lk hi h
/-! list.index, list.count -/
def idxD (d : PyData) : List PyData → Option Nat
  | [] => none
  | z :: zs => if PyData.eqv z d = true then some 0 else (idxD d zs).map (· + 1)
theorem idxD_some {d : PyData} : ∀ {ds : List PyData} {j : Nat}, idxD d ds = some j → ∃ z, ds[j]? = some z ∧ PyData.eqv z d = true ∧ ∀ (m : Nat) (z' : PyData), m < j → ds[m]? = some z' → PyData.eqv z' d = false
  | [], _, h => by cases h
  | z :: zs, j, h => by
    unfold idxD at h
    split at h
    · rename_i hz
      cases h
      exact ⟨z, rfl, hz, fun m _ hm => absurd hm (Nat.not_lt_zero _)⟩
    · rename_i hz
      obtain ⟨k, h1, rfl⟩ := Option.map_eq_some_iff.mp h
      obtain ⟨y, h2, h3, h4⟩ := idxD_some h1
      refine ⟨y, h2, h3, fun m z' hm hz' => ?_⟩
      cases m with
      | zero => cases hz'; exact Bool.eq_false_iff.mpr hz
      | succ m => exact h4 m z' (by omega) hz'
def lIdx (ds as : List PyData) : Option PyData := match as with
  | [d] => if SeqAt.shaped (.list ds) = true ∧ SeqAt.shaped d = true ∧ PyData.plainAll ds = true ∧ d.plain = true then (idxD d ds).map fun j => .int (j : Nat) else none
  | _ => none
theorem is_idx {K : PySem.W.Frag} : IsLk K lIdx (rIndexD K) := by
  intro G H p xs vs ds as y Q eg h r ra ho k
  unfold lIdx at ho
  split at ho
  · rename_i d
    split at ho
    · rename_i hz
      obtain ⟨z1, z2, z3, z4⟩ := hz
      obtain ⟨j, h1, rfl⟩ := Option.map_eq_some_iff.mp ho
      obtain ⟨z, h2, h3, h4⟩ := idxD_some h1
      cases ra with
      | cons r1 r2 =>
        cases r2
        exact ⟨p, _, d, ds, j, z, rfl, rfl, .lst (SqL.of h) (dpa_of eg r z3), dp_of eg r1 z4, z1, z2, h2, h3, h4, k _ (.int _)⟩
    · cases ho
  · cases ho
/-- l.count(x) -/
def rCntD (K : PySem.W.Frag) : V → List V → Hp → VK → Prop := fun x xs H Q => ∃ (a : Addr) (y : V) (d : PyData) (ds : List PyData), x = V.ref a ∧ xs = [y] ∧ Dp K H (V.ref a) (.list ds) ∧ Dp K H y d ∧ SeqAt.shaped (.list ds) = true ∧ SeqAt.shaped d = true ∧ Q (.int (ds.countP fun z => PyData.eqv z d : Nat)) H
theorem mt_cntD (hu : X.A.units + 65 < cLine) : MtR X "list.count" (rCntD X.K) := by
  intro pins s σ H x xs v us Q I rx rxs ⟨a, y, d, ds, ex, exs, hl, hy, sl, sd, q⟩
  subst ex exs
  cases rx
  obtain ⟨uy, rfl, ry⟩ := rxs.one
  (obtain ⟨bs, r1⟩ := Dp.reads I d y uy hy ry)
  have lay := SeqAt.canLay_of_shaped sl
  have room : X.A.units + 1 + min (PyData.depthAll ds) d.depth < cLine := PyProof.Rows.room_in_shaped sd hu
  cases hl with
  | lst hs ha =>
    (obtain ⟨its, rv, ⟨⟨cls, dd, data, sls⟩, n, ho, hc, hdn, hdt⟩, hlen⟩ := I.list hs)
    simp only at hc hdt
    subst hc hdt
    (obtain ⟨as, h4⟩ := Dp.readsAll I ds _ its ha rv)
    have hmap : its.map (SeqAt.readOf s.heap) = ds := SeqAt.readsAll_map ds its as lay h4
    have e : its.toArray.toList.countP (fun u => PyData.eqv (SeqAt.readOf s.heap u) d) = ds.countP fun z => PyData.eqv z d := by
      rw [← hmap, List.countP_map]
      rfl
    refine PySem.call_meets PySem.F.slot_list_count ⟨_, ho, rfl⟩ PySem.F.entry_list_count (PySem.F.args_list_count_2 _ _)
      (SeqAt.list_countAt a its.toArray n dd sls uy (fun u => PyData.eqv (SeqAt.readOf s.heap u) d)) ⟨ho, SeqAt.items_eqAt (vs := its.toArray) (show ReadsAll s.heap its.toArray.toList ds as from h4) r1 lay (SeqAt.canLay_of_shaped sd) room, ?_⟩
    exact ⟨.int (ds.countP fun z => PyData.eqv z d : Nat), H, I.tok _, ⟨s.toks, by rw [← e]⟩, q⟩
def lCnt (ds as : List PyData) : Option PyData := match as with
  | [d] => if SeqAt.shaped (.list ds) = true ∧ SeqAt.shaped d = true ∧ PyData.plainAll ds = true ∧ d.plain = true then some (.int (ds.countP fun z => PyData.eqv z d : Nat)) else none
  | _ => none
theorem is_cnt {K : PySem.W.Frag} : IsLk K lCnt (rCntD K) := by
  intro G H p xs vs ds as y Q eg h r ra ho k
  unfold lCnt at ho
  split at ho
  · rename_i d
    split at ho
    · rename_i hz
      obtain ⟨z1, z2, z3, z4⟩ := hz
      cases ho
      cases ra with
      | cons r1 r2 =>
        cases r2
        exact ⟨p, _, d, ds, rfl, rfl, .lst (SqL.of h) (dpa_of eg r z3), dp_of eg r1 z4, z1, z2, k _ (.int _)⟩
    · cases ho
  · cases ho
end

/-! ### a def that is called while an error is held -/
/-- its promise; p: the error's place and object -/
structure FnW (P : Program) (w : World) (K : PySem.W.Frag) (mg : Str → Option Value) (base : Heap) (CX : CXT) (k : Nat) (f : Addr) (fd : FuncData) (ps : List Str) (sp : Sp) (p : Addr × Obj) : Prop where
  len : ∀ us H Q E, sp us H Q E → us.length = ps.length
  run : ∀ (A : Around) (outer : List Env) (s : Shared) (H : Hp) (ar : Args) (us : List Value) (vs : List V) (Q : VK) (E : XK), L2H.RoomH k A → L2H.PinOk outer H s p → Env0 P w K mg base A outer s H → BindsTo s fd ar (ps.zip us) → Vals vs us → sp vs H Q E →
    codeAny (model P w) A (.call (.ref f) ar) (CR CX outer P w H s Q E) s
section
open PySem.Spec PyProof.Rows
variable {P : Program} {w : World} {K : PySem.W.Frag} {mg : Str → Option Value} {base : Heap} {cl : Str → Value}
theorem fnW_of {x qual : Str} {st : Stmt} {f : Addr} {fd : FuncData} {N ps : List Str} {k : Nat} {msk : Option Nat} {kr : Kd} {g : Dv → Rs (Fl × Dv)} {p : Addr × Obj} (hkr : kr ≠ .B) (hko : kr = .O → ∀ δ δ', g δ ≠ .ok (.nx, δ')) (F : Fun K x qual st f fd) (S : FnScope N ps (defScope st))
    (hbody : ∀ (cdv : Value) (A : Around) (outer : List Env) (s : Shared) (H : Hp) (E : XK), L2H.RoomH k (A.deeper (envOfC qual (defScope st) s.heap.objs.size f cdv)) →
      Pss (L2H.cxH (L2N.CX P w) P w K mg base N qual (defScope st) f cdv A outer s H E p) cl (fun c d _ H => E c d H) kr (defBody st) g) :
    FnW P w K mg base (L2N.CX P w) (k + 1) f fd ps (spD K cl ps.length msk kr (runD N.length msk g)) p := by
  obtain ⟨oc, od, kV, doc, pm, an, cdv, ct, osl, rfl, lk, hc⟩ := F.ex
  refine ⟨fun vs H Q E h => h.1, fun A outer s H ar us vs Q E room pin e0 bt rv hsp => ?_⟩
  have kin : K.In s.heap := e0.mod.kin.keeps fun b o e => (e0.bs b o e).1
  (have lim : s.heap.NoLimit := e0.mod.nolimit.keeps fun b o e => (e0.bs b o e).1)
  have kinds : ∀ y ∈ ps.zip us, (defScope st).names.lookup y.1 = some .local ∨ ((defScope st).names.lookup y.1 = some .cell ∧ ((cellsFrom (s.heap.objs.size + 1) (defScope st).names []).lookup y.1).isSome = true) := fun y hy =>
    (S.par y.1 (List.of_mem_zip (show (y.1, y.2) ∈ ps.zip us from hy)).1).imp id fun q => ⟨q, PySem.W.cellsFrom_some _ _ _ (.inl q)⟩
  refine codeAny_call_function room.depth (kin _ _ lk) rfl S.co S.gen rfl (PySem.W.codeRec_of kin hc) (bt _ _ _ _ (wpAny_newFunctionEnv_cells S.kind kinds fun env he s1 ic => ?_))
  subst he
  refine ⟨lim.keeps ic.toInCall.keep, codeAny_func ?_⟩
  have I := L2H.inv_startH (CX := L2N.CX P w) (cd := cdv) (E := E) S pin e0 hsp.1 rv ic
  refine wpAny_mono ((hbody cdv A outer s H E (room.deeper _)).run [] s1 _ H _ I (d_go hkr hko (pre_le S) hsp)) (fun fl s' hs => ?_) fun _ _ z => z
  cases fl with
  | ret u => exact let ⟨v, σ', H', J, r, q⟩ := hs; ⟨v, H', J.os, J.bare, J.base, J.hok, r, q⟩
  | next => exact let ⟨σ', H', J, q⟩ := hs; ⟨.non, H', J.os, J.bare, J.base, J.hok, rfl, q⟩
  | brk => exact hs.elim fun _ z => z.elim fun _ z => z.2.elim
  | cont => exact hs.elim fun _ z => z.elim fun _ z => z.2.elim
end
section
open PySem.Spec PyProof.Rows
variable {X : Cx} {cl : Str → Value} {W : WX} {kr : Kd} {a b c e : Expr} {es : List Expr} {fa fb : Dv → Rs (PyData × Dv)} {ga : Dv → Rs (List PyData × Dv)} {pos p p2 : Pos} {f : Addr} {fd : FuncData} {ps : List Str} {k n : Nat} {x y : Str} {S : Sm} {CX : CXT} {pin : Addr × Obj} {sp : Sp} {E : L2.St → XK} {t : TA}
theorem pe_callW (Fn : FnW X.prog X.w X.K X.mg X.base CX k f fd ps sp pin) (hpin : pin ∈ X.pn) (room : L2H.RoomH k X.A) (hg : Gl X x) (hm : X.mg x = some (.ref f)) (hk : PySem.W.keepIn X.K (.ref f) = true) (hb : Binds X.K fd ps []) (hx : ∀ σ, PassesAt CX X σ (E σ))
    (ha : PA X (e :: es) t) (hdb : (x == ("__debug__" : Str)) = false) (he : starEach (e :: es) X.env = (false, eval e X.env) :: starEach es X.env) (hpl : (backTo pos (starEach es X.env)).any (·.1) = false) : PE X (.Call (.Name x p) (e :: es) [] pos) (tCallS sp E t) := by
  refine ⟨fun pins s σ H Q I h => wpAny_Call_Name_kw (ld_glob I hg hm ?_ hdb)⟩
  refine PySem.W.callWith_K (h₀ := X.base) I.ok.mod.kin hk (thn (ha.run pos pins s σ H _ I h) fun us s1 ⟨vs, H1, I1, r, q⟩ => ⟨I1.kIn, wpAny_call (codeAny_mono (Fn.run X.A X.stack s1 H1 ⟨us, []⟩ us vs Q (E σ) room ?_ I1.env0 ?_ r q) fun r2 s' hq => ?_)⟩) he hpl
  · have P1 := I1.pin pin (List.mem_append_left _ hpin)
    exact ⟨P1.1, P1.2.1, fun hm => (List.mem_cons.mp (I1.stkSub pin.1 hm)).elim P1.2.2.1 P1.2.2.2.1, P1.2.2.2.2⟩
  · have z := hb s1 us I1.kIn (by rw [List.append_nil, ← r.length]; exact Fn.len _ _ _ _ q)
    rwa [List.append_nil] at z
  · match r2, hq with
    | .error u, hq => exact hx σ pins H1 s1 u s' I1 hq
    | .ok (.ret u), hq => exact I1.after hq
    | .ok .next, hq => exact hq.elim
    | .ok .brk, hq => exact hq.elim
    | .ok .cont, hq => exact hq.elim
theorem m_callW (kr : Kd) (Fn : FnW X.prog X.w X.K X.mg X.base (L2N.CX X.prog X.w) k f fd ps (spD X.K cl n none kr S) pin) (hpin : pin ∈ X.pn) (room : L2H.RoomH k X.A) (tk : L2N.Takes X W) (hg : Gl X x) (hm : X.mg x = some (.ref f)) (hk : PySem.W.keepIn X.K (.ref f) = true) (hb : Binds X.K fd ps [])
    (ha : Pa X cl W (e :: es) ga) (hlen : ∀ δ r, ga δ = .ok r → r.1.length = n) (hdb : (x == ("__debug__" : Str)) = false) (he : starEach (e :: es) X.env = (false, eval e X.env) :: starEach es X.env) (hpl : (backTo pos (starEach es X.env)).any (·.1) = false) :
    Pm X cl W (retK kr) (.Call (.Name x p) (e :: es) [] pos) (fCall S ga) :=
  m_call0 kr (pe_callW Fn hpin room hg hm hk hb (fun σ => L2N.passAt tk σ) ha hdb he hpl) hlen

/-! ### isinstance of the held error -/
theorem rp_exc {K : PySem.W.Frag} {G : Hp} {v : V} {q : Addr} (h : Rp K G v (excD q)) : v = .ref q := by
  generalize hd : excD q = d at h
  cases h with
  | exc q' =>
    simp only [excD, PyData.dict.injEq, List.cons.injEq, Prod.mk.injEq, PyData.list.injEq, PyData.int.injEq, Int.ofNat.injEq, true_and, and_true] at hd
    exact congrArg V.ref hd.symm
  | @scr l ns h =>
    exfalso
    simp only [excD, PyData.dict.injEq, List.cons.injEq, Prod.mk.injEq, PyData.list.injEq, true_and, and_true] at hd
    cases ns with
    | nil => cases hd
    | cons n r => cases hd
  | @dct l o kvs es h1 h2 r =>
    exfalso
    simp only [excD, PyData.dict.injEq] at hd
    subst hd
    have z := excB_no h2 r
    cases z
  | _ => cases hd
theorem call_isP {q D : Addr} {oe : Obj} (C : ExcC X.K D) (hz : Zc (.ref D) none oe) (hf : ∃ vs, oe.data = .fields vs) (hpin : (q, oe) ∈ X.pn) : CallR X (.builtin "isinstance") (rIsE X.K D q) := by
  intro pins s σ H xs us Q I r ⟨c, cv, b, ex, hcv, e, k⟩
  subst ex
  cases r with
  | cons rx rr =>
    cases rr with
    | cons rt rn =>
      cases rn
      cases rx
      obtain rfl := hcv _ rt
      have at_ : PySem.W.InstAt s.heap q oe D none := by
        obtain ⟨vs, hv⟩ := hf
        have g := (I.pin (q, oe) (List.mem_append_left _ hpin)).1
        cases oe
        obtain ⟨h1, h2⟩ := hz
        dsimp only at h1 h2 hv
        subst h1 h2 hv
        exact ⟨g, rfl, rfl, trivial⟩
      exact PySem.W.kia_one (PySem.W.handS_kitx_exc C.hg C.hk C.hs C.hd C.ha C.hn C.ht C.hm) I.kIn at_ e (fun z => nomatch z) fun tk => ⟨.bl b, H, I.kept (t' := tk) fun _ _ z => z, rfl, k⟩
/-- isinstance(e, C), e in slot i the error held at q -/
def fIsE (i : Nat) (q : Addr) (b : Bool) : Dv → Rs (PyData × Dv) := fun δ => match δ[i]? with
  | some (some (.v (.dict [(.none, .list [.none, .int (.ofNat r)])]))) => if r = q then .ok (.bool b, δ) else .bad
  | _ => .bad
theorem m_isE (i : Nat) {x xc : Str} {q D : Addr} {oe : Obj} {cv : V} {cw : Value} {b : Bool} (C : ExcC X.K D) (hz : Zc (.ref D) none oe) (hf : ∃ vs, oe.data = .fields vs) (hpin : (q, oe) ∈ X.pn) (hg : Gl X "isinstance") (hm : X.mg "isinstance" = none)
    (hv : PE X (.Name x p) (tVar i)) (hc : PE X (.Name xc p2) (tC cv)) (hcv : ∀ u, RelV cv u → u = cw) (hk : PySem.W.kitOne X.K (.ref D) cw = some b) {pos' : Pos}
    (he1 : starEach [.Name x p, .Name xc p2] X.env = (false, eval (.Name x p) X.env) :: starEach [.Name xc p2] X.env) (he2 : starEach [.Name xc p2] X.env = (false, eval (.Name xc p2) X.env) :: starEach [] X.env) (hpl : (backTo pos (starEach [.Name xc p2] X.env)).any (·.1) = false) :
    Pm X cl W .F (.Call (.Name "isinstance" pos') [.Name x p, .Name xc p2] [] pos) (fIsE i q b) :=
  pe_weak (pe_callB (call_isP C hz hf hpin) hg hm (by rfl) (pa_cons hv (pa_cons hc pa_nil he2) he1) (by decide) (by decide) he1 hpl) fun σ H Q ⟨F, G, δ, er, pp⟩ => by
    unfold fIsE at pp
    split at pp
    · rename_i r hi
      split at pp
      · rename_i hr
        subst hr
        obtain ⟨v, h1, h2⟩ := er.slot i _ hi
        obtain rfl := rp_exc (q := r) h2
        exact ⟨_, h1, cv, cw, b, rfl, hcv, hk, pp _ H G (Ex.refl G) er (.bl b)⟩
      · exact pp.elim
    · exact pp.elim
end

/-! ### try: .. except C as n: .. -/
def noAb : Dv → Bool
  | [] => true
  | some (.a _) :: _ => false
  | _ :: r => noAb r
theorem noA_of : ∀ {δ : Dv}, noAb δ = true → ∀ (i : Nat) (d : PyData), δ[i]? ≠ some (some (.a d))
  | [], _, i, d, h => by simp at h
  | x :: r, hb, 0, d, h => by
    rw [List.getElem?_cons_zero] at h
    cases h
    cases hb
  | x :: r, hb, i + 1, d, h => by
    rw [List.getElem?_cons_succ] at h
    refine noA_of (δ := r) ?_ i d h
    cases x with
    | none => exact hb
    | some s => cases s <;> first | exact hb | cases hb
theorem bare_get {n i : Nat} {s : SV} (h : (List.replicate n (none : Option SV))[i]? = some (some s)) : False := by
  have z := List.mem_of_getElem? h
  rw [List.mem_replicate] at z
  cases z.2
theorem ER.bare {K : PySem.W.Frag} {F : Fm} {G H : Hp} {σ : L2.St} {δ : Dv} (e : ER K F G H σ δ) (hn : ∀ i p, ¬ F.anc i p) : ER K F G H σ (List.replicate σ.length none) where
  len := List.length_replicate
  ext := e.ext
  fr := e.fr
  there := e.there
  cons := e.cons
  slot := fun i s h => (bare_get h).elim
  own := fun i d p h _ => (bare_get h).elim
  uniq := fun i j s t p h _ _ _ _ _ => (bare_get h).elim
  anch := fun i p h => absurd h (hn i p)
  ancI := fun i d p h _ => (bare_get h).elim
/-- m: the number of slots, i: the error's; cs: the classes that are caught, wd: what is told of each -/
def gTry (m : Nat) (cs : List Str) (wd : Str → PyData) (g : Dv → Rs (Fl × Dv)) : Dv → Rs (Fl × Dv) := fun δ => if noAb δ = true then (match g δ with
    | .ok x => .ok x
    | .err z => if z ∈ cs then .ok (.rt (wd z), List.replicate m none) else .bad
    | .bad => .bad) else .bad
section
variable {X : Cx} {cl : Str → Value} {Wout : WX} {x n : Str} {c : Value} {i m : Nat} {body suite : List Stmt} {b0 : Stmt} {np pos pos' : Pos} {cs : List Str} {wd : Str → PyData} {g : Dv → Rs (Fl × Dv)}
theorem s_try (hs : X.stack = X.env :: X.outer) (hf : X.env.frame = some X.env.locals) (hN : X.N.Nodup) (hi : X.N[i]? = some n) (hm : X.N.length = m) (hln : X.env.kindOf n = some .local) (hc : Names X x c) (tk : L2N.Takes X Wout)
    (hcs : ∀ z ∈ cs, PySem.W.exmOne X.K (cl z) c = some true)
    (hb : ∀ (W : WX) (pn : List (Addr × Obj)) (xe : Value → Shared → Prop), L2N.Takes (X.tr pn xe) W → PassesOwn (model X.prog X.w) X.A X.env xe → Pss (X.tr pn xe) cl W .F body g)
    (hsu : ∀ z ∈ cs, ∀ (a : Addr) (oe : Obj) (pn : List (Addr × Obj)), L2N.Zn (cl z) none oe → (∃ vs, oe.data = .fields vs) → ∃ gs, Pss (X.suite a ((a, oe) :: pn)) cl W0 .F (b0 :: suite) gs ∧
      ∃ δe, gs ((List.replicate m none).set i (some (.v (excD a)))) = .ok (.rt (wd z), δe) ∧ δe.length = m) :
    Ps X cl Wout .F (.Try body [.ExceptHandler (some (.Name x np)) (some n) (b0 :: suite) pos'] [] [] pos) (gTry m cs wd g) := by
  let ts : Addr → Value → Option Addr → TS := fun a cls d => fun D σ H => σ.length = m → ∃ z ∈ cs, cls = cl z ∧ d = none ∧ ∀ oe pn, L2N.Zn (cl z) none oe → (∃ vs, oe.data = .fields vs) → ∃ gs, Pss (X.suite a ((a, oe) :: pn)) cl W0 .F (b0 :: suite) gs ∧ tS X.K cl W0 .F gs D σ H
  refine ps_weak (L2N.ps_try_as (ts := ts) (Wout := Wout) (tb := fun W => tS X.K cl W .F g) hs hf hN hi hln hc tk hb fun a oe cls d pn hz hfs => ⟨fun pins s σ H D I q => ?_⟩) fun D σ H ⟨F, G, δ, er, pp⟩ => ?_
  · obtain ⟨z, hz', rfl, rfl, k⟩ := q (I.len.trans hm)
    obtain ⟨gs, h1, h2⟩ := k oe pn hz hfs
    exact h1.run pins s σ H D I h2
  · refine ⟨F, G, δ, er, ?_⟩
    unfold gTry at pp
    by_cases hno : noAb δ = true
    · rw [if_pos hno] at pp
      have hanc : ∀ j p, ¬ F.anc j p := fun j p z => by
        obtain ⟨d, h1, _⟩ := er.anch j p z
        exact noA_of hno j d h1
      cases hg : g δ with
      | ok y => rw [hg] at pp; exact pp
      | bad => rw [hg] at pp; exact pp.elim
      | err z =>
        rw [hg] at pp
        simp only at pp
        split at pp
        · rename_i hz
          intro σ1 δ1 G1 H1 e1 r1
          refine ⟨true, hcs z hz, fun _ a ha hlen => ⟨z, hz, rfl, rfl, fun oe pn hzn hfs => ?_⟩, fun w => (by cases w)⟩
          obtain ⟨gs, k1, δe, k2, k3⟩ := hsu z hz a oe pn hzn hfs
          refine ⟨gs, k1, F, G1, (List.replicate m none).set i (some (.v (excD a))), ?_, ?_⟩
          · rw [List.length_set] at hlen
            have q := (r1.bare hanc).setv (i := i) (v := .ref a) (fun d w => (bare_get w).elim) (Rp.exc a)
            rw [hlen] at q
            exact q
          · rw [k2]
            intro σ2 H2 G2 e2 r2 v rv
            have r3 := r2.bare hanc
            rw [show σ2.length = m from by rw [← r2.len, k3]] at r3
            exact pp σ2 H2 G2 (e1.trans e2) r3 v rv
        · exact pp.elim
    · rw [if_neg hno] at pp
      exact pp.elim
end
end Pw

set_option maxRecDepth 100000
set_option maxHeartbeats 3900000
/-! ## 14. repr -/
namespace Pw
open PySem L2
open Evl (Ex ex_rd fresh_back)
mutual
/-- data that repr can show: an empty dict is the one dict in it -/
def shD : PyData → Bool
  | .dict es => es.isEmpty
  | .list ds => shA ds
  | .tuple ds => shA ds
  | .none => true
  | .bool _ => true
  | .int _ => true
  | .str _ => true
def shA : List PyData → Bool
  | [] => true
  | d :: ds => shD d && shA ds
end
section
variable {X : Cx} {pins : List (Addr × Obj)} {σ : L2.St} {G H : Hp} {s : Shared}
theorem not_sys (I : Inv X pins σ H s) (hs : (X.K.lookup sysModules).isSome = true) {a : Addr} (h : H a ≠ none) : a ≠ sysModules := fun e => by
  cases ho : X.K.lookup sysModules with
  | none => rw [ho] at hs; cases hs
  | some o => exact h (e ▸ (I.bs sysModules o (I.mod.kin _ _ ho)).2)
theorem rp_no_kv {K : PySem.W.Frag} {v : V} (h : Rp K G v (.dict [])) : ∃ a, v = .ref a ∧ G a = some (.dK []) := by
  cases h with
  | @dct a o kvs es h1 h2 r =>
    cases r
    cases o with
    | dK l =>
      simp only [hoKV, Option.some.injEq, List.map_eq_nil_iff] at h2
      subst h2
      exact ⟨a, rfl, h1⟩
    | dT l => simp [hoKV] at h2
    | _ => cases h2
mutual
theorem rd_of (I : Inv X pins σ H s) (eg : Ex G H) (hs : (X.K.lookup sysModules).isSome = true) : ∀ (d : PyData) (v : V) (u : Value), Rp X.K G v d → shD d = true → RelV v u → ∃ as, Reads s.heap u d as ∧ sysModules ∉ as
  | .none, _, _, h, _, r => by
    obtain rfl := rp_non h
    cases r
    exact ⟨_, .none, by simp⟩
  | .bool b, _, _, h, _, r => by
    obtain rfl := rp_bl h
    cases r
    exact ⟨_, .bool b, by simp⟩
  | .int i, _, _, h, _, r => by
    obtain rfl := rp_int h
    obtain ⟨t, rfl⟩ := r
    exact ⟨_, .int i t, by simp⟩
  | .str x, _, _, h, _, r => by
    obtain rfl := rp_str h
    obtain ⟨t, rfl⟩ := r
    exact ⟨_, .str x t, by simp⟩
  | .list ds, _, _, h, c, r => by
    obtain ⟨a, xs, rfl, h1, ra⟩ := rp_lst h
    cases r
    obtain ⟨its, rv, ⟨o, n, ho, hc, _, hd⟩, _⟩ := I.list (SqL.of (eg _ _ h1))
    obtain ⟨as, q, nq⟩ := rda_of I eg hs ds xs its ra (by simpa [shD] using c) rv
    refine ⟨_, .list ho hc hd q, fun z => ?_⟩
    (rcases List.mem_cons.mp z with z | z)
    · exact not_sys I hs (a := a) (by rw [eg _ _ h1]; exact nofun) z.symm
    · exact nq z
  | .tuple ds, _, _, h, c, r => by
    obtain ⟨a, xs, rfl, h1, ra⟩ := rp_tup h
    cases r
    obtain ⟨its, rv, ⟨o, ho, hc, n, hd⟩, _⟩ := I.tuple (SqT.of (eg _ _ h1))
    obtain ⟨as, q, nq⟩ := rda_of I eg hs ds xs its ra (by simpa [shD] using c) rv
    exact ⟨_, .tuple ho hc hd q, nq⟩
  | .dict [], _, _, h, c, r => by
    obtain ⟨a, rfl, h1⟩ := rp_no_kv h
    cases r
    obtain ⟨_, _, vs, rel, dof⟩ := dk_of I.hok (eg _ _ h1)
    cases rel
    obtain ⟨o, es, ep, ho, hex, hdat, _, hpr, _⟩ := dof
    have e0 : es.toList = [] := by
      generalize es.toList = l at hpr
      cases l with
      | nil => rfl
      | cons p q => cases hpr
    have h3 := hex.1
    refine ⟨_, .dict (kvs := []) ho h3 hdat (as := []) (bs := []) (by rw [e0]; exact .nil) (by rw [e0]; exact .nil), fun z => ?_⟩
    (rcases List.mem_cons.mp z with z | z)
    · exact not_sys I hs (a := a) (by rw [eg _ _ h1]; exact nofun) z.symm
    · simp at z
  | .dict (_ :: _), _, _, _, c, _ => by simp [shD] at c
theorem rda_of (I : Inv X pins σ H s) (eg : Ex G H) (hs : (X.K.lookup sysModules).isSome = true) : ∀ (ds : List PyData) (vs : List V) (us : List Value), RpA X.K G vs ds → shA ds = true → Vals vs us → ∃ as, ReadsAll s.heap us ds as ∧ sysModules ∉ as
  | [], _, _, h, _, r => by
    cases h
    cases r
    exact ⟨_, .nil, by simp⟩
  | d :: ds, _, _, h, c, r => by
    cases h with
    | cons h1 h2 =>
      cases r with
      | cons r1 r2 =>
        simp only [shA, Bool.and_eq_true] at c
        obtain ⟨as, q1, n1⟩ := rd_of I eg hs d _ _ h1 c.1 r1
        obtain ⟨bs, q2, n2⟩ := rda_of I eg hs ds _ _ h2 c.2 r2
        exact ⟨_, .cons q1 q2, fun z => (List.mem_append.mp z).elim n1 n2⟩
end
end
/-- it is short and flat enough to be shown -/
def okR (d : PyData) : Bool := shD d && d.showable && decide (d.depth ≤ 60) && decide (d.shown.length + 64 ≤ sizeLine)
def oRepr (d : PyData) : Option PyData := if okR d = true then some (.str d.shown) else none
section
variable {X : Cx} {cl : Str → Value} {W : WX} {a : Expr} {fa : Dv → Rs (PyData × Dv)} {pos p : Pos}
/-- repr(x) -/
def rRepr (K : PySem.W.Frag) : List V → Hp → VK → Prop := fun xs H Q => ∃ (G : Hp) (v : V) (d : PyData), xs = [v] ∧ Ex G H ∧ Rp K G v d ∧ okR d = true ∧ Q (.str d.shown) H
theorem cr_repr (hg : X.A.guards = some []) (hu : X.A.units + 64 < cLine) (hs : (X.K.lookup sysModules).isSome = true) : CallR X (.builtin "repr") (rRepr X.K) := by
  intro pins s σ H xs us Q I rx ⟨G, v, d, ex, eg, rp, ok, q⟩
  subst ex
  obtain ⟨u, rfl, ru⟩ := rx.one
  unfold okR at ok
  (simp only [Bool.and_eq_true, decide_eq_true_eq] at ok)
  obtain ⟨⟨⟨o1, o2⟩, o3⟩, o4⟩ := ok
  obtain ⟨as, rd, ns⟩ := rd_of I eg hs d v u rp o1 ru
  have hz : d.shown.length ≤ sizeLine := by omega
  have big : ∀ (b : Addr), u = .ref b → wpAny (model X.prog X.w) X.A (call (.builtin "repr") [u]) (EP X pins σ Q) X.xe s := fun b e => by
    subst e
    exact repr_of_reads' rd o2 (fun _ => ns) hg (by omega) (fun _ _ z => z) (fun h' w tk hk => ⟨.str d.shown, H, I.kept (t' := tk) hk, ⟨w, rfl⟩, q⟩) hz
  cases rd with
  | none => exact P.repr_of_none ⟨.str _, H, I.tok _, ⟨_, rfl⟩, q⟩
  | bool b => exact P.repr_of_bool ⟨.str _, H, I.tok _, ⟨_, rfl⟩, q⟩
  | int i t => exact P.repr_of_int (by simpa [PyData.showable] using o2) ⟨.str _, H, I.tok _, ⟨_, rfl⟩, q⟩
  | str x t => exact P.repr_of_str ⟨.str _, H, I.tok _, ⟨_, rfl⟩, q⟩ hz
  | list h1 h2 h3 h4 => exact big _ rfl
  | tuple h1 h2 h3 h4 => exact big _ rfl
  | dict h1 h2 h3 h4 h5 => exact big _ rfl
theorem m_repr (hg : X.A.guards = some []) {n : Nat} (hr : Room n X.A) (hs : (X.K.lookup sysModules).isSome = true) (hgl : Gl X "repr") (hm : X.mg "repr" = none) (ha : Pm X cl W .F a fa)
    (he : starEach [a] X.env = (false, eval a X.env) :: starEach [] X.env) (hpl : (backTo pos (starEach [] X.env)).any (·.1) = false) : Pm X cl W .F (.Call (.Name "repr" p) [a] [] pos) (f1 oRepr fa) :=
  pe_weak (pe_callB (cr_repr hg (by have := units65 hr; omega) hs) hgl hm (by rfl) (pa_cons ha pa_nil he) (by decide) (by decide) he hpl) fun σ H Q ⟨F, G, δ, er, pp⟩ => ⟨F, G, δ, er, Po.bind pp fun dx δ1 x H1 G1 e1 r1 rx p1 => by
    unfold oRepr at p1
    split at p1
    · rename_i ok
      exact ⟨G1, x, dx, rfl, r1.ext, rx, ok, p1 _ H1 G1 (Ex.refl G1) r1 (.str _)⟩
    · exact p1.elim⟩
end
end Pw

set_option maxRecDepth 100000
set_option maxHeartbeats 3900000
/-! ## 15. the law's own def: called where no repr runs yet -/
namespace Pw
open PySem L2 PySem.Spec PyProof.Rows
section
variable {P : Program} {w : World} {K : PySem.W.Frag} {mg mb : Str → Option Value} {CX : CXT} {cl : Str → Value} {fa a : Addr} {fd : FuncData} {x qual : Str} {st : Stmt} {N : List Str} {g : Dv → Rs (Fl × Dv)} {s0 : Shared} {vs : List Value} {ns : List Int}
/-- its body, run from a state at which the script stands at a -/
theorem law_body (F : Fun K x qual st fa fd) (S : FnScope N ["_law_script"] (defScope st)) (bt : ∀ (s : Shared) (u : Value), BindsTo s fd ⟨[u], []⟩ [("_law_script", u)]) {base : Heap} {s : Shared} {H : Hp} (e0 : Env0 P w K mg base callerA [] s H)
    (hb : ∀ (cdv : Value), Pss (cxOf (L2N.CX P w) P w K mg base N qual (defScope st) fa cdv callerA [] s H (fun _ _ _ => False)) cl (fun _ _ _ _ => False) .F (defBody st) g)
    (hS : SqL K H a (ns.map V.int)) (hg : runD N.length none g [scrD ns] = .ok (.bool true, none)) :
    codeAny (model P w) callerA (.call (.ref fa) ⟨[.ref a], []⟩) (CR (L2N.CX P w) [] P w H s (fun v _ => v = .bl true) fun _ _ _ => False) s := by
  obtain ⟨oc, od, kV, doc, pm, an, cdv, ct, osl, rfl, lk, hc⟩ := F.ex
  have kin : K.In s.heap := e0.mod.kin.keeps fun b o e => (e0.bs b o e).1
  (have lim : s.heap.NoLimit := e0.mod.nolimit.keeps fun b o e => (e0.bs b o e).1)
  have kinds : ∀ y ∈ [(("_law_script" : Str), Value.ref a)], (defScope st).names.lookup y.1 = some .local ∨ ((defScope st).names.lookup y.1 = some .cell ∧ ((cellsFrom (s.heap.objs.size + 1) (defScope st).names []).lookup y.1).isSome = true) := fun y hy => by
    rw [List.mem_singleton] at hy
    subst hy
    exact (S.par _ List.mem_cons_self).imp id fun q => ⟨q, PySem.W.cellsFrom_some _ _ _ (.inl q)⟩
  refine codeAny_call_function (by decide +kernel) (kin _ _ lk) rfl S.co S.gen rfl (PySem.W.codeRec_of kin hc) (bt s (.ref a) _ _ _ _ (wpAny_newFunctionEnv_cells S.kind kinds fun env he s1 ic => ?_))
  subst he
  refine ⟨lim.keeps ic.toInCall.keep, codeAny_func ?_⟩
  have I := inv_start (CX := L2N.CX P w) (cd := cdv) (E := fun _ _ _ => False) (ps := ["_law_script"]) (us := [.ref a]) (vs := [.ref a]) S rfl e0 rfl (.cons rfl .nil) ic
  have sp : spD K cl 1 none .F (runD N.length none g) [.ref a] H (fun v _ => v = .bl true) (fun _ _ _ => False) := by
    refine ⟨rfl, H, [scrD ns], fun _ _ e => e, rfl, fun i d hd => ?_, ?_⟩
    · cases i with
      | zero => cases hd; exact ⟨_, rfl, .scr hS⟩
      | succ i => cases hd
    · rw [hg]
      exact fun v H2 G2 _ _ _ _ _ r => rp_bl r
  refine wpAny_mono ((hb cdv).run [] s1 _ H _ I (d_go (kr := .F) (E := fun _ _ _ => False) (fun z => by cases z) (fun z => by cases z) (pre_le S) sp)) (fun fl s' hs => ?_) fun _ _ z => z
  cases fl with
  | ret u => exact let ⟨v, σ', H', J, r, q⟩ := hs; ⟨v, H', J.os, J.bare, J.base, J.hok, r, q⟩
  | next => exact let ⟨σ', H', J, q⟩ := hs; ⟨.non, H', J.os, J.bare, J.base, J.hok, rfl, q⟩
  | brk => exact hs.elim fun _ z => z.elim fun _ z => z.2.elim
  | cont => exact hs.elim fun _ z => z.elim fun _ z => z.2.elim
/-- from what is tracked of the heap behind the top -/
theorem law_from {H : Hp} (KX : K.In s0.heap) (hns : s0.heap.Ns mainGlobals mg) (hmb : s0.heap.Ns builtinsNs mb) (hbb : ∀ x : Str, x ≠ "__name__" → mb x = bootBuiltins x) (hlim : s0.heap.NoLimit) (hgen : s0.gens = #[])
    (ha : s0.heap.get? a = some { cls := .type "list", data := .seq vs.toArray }) (hO : Only H) (hok : HOk P w H s0.heap) (hA : ∀ b, H b ≠ none → b = a ∧ K.lookup a = none)
    (run : ∀ base : Heap, Env0 P w K mg base callerA [] s0 H → codeAny (model P w) callerA (.call (.ref fa) ⟨[.ref a], []⟩) (CR (L2N.CX P w) [] P w H s0 (fun v _ => v = .bl true) fun _ _ _ => False) s0) :
    codeAny (model P w) callerA (.call (.ref fa) ⟨[.ref a], []⟩) (fun r s' => r = .ok (.ret (.bool true)) ∧ OldK s0.heap s'.heap ∧ s'.os = s0.os ∧ AllBare s'.gens) s0 := by
  have free : ∀ {b : Addr} {o : Obj}, s0.heap.get? b = some o → (∀ v, o ≠ { cls := .type "list", data := .seq v }) → H b = none := fun {b o} e ne => by
    cases q : H b with
    | none => rfl
    | some u =>
      obtain ⟨rfl, _⟩ := hA b (by rw [q]; exact nofun)
      rw [ha] at e
      cases e
      exact absurd rfl (ne _)
  have ns_of : ∀ {b : Addr} {m : Str → Option Value}, s0.heap.Ns b m → (hidT s0.heap H).Ns b m := fun {b m} ⟨o, es, ep, e, d, r⟩ => ⟨o, es, ep, hidT_get e (free e fun v z => by subst z; cases d), d, r⟩
  have kb : K.In (hidT s0.heap H) := fun b o e => hidT_get (KX b o e) (by
    cases q : H b with
    | none => rfl
    | some u =>
      obtain ⟨rfl, h2⟩ := hA b (by rw [q]; exact nofun)
      rw [h2] at e
      cases e)
  have md : Mod K mg (hidT s0.heap H) := ⟨kb, ns_of hns, ⟨mb, ns_of hmb, hbb⟩, hlim.elim fun m z => ⟨m, ns_of z.1, z.2⟩⟩
  refine codeAny_mono (run _ ⟨rfl, md, fun b o e => of_hidT e, Nat.le_of_eq (hidT_size _ _), trivial, fun b z => (List.not_mem_nil z).elim, hok, .of_eq hgen⟩) fun r s' h => ?_
  match r, h with
  | .error e, h => exact h.elim fun _ z => z.elim fun _ z => z.elim fun _ z => z.elim fun _ z => z.elim fun _ z => z.2.2.2.2.2.2.2.elim
  | .ok .next, h => exact h.elim
  | .ok .brk, h => exact h.elim
  | .ok .cont, h => exact h.elim
  | .ok (.ret u), ⟨v, H', os, bare, un, hok', r', q⟩ =>
    cases (show v = .bl true from q)
    cases (show u = Value.bool true from r')
    (refine ⟨rfl, OldK.of_keep fun b o e => ?_, os, bare⟩)
    (rcases hO b with z | ⟨ob, xs, z⟩)
    · exact un.keep b o e z List.not_mem_nil List.not_mem_nil
    · obtain ⟨e1, _⟩ := hok b _ z
      rw [e] at e1
      cases e1
      exact (hok' b _ (un.frzs b o _ z)).1
/-- the law's call -/
theorem law_runs (KX : K.In s0.heap) (hns : s0.heap.Ns mainGlobals mg) (hmb : s0.heap.Ns builtinsNs mb) (hbb : ∀ x : Str, x ≠ "__name__" → mb x = bootBuiltins x) (hlim : s0.heap.NoLimit) (hgen : s0.gens = #[])
    (ha : s0.heap.get? a = some { cls := .type "list", data := .seq vs.toArray }) (hi : IntsAre vs ns) (hl : ns.length ≤ sizeLine)
    (run : ∀ (H : Hp) (base : Heap), SqL K H a (ns.map V.int) → Env0 P w K mg base callerA [] s0 H → codeAny (model P w) callerA (.call (.ref fa) ⟨[.ref a], []⟩) (CR (L2N.CX P w) [] P w H s0 (fun v _ => v = .bl true) fun _ _ _ => False) s0) :
    codeAny (model P w) callerA (.call (.ref fa) ⟨[.ref a], []⟩) (fun r s' => r = .ok (.ret (.bool true)) ∧ OldK s0.heap s'.heap ∧ s'.os = s0.os ∧ AllBare s'.gens) s0 := by
  have rv := vals_ints hi
  cases hk : K.lookup a with
  | some o =>
    have e := (KX a o hk).symm.trans ha
    cases e
    exact law_from (H := fun _ => none) KX hns hmb hbb hlim hgen ha (fun _ => .inl rfl) (fun _ _ z => nomatch z) (fun _ z => absurd rfl z) fun base e0 => run _ base (.inr ⟨_, vs.toArray, _, hk, rfl, rfl, rfl, by rw [List.size_toArray, hi.length]; exact hl, by simpa using rv⟩) e0
  | none =>
    let H : Hp := upd (fun _ => none) a (.frz { cls := .type "list", data := .seq vs.toArray } (.lst (ns.map V.int)))
    have hH : ∀ b u, H b = some u → b = a ∧ u = .frz { cls := .type "list", data := .seq vs.toArray } (.lst (ns.map V.int)) := fun b u z => by
      by_cases q : b = a
      · subst q
        exact ⟨rfl, (Option.some.inj ((upd_same (H := fun _ => none)).symm.trans z)).symm⟩
      · exact nomatch ((upd_ne (H := fun _ => none) q).symm.trans z)
    refine law_from (H := H) KX hns hmb hbb hlim hgen ha (fun b => ?_) (fun b u z => ?_) (fun b z => ?_) fun base e0 => run H base (.inl (.inr ⟨_, upd_same⟩)) e0
    · cases q : H b with
      | none => exact .inl rfl
      | some u => obtain ⟨_, rfl⟩ := hH b u q; exact .inr ⟨_, _, rfl⟩
    · obtain ⟨rfl, rfl⟩ := hH b u z
      (exact ⟨ha, by rw [List.length_map]; exact hl, vs, _, rv, ha⟩)
    · cases q : H b with
      | none => exact absurd q z
      | some u => exact ⟨(hH b u q).1, hk⟩
end
/-- A LAW: from the heap's facts, the body's sense and what that comes to -/
theorem walk_pw {l : PySem.W.OpenLaw} {n : Nat} {q : Program} {loose : List Str} {XP : (Str → Option Value) → Heap → Prop} {YP : World → Heap → Prop} {d : DefRec}
    (hn : l.most = some n) (hn2 : n ≤ sizeLine) (hdf : d.params.defaults = [])
    (F : ∀ (w : World) (mg : Str → Option Value) (fa : Addr) (h : Heap) (_ : YP w h), h.Ns mainGlobals mg → mg d.name = some (.ref fa) →
      ∃ (K : PySem.W.Frag) (fd : FuncData) (x qual : Str) (st : Stmt) (N : List Str) (cl : Str → Value) (g : Dv → Rs (Fl × Dv)), K.In h ∧ Fun K x qual st fa fd ∧ FnScope N ["_law_script"] (defScope st) ∧ (∀ (s : Shared) (u : Value), BindsTo s fd ⟨[u], []⟩ [("_law_script", u)]) ∧
        (∀ (base : Heap) (s : Shared) (H : Hp) (cdv : Value), K.In base → base.Ns mainGlobals mg → Pss (cxOf (L2N.CX l.prog w) l.prog w K mg base N qual (defScope st) fa cdv callerA [] s H (fun _ _ _ => False)) cl (fun _ _ _ _ => False) .F (defBody st) g) ∧
        ∀ ns : List Int, ns.length ≤ n → runD N.length none g [scrD ns] = .ok (.bool true, none)) :
    PySem.W.WalkO q loose XP YP l.row.toRowW d [] (fun u us => PySem.call u us) := by
  (refine Att.attach_call hn hdf fun w s₀ s₁ mg mb fa o pm cd doc a vs ns G Y ho hd hcd hmg hobj hints hlen hg => ?_)
  obtain ⟨K, fd, x, qual, st, N, cl, g, KX, hF, hS, hb, hP, hR⟩ := F w mg fa _ Y G.T.g hmg
  exact law_runs KX G.T.g G.T.b G.T.builtins G.T.nolimit hg hobj hints (Nat.le_trans hlen hn2) fun H base hq e0 => law_body hF hS hb e0 (fun cdv => hP base s₁ H cdv e0.mod.kin e0.mod.glob) hq (hR ns hlen)
end Pw

set_option maxRecDepth 100000
set_option maxHeartbeats 3900000
/-! ## 16. tests by comparing; defs by name -/
namespace Pw
open PySem L2
open Evl (Ex ex_rd fresh_back)
section
variable {X : Cx} {cl : Str → Value} {W : WX} {kr : Kd} {a b c e : Expr} {es : List Expr} {fa fb fc : Dv → Rs (PyData × Dv)} {ga : Dv → Rs (List PyData × Dv)} {pos p p2 : Pos} {n : Nat}
theorem t_eq (hr : Room n X.A) (ha : Pm X cl W .F a fa) (hb : Pm X cl W .F b fb) : Pt X cl W (.Compare a [.Eq] [b] pos) (fT (f2 oEq fa fb)) := t_cmp (op_eqP hr.units) is_eqP ha hb (nomark _)
theorem t_ne (hr : Room n X.A) (ha : Pm X cl W .F a fa) (hb : Pm X cl W .F b fb) : Pt X cl W (.Compare a [.NotEq] [b] pos) (fT (f2 oNe fa fb)) := t_cmp (op_neP hr.units) is_neP ha hb (nomark _)
theorem t_neU (hu : X.A.units + 64 < cLine) (ha : Pm X cl W .F a fa) (hb : Pm X cl W .F b fb) : Pt X cl W (.Compare a [.NotEq] [b] pos) (fT (f2 oNe fa fb)) := t_cmp (op_neP hu) is_neP ha hb (nomark _)
theorem is_ltA {K : PySem.W.Frag} : Is2 K .F oLtA (fun x y H Q => rI0 (fun i j => .bl (decide (i < j))) x y H Q ∨ rLtT K x y H Q) := Is2.imp (is_rB0.or is_ltT) fun x y d h => by
    cases x <;> cases y <;> simp only [oLtA] at h <;> first | (cases h; done) | (simp [oI, oLtT, Option.or] at h ⊢; first | exact h | (obtain ⟨h1, h2⟩ := h; simp [h1, h2]))
theorem t_lt (hr : Room n X.A) (ha : Pm X cl W .F a fa) (hb : Pm X cl W .F b fb) : Pt X cl W (.Compare a [.Lt] [b] pos) (fT (f2 oLtA fa fb)) := t_cmp (op_lt.or (op_ltT hr.units0)) is_ltA ha hb (nomark _)
theorem t_le (ha : Pm X cl W .F a fa) (hb : Pm X cl W .F b fb) : Pt X cl W (.Compare a [.LtE] [b] pos) (fT (f2 oLe fa fb)) := t_cmp op_le is_rB0 ha hb (nomark _)
theorem t_gt (ha : Pm X cl W .F a fa) (hb : Pm X cl W .F b fb) : Pt X cl W (.Compare a [.Gt] [b] pos) (fT (f2 oGt fa fb)) := t_cmp op_gt is_rB0 ha hb (nomark _)
theorem t_ge (ha : Pm X cl W .F a fa) (hb : Pm X cl W .F b fb) : Pt X cl W (.Compare a [.GtE] [b] pos) (fT (f2 oGe fa fb)) := t_cmp op_ge is_rB0 ha hb (nomark _)
theorem is_isA {K : PySem.W.Frag} : Is2 K .F oIsN (fun x y H Q => (y = .non ∧ Q (.bl (decide (x = .non))) H) ∨ ∃ a b, x = .bl a ∧ y = .bl b ∧ Q (.bl (decide (a = b))) H) := by
  intro F G H σ δ x y dx dy d Q e rx ry ho k
  cases ry <;> simp only [oIsN] at ho <;> try (cases ho; done)
  · cases ho
    have h := k (.bl _) H G (Ex.refl G) e (.bl _)
    rw [← rp_isN rx] at h
    exact .inl ⟨rfl, h⟩
  · cases rx <;> (try simp only [excD] at ho) <;> try (cases ho; done)
    cases ho
    exact .inr ⟨_, _, rfl, rfl, k _ H G (Ex.refl G) e (.bl _)⟩
theorem is_notA {K : PySem.W.Frag} : Is2 K .F oNotN (fun x y H Q => (y = .non ∧ Q (.bl (!decide (x = .non))) H) ∨ ∃ a b, x = .bl a ∧ y = .bl b ∧ Q (.bl (!decide (a = b))) H) := by
  intro F G H σ δ x y dx dy d Q e rx ry ho k
  cases ry <;> simp only [oNotN] at ho <;> try (cases ho; done)
  · cases ho
    have h := k (.bl _) H G (Ex.refl G) e (.bl _)
    rw [← rp_isN rx] at h
    exact .inl ⟨rfl, h⟩
  · cases rx <;> (try simp only [excD] at ho) <;> try (cases ho; done)
    cases ho
    exact .inr ⟨_, _, rfl, rfl, k _ H G (Ex.refl G) e (.bl _)⟩
theorem t_is (ha : Pm X cl W .F a fa) (hb : Pm X cl W .F b fb) : Pt X cl W (.Compare a [.Is] [b] pos) (fT (f2 oIsN fa fb)) := t_cmp (op_isN.or op_is_bl) is_isA ha hb (nomark _)
theorem t_isnot (ha : Pm X cl W .F a fa) (hb : Pm X cl W .F b fb) : Pt X cl W (.Compare a [.IsNot] [b] pos) (fT (f2 oNotN fa fb)) := t_cmp (op_notN.or op_isnot_bl) is_notA ha hb (nomark _)
theorem t_inX {op : CmpOp} {p : PyData → PyData → Option PyData} {r : R2} (ho : OpR X (compareOp op) r) (hi : Is2B X.K p r) (ha : Pm X cl W .F a fa) (hb : Pm X cl W .B b fb) (hm : behindInMarks op b = false) : Pt X cl W (.Compare a [op] [b] pos) (fT (f2 p fa fb)) :=
  pt_weak (pt_cmpR ho ha hb hm) fun σ H Q ⟨F, G, δ, er, pp⟩ => ⟨F, G, δ, er, Po.bindT (k := fun x => (fb x.2).bind fun y => (lift (p x.1 y.1) y.2).bind fun z => onB z.1 fun b => .ok (b, z.2)) (by
      have e : fT (f2 p fa fb) δ = (fa δ).bind fun x => (fb x.2).bind fun y => (lift (p x.1 y.1) y.2).bind fun z => onB z.1 fun b => .ok (b, z.2) := by
        unfold fT f2
        cases fa δ with
        | ok x => simp only [Rs.bind_ok]; cases fb x.2 <;> rfl
        | _ => rfl
      rw [← e]
      exact pp) fun dx δ1 x H1 G1 e1 r1 rx p1 => ⟨F, G1, δ1, r1, Po.bindT p1 fun dy δ2 y H2 G2 e2 r2 ry p2 => by
    cases hop : p dx dy with
    | none => rw [hop] at p2; exact p2.elim
    | some d =>
      rw [hop] at p2
      refine hi F G2 H2 σ δ2 x y dx dy d _ r2 (Rp.mono e2 rx) ry hop fun v rv => ?_
      cases rv with
      | bl k => exact ⟨k, rfl, p2 H2 G2 (Ex.refl G2) r2⟩
      | _ => exact p2.elim⟩⟩
theorem t_in (hr : Room n X.A) (ha : Pm X cl W .F a fa) (hb : Pm X cl W .B b fb) (hm : behindInMarks .In b = false) : Pt X cl W (.Compare a [.In] [b] pos) (fT (f2 oIn fa fb)) :=
  t_inX (r := rInAll X.K false) (p := oIn) ((op_inP (units65 hr)).or ((op_din (by have := hr.un; omega)).or (by
    intro pins s σ H x y v u Q I rx ry ⟨i, j, e1, e2, q⟩
    rw [Bool.false_xor] at q
    exact op_in_str pins s σ H x y v u Q I rx ry ⟨i, j, e1, e2, q⟩))) (fun F G H σ δ x y dx dy d Q er rx ry ho k => is_inAll false F G H σ δ x y dx dy d Q er rx ry (by simpa [oIn] using ho) k) ha hb hm
theorem t_nin (hr : Room n X.A) (ha : Pm X cl W .F a fa) (hb : Pm X cl W .B b fb) (hm : behindInMarks .NotIn b = false) : Pt X cl W (.Compare a [.NotIn] [b] pos) (fT (f2 oNin fa fb)) :=
  t_inX (r := rInAll X.K true) (p := oNin) ((op_ninP (units65 hr)).or ((op_dnin (by have := hr.un; omega)).or (by
    intro pins s σ H x y v u Q I rx ry ⟨i, j, e1, e2, q⟩
    rw [Bool.true_xor] at q
    exact op_notin_str pins s σ H x y v u Q I rx ry ⟨i, j, e1, e2, q⟩))) (fun F G H σ δ x y dx dy d Q er rx ry ho k => is_inAll true F G H σ δ x y dx dy d Q er rx ry (by simpa [oNin] using ho) k) ha hb hm

/-! ### the count of arguments -/
theorem len_nil : ∀ (δ : Dv) (r : List PyData × Dv), aNil δ = .ok r → r.1.length = 0 := fun δ r h => by cases h; rfl
theorem len_cons {f : Dv → Rs (PyData × Dv)} {g : Dv → Rs (List PyData × Dv)} {m : Nat} (h : ∀ (δ : Dv) (r : List PyData × Dv), g δ = .ok r → r.1.length = m) : ∀ (δ : Dv) (r : List PyData × Dv), aCons f g δ = .ok r → r.1.length = m + 1 := fun δ r hr => by
  obtain ⟨x, _, h2⟩ := bind_ok hr
  obtain ⟨y, h3, h4⟩ := bind_ok h2
  cases h4
  rw [List.length_cons, h _ _ h3]

/-! ### a global constant -/
theorem m_gInt {x : Str} {i : Int} (hg : Gl X x) (hm : ∃ t, X.mg x = some (.int i t)) (hdb : (x == ("__debug__" : Str)) = false) : Pm X cl W .F (.Name x pos) (fC (.int i)) :=
  hm.elim fun t h => m_con (v := .int i) (pe_glob hg h ⟨t, rfl⟩ hdb) fun _ => .int i
theorem m_gStr {x z : Str} (hg : Gl X x) (hm : ∃ t, X.mg x = some (.str z t)) (hdb : (x == ("__debug__" : Str)) = false) : Pm X cl W .F (.Name x pos) (fC (.str z)) :=
  hm.elim fun t h => m_con (v := .str z) (pe_glob hg h ⟨t, rfl⟩ hdb) fun _ => .str z
end

/-! ### a def by its name -/
structure Def (P : Program) (w : World) (K : PySem.W.Frag) (mg : Str → Option Value) (base : Heap) (cl : Str → Value) (k : Nat) (x : Str) (n : Nat) (msk : Option Nat) (kr : Kd) (S : Sm) : Prop where
  ex : ∃ (f : Addr) (fd : FuncData) (ps : List Str), mg x = some (.ref f) ∧ PySem.W.keepIn K (.ref f) = true ∧ Binds K fd ps [] ∧ FnOk P w K mg base (L2N.CX P w) k f fd ps (spD K cl n msk kr S)
section
variable {P : Program} {w : World} {K : PySem.W.Frag} {mg : Str → Option Value} {base : Heap} {cl : Str → Value}
theorem def_d {x : Str} {st : Stmt} {f : Addr} {fd : FuncData} {N ps : List Str} {k n : Nat} {msk : Option Nat} {kr : Kd} {g : Dv → Rs (Fl × Dv)} (hm : mg x = some (.ref f)) (F : Fun K x x st f fd) (hkr : kr ≠ .B) (hko : kr = .O → ∀ δ δ', g δ ≠ .ok (.nx, δ')) (S : FnScope N ps (defScope st)) (hn : ps.length = n)
    (hb : ∀ (kV doc pm : Value) (an : Option Addr) (cdv ct : Value) (us : List Value), us.length = ps.length → bindArgs (PySem.W.fnOf x x (defArgs st) (defBody st) (defScope st) .none kV doc pm an cdv ct) ⟨us, []⟩ = pure (ps.zip us))
    (hbody : ∀ (cdv : Value) (A : Around) (outer : List Env) (s : Shared) (H : Hp) (E : XK), Room k (A.deeper (PyProof.Rows.envOfC x (defScope st) s.heap.objs.size f cdv)) →
      Pss (cxOf (L2N.CX P w) P w K mg base N x (defScope st) f cdv A outer s H E) cl (fun c d _ H => E c d H) kr (defBody st) g) :
    Def P w K mg base cl (k + 1) x n msk kr (runD N.length msk g) :=
  ⟨f, fd, ps, hm, F.kp, F.binds hb, hn ▸ fn_d hkr hko F S hbody⟩
end
section
variable {X : Cx} {cl : Str → Value} {W : WX} {kr : Kd} {a b c e : Expr} {es : List Expr} {ga : Dv → Rs (List PyData × Dv)} {pos p p2 : Pos} {x y : Str} {S : Sm} {j k n : Nat}
theorem m_callD (D : Def X.prog X.w X.K X.mg X.base cl k x n none kr S) (hr : Room j X.A) (hk : k ≤ j) (tk : L2N.Takes X W) (hg : Gl X x) (ha : Pa X cl W (e :: es) ga) (hlen : ∀ δ r, ga δ = .ok r → r.1.length = n)
    (hdb : (x == ("__debug__" : Str)) = false) (he : starEach (e :: es) X.env = (false, eval e X.env) :: starEach es X.env) (hpl : (backTo pos (starEach es X.env)).any (·.1) = false) : Pm X cl W (retK kr) (.Call (.Name x p) (e :: es) [] pos) (fCall S ga) := by
  obtain ⟨f, fd, ps, hm, kp, hb, F⟩ := D.ex
  exact m_call kr F (hr.mono hk) tk hg hm kp hb ha hlen hdb he hpl
theorem m_callMD (i : Nat) (D : Def X.prog X.w X.K X.mg X.base cl k x (n + 1) (some 0) kr S) (hr : Room j X.A) (hk : k ≤ j) (tk : L2N.Takes X W) (hg : Gl X x) (hv : PE X (.Name y p2) (tVar i)) (ha : Pa X cl W es ga) (hlen : ∀ δ r, ga δ = .ok r → r.1.length = n)
    (hdb : (x == ("__debug__" : Str)) = false) (he : starEach (.Name y p2 :: es) X.env = (false, eval (.Name y p2) X.env) :: starEach es X.env) (hpl : (backTo pos (starEach es X.env)).any (·.1) = false) : Pm X cl W (retK kr) (.Call (.Name x p) (.Name y p2 :: es) [] pos) (fCallM S i ga) := by
  obtain ⟨f, fd, ps, hm, kp, hb, F⟩ := D.ex
  exact m_callM kr i F (hr.mono hk) tk hg hm kp hb hv ha hlen hdb he hpl
end
end Pw

set_option maxRecDepth 100000
set_option maxHeartbeats 3900000
/-! ## 17. what a law's own text leans on -/
namespace Pw
open PySem L2
/-- a body that doesn't run through -/
def NoNx (g : Dv → Rs (Fl × Dv)) : Prop := ∀ δ δ', g δ ≠ .ok (.nx, δ')
theorem nnx_ret {f : Dv → Rs (PyData × Dv)} : NoNx (gRet f) := fun δ δ' h => by
  obtain ⟨x, _, h2⟩ := bind_ok h
  cases h2
theorem nnx_err {c : Str} : NoNx (gErr c) := fun δ δ' h => by cases h
theorem nnx_seq {g h : Dv → Rs (Fl × Dv)} (n : NoNx h) : NoNx (gSeq g h) := fun δ δ' e => by
  obtain ⟨x, h1, h2⟩ := bind_ok e
  obtain ⟨fl, δ1⟩ := x
  cases fl with
  | nx => exact n δ1 δ' h2
  | _ => cases h2
theorem nnx_if {t : Dv → Rs (Bool × Dv)} {g h : Dv → Rs (Fl × Dv)} (n : NoNx g) (m : NoNx h) : NoNx (gIf t g h) := fun δ δ' e => by
  obtain ⟨x, h1, h2⟩ := bind_ok e
  split at h2
  · exact n _ _ h2
  · exact m _ _ h2
/-- the class that a name stands for -/
def clK (K : PySem.W.Frag) (c : Str) : Value := .ref (He.ga K c)
abbrev Df (P : Program) (w : World) (K : PySem.W.Frag) (mg : Str → Option Value) (base : Heap) (k : Nat) (x : Str) (n : Nat) (msk : Option Nat) (kr : Kd) (S : Sm) : Prop := Def P w K mg base (clK K) k x n msk kr S
abbrev exF := PySem.F.excBase_ValueError
theorem units65H {n : Nat} {A : Around} (r : L2H.RoomH n A) : A.units + 65 < cLine := by have := r.un; omega
end Pw

set_option maxRecDepth 100000
set_option maxHeartbeats 3900000
/-! ## 18. one of several defs, by its number: [f, g][i](..) -/
namespace Pw
open PySem L2 PySem.Spec PyProof.Rows
open Evl (Ex ex_rd fresh_back)
section
variable {X : Cx} {cl : Str → Value} {W : WX} {n : Nat}
/-- a def's object that may be called here -/
def MayCall (X : Cx) (cl : Str → Value) (n : Nat) (S : Sm) (f : Addr) : Prop := ∃ fd ps k, PySem.W.keepIn X.K (.ref f) = true ∧ Binds X.K fd ps [] ∧ FnOk X.prog X.w X.K X.mg X.base (L2N.CX X.prog X.w) k f fd ps (spD X.K cl n none .F S) ∧ Room k X.A
/-- a row of defs -/
def Picks (X : Cx) (cl : Str → Value) (n : Nat) (es : List Expr) (Ss : List Sm) : Prop := ∃ fs : List Addr, PA X es (fun σ H Q => Q (fs.map V.ref) H) ∧ fs.length = Ss.length ∧ ∀ (i : Nat) (S : Sm) (f : Addr), Ss[i]? = some S → fs[i]? = some f → MayCall X cl n S f
theorem picks_nil : Picks X cl n [] [] := ⟨[], ⟨fun pos pins s σ H Q I h => pa_nil.run pos pins s σ H Q I h⟩, rfl, fun i S f h => by simp at h⟩
theorem picks_cons {x : Str} {p : Pos} {es : List Expr} {Ss : List Sm} {S : Sm} {j k : Nat} (hg : Gl X x) (D : Def X.prog X.w X.K X.mg X.base cl k x n none .F S) (hr : Room j X.A) (hk : k ≤ j) (hdb : (x == ("__debug__" : Str)) = false) (h : Picks X cl n es Ss)
    (he : starEach (.Name x p :: es) X.env = (false, eval (.Name x p) X.env) :: starEach es X.env) : Picks X cl n (.Name x p :: es) (S :: Ss) := by
  obtain ⟨f, fd, ps, hm, kp, hb, F⟩ := D.ex
  obtain ⟨fs, h1, h2, h3⟩ := h
  have c := pa_cons (pe_glob (v := .ref f) (pos := p) hg hm rfl hdb) h1 he
  refine ⟨f :: fs, ⟨fun pos pins s σ H Q I q => c.run pos pins s σ H Q I q⟩, by rw [List.length_cons, List.length_cons, h2], fun i S' f' e1 e2 => ?_⟩
  cases i with
  | zero => cases e1; cases e2; exact ⟨fd, ps, k, kp, hb, F, hr.mono hk⟩
  | succ i => exact h3 i S' f' e1 e2
def fPick (Ss : List Sm) (fi : Dv → Rs (PyData × Dv)) (ga : Dv → Rs (List PyData × Dv)) : Dv → Rs (PyData × Dv) := fun δ => (fi δ).bind fun x => onI x.1 fun i => if 0 ≤ i then (match Ss[i.toNat]? with
  | some S => fCall S ga x.2
  | none => .bad) else .bad
theorem m_pick {es bs : List Expr} {b ie : Expr} {Ss : List Sm} {fi : Dv → Rs (PyData × Dv)} {ga : Dv → Rs (List PyData × Dv)} {pos p p2 : Pos} (hp : Picks X cl n es Ss) (hi : Pm X cl W .F ie fi) (tk : L2N.Takes X W) (ha : Pa X cl W (b :: bs) ga) (hlen : ∀ δ r, ga δ = .ok r → r.1.length = n) (hs : PlainIx ie) (hz : Ss.length ≤ 1000)
    (ht : eval (.Call (.Subscript (.List es p) ie p2) (b :: bs) [] pos) X.env = (do callWith pos (← eval (.Subscript (.List es p) ie p2) X.env) [] (backTo pos (starEach (b :: bs) X.env)) (backToKw pos (keywordEach [] X.env))))
    (he : starEach (b :: bs) X.env = (false, eval b X.env) :: starEach bs X.env) (hpl : (backTo pos (starEach bs X.env)).any (·.1) = false) : Pm X cl W .F (.Call (.Subscript (.List es p) ie p2) (b :: bs) [] pos) (fPick Ss fi ga) := by
  obtain ⟨fs, h1, h2, h3⟩ := hp
  refine ⟨fun pins s σ H Q I ⟨F, G, δ, er, pp⟩ => ?_⟩
  have lz : fs.length ≤ sizeLine := by rw [h2, sizeLine_eq]; omega
  -- the def that is meant
  let K1 : VK := fun v H1 => ∃ (f : Addr) (S : Sm) (G1 : Hp) (δ1 : Dv), v = .ref f ∧ MayCall X cl n S f ∧ ER X.K F G1 H1 σ δ1 ∧ Ex G G1 ∧ Po X.K cl W F σ G1 .F (fCall S ga δ1) Q
  have hf : PE X (.Subscript (.List es p) ie p2) (tOp (rIx X.K) (tLst fun σ H Q => Q (fs.map V.ref) H) (tM X.K cl W .F fi)) := pe_ix ix_seq (pe_lst h1) hi hs
  refine Call_ (thn (hf.run pins s σ H K1 I ⟨by rw [List.length_map]; exact lz, fun q hq => ?_⟩) fun u s1 ⟨v, H1, I1, rv, f, S, G1, δ1, ev, mc, r1, e1, p1⟩ => ?_) ht
  · have gq : G q = none := fresh_back er.ext hq
    refine ⟨F, upd G q (.lst (fs.map V.ref)), δ, er.new hq, ?_⟩
    have eg : Ex G (upd G q (.lst (fs.map V.ref))) := Ex.new gq
    refine Po.bind (Po.mono pp eg) fun d δ1 y H1 G1 e1 r1 ry p1 => ?_
    cases ry with
    | int i =>
      rw [onI_int] at p1
      split at p1
      · rename_i h0
        cases hS : Ss[i.toNat]? with
        | none => rw [hS] at p1; exact p1.elim
        | some S =>
          rw [hS] at p1
          have hl : i.toNat < fs.length := by rw [h2]; exact (List.getElem?_eq_some_iff.mp hS).1
          have hf : fs[i.toNat]? = some fs[i.toNat] := List.getElem?_eq_getElem hl
          refine .inl ⟨q, fs.map V.ref, i, .ref fs[i.toNat], rfl, rfl, SqL.of (r1.ext _ _ (e1 _ _ upd_same)), ?_, fs[i.toNat], S, G1, δ1, rfl, h3 _ S _ hS hf, r1, eg.trans e1, p1⟩
          have hv : (fs.map V.ref)[i.toNat]? = some (.ref fs[i.toNat]) := by rw [List.getElem?_map, hf]; rfl
          have z := atI_nat hv
          rw [Int.toNat_of_nonneg h0] at z
          exact z
      · exact p1.elim
    | _ => exact p1.elim
  · subst ev
    obtain rfl : u = Value.ref f := rv
    obtain ⟨fd, ps, k, kp, hb, Fn, room⟩ := mc
    -- the call itself, as a call by name
    have hfin : tCallS (spD X.K cl n none .F S) (fun σ c d H => W c d σ H) (tA X.K cl W ga) σ H1 Q := by
      exact call_sense (kr := .F) hlen ⟨F, G1, δ1, r1, p1⟩
    refine PySem.W.callWith_K (h₀ := X.base) I1.ok.mod.kin kp (thn (ha.run pos pins s1 σ H1 _ I1 hfin) fun us s2 ⟨vs, H2, I2, r, q⟩ => ⟨I2.kIn, ?_⟩) he hpl
    exact run_fnS Fn room hb (L2N.passAt tk σ) I2 r q
end
end Pw

set_option maxRecDepth 100000
set_option maxHeartbeats 3900000
/-! ## 19. reckoning with senses -/
namespace Pw
open PySem L2
section
variable {f g fa fb fi fk : Dv → Rs (PyData × Dv)} {t u : Dv → Rs (Bool × Dv)} {ga : Dv → Rs (List PyData × Dv)} {s1 s2 : Dv → Rs (Fl × Dv)} {δ : Dv}
def freeB : Option (Option SV) → Bool
  | some (some (.a _)) => false
  | _ => true
theorem free_iff {δ : Dv} {i : Nat} : Free δ i ↔ freeB δ[i]? = true := by
  unfold Free
  cases h : δ[i]? with
  | none => simp [freeB]
  | some o => cases o with
    | none => simp [freeB]
    | some s => cases s <;> simp [freeB]
@[simp] theorem freeB_none : freeB none = true := (rfl)
@[simp] theorem freeB_no : freeB (some none) = true := (rfl)
@[simp] theorem freeB_v (d : PyData) : freeB (some (some (.v d))) = true := (rfl)
@[simp] theorem freeB_m (d : PyData) : freeB (some (some (.m d))) = true := (rfl)
/-- what a slot gives -/
def varR (δ : Dv) (i : Nat) : Option (Option SV) → Rs (PyData × Dv)
  | some (some (.v d)) => .ok (d, δ)
  | some (some (.m d)) => .ok (d, δ.set i (some (.v d)))
  | _ => .bad
@[simp] theorem varR_v (δ : Dv) (i : Nat) (d : PyData) : varR δ i (some (some (.v d))) = .ok (d, δ) := (rfl)
@[simp] theorem varR_m (δ : Dv) (i : Nat) (d : PyData) : varR δ i (some (some (.m d))) = .ok (d, δ.set i (some (.v d))) := (rfl)
@[simp] theorem ev_var (i : Nat) : fVar i δ = varR δ i δ[i]? := by
  unfold fVar
  cases h : δ[i]? with
  | none => rfl
  | some o => cases o with
    | none => rfl
    | some s => cases s <;> rfl
def barR (δ : Dv) : Option (Option SV) → Rs (PyData × Dv)
  | some (some s) => .ok (s.data, δ)
  | _ => .bad
@[simp] theorem barR_s (δ : Dv) (s : SV) : barR δ (some (some s)) = .ok (s.data, δ) := (rfl)
@[simp] theorem ev_bar (i : Nat) : fBar i δ = barR δ δ[i]? := by
  unfold fBar
  cases h : δ[i]? with
  | none => rfl
  | some o => cases o <;> rfl
@[simp] theorem data_v (d : PyData) : (SV.v d).data = d := (rfl)
@[simp] theorem data_m (d : PyData) : (SV.m d).data = d := (rfl)
@[simp] theorem data_a (d : PyData) : (SV.a d).data = d := (rfl)
@[simp] theorem put_v (d e : PyData) : (SV.v d).put e = .v e := (rfl)
@[simp] theorem put_m (d e : PyData) : (SV.m d).put e = .m e := (rfl)
@[simp] theorem put_a (d e : PyData) : (SV.a d).put e = .a e := (rfl)
@[simp] theorem mut_v (d : PyData) : (SV.v d).mut = false := (rfl)
@[simp] theorem mut_m (d : PyData) : (SV.m d).mut = true := (rfl)
@[simp] theorem mut_a (d : PyData) : (SV.a d).mut = true := (rfl)
@[simp] theorem ev_c (d : PyData) : fC d δ = .ok (d, δ) := (rfl)
@[simp] theorem ev_f2 (op : PyData → PyData → Option PyData) : f2 op fa fb δ = (fa δ).bind fun x => (fb x.2).bind fun y => lift (op x.1 y.1) y.2 := (rfl)
@[simp] theorem ev_f1 (op : PyData → Option PyData) : f1 op fa δ = (fa δ).bind fun x => lift (op x.1) x.2 := (rfl)
@[simp] theorem lift_none (δ : Dv) : lift none δ = .bad := (rfl)
@[simp] theorem ev_T : fT f δ = (f δ).bind fun x => onB x.1 fun b => .ok (b, x.2) := (rfl)
@[simp] theorem ev_V : fV t δ = (t δ).bind fun b => .ok (.bool b.1, b.2) := (rfl)
@[simp] theorem ev_notT : fNotT t δ = (t δ).bind fun b => .ok (!b.1, b.2) := (rfl)
@[simp] theorem ev_andT : fAndT t u δ = (t δ).bind fun b => if b.1 = true then u b.2 else .ok (false, b.2) := (rfl)
@[simp] theorem ev_orT : fOrT t u δ = (t δ).bind fun b => if b.1 = true then .ok (true, b.2) else u b.2 := (rfl)
@[simp] theorem ev_andV : fAndV f g δ = (f δ).bind fun x => onB x.1 fun b => if b = true then g x.2 else .ok (.bool false, x.2) := (rfl)
@[simp] theorem ev_orV : fOrV f g δ = (f δ).bind fun x => onB x.1 fun b => if b = true then .ok (.bool true, x.2) else g x.2 := (rfl)
@[simp] theorem ev_notV : fNotV f δ = (f δ).bind fun x => onB x.1 fun b => .ok (.bool (!b), x.2) := (rfl)
@[simp] theorem ev_if : fIf t f g δ = (t δ).bind fun b => if b.1 = true then f b.2 else g b.2 := (rfl)
@[simp] theorem ev_nil : aNil δ = .ok ([], δ) := (rfl)
@[simp] theorem ev_cons : aCons f ga δ = (f δ).bind fun x => (ga x.2).bind fun r => .ok (x.1 :: r.1, r.2) := (rfl)
@[simp] theorem ev_tup : fTup ga δ = (ga δ).bind fun r => if r.1.length ≤ sizeLine then .ok (.tuple r.1, r.2) else .bad := (rfl)
@[simp] theorem ev_lst : fLst ga δ = (ga δ).bind fun r => if r.1.length ≤ sizeLine then .ok (.list r.1, r.2) else .bad := (rfl)
@[simp] theorem ev_ch (ls : List Ln) : fCh fa ls δ = (fa δ).bind fun x => onI x.1 fun i => chN ls i x.2 := (rfl)
@[simp] theorem chN_nil (i : Int) : chN [] i δ = .ok (true, δ) := (rfl)
@[simp] theorem chN_cons (p : Int → Int → Bool) (ls : List Ln) (i : Int) : chN ((p, fb) :: ls) i δ = (fb δ).bind fun y => onI y.1 fun j => if p i j = true then chN ls j y.2 else .ok (false, y.2) := (rfl)
@[simp] theorem ev_seq : gSeq s1 s2 δ = (s1 δ).bind fun x => Fl.on x s2 := (rfl)
@[simp] theorem ev_nx : gNx δ = .ok (.nx, δ) := (rfl)
@[simp] theorem ev_set (i : Nat) : gSet i f δ = (f δ).bind fun x => if freeB x.2[i]? = true then .ok (.nx, x.2.set i (some (.v x.1))) else .bad := by
  unfold gSet
  cases f δ with
  | ok x =>
    simp only [Rs.bind_ok]
    by_cases h : freeB x.2[i]? = true
    · rw [if_pos h, if_pos (free_iff.mpr h)]
    · rw [if_neg h, if_neg (fun z => h (free_iff.mp z))]
  | _ => rfl
@[simp] theorem ev_setO (i : Nat) : gSetO i f δ = (f δ).bind fun x => if freeB x.2[i]? = true then .ok (.nx, x.2.set i (some (.m x.1))) else .bad := by
  unfold gSetO
  cases f δ with
  | ok x =>
    simp only [Rs.bind_ok]
    by_cases h : freeB x.2[i]? = true
    · rw [if_pos h, if_pos (free_iff.mpr h)]
    · rw [if_neg h, if_neg (fun z => h (free_iff.mp z))]
  | _ => rfl
@[simp] theorem ev_bName (i : Nat) (d : PyData) : bName i d δ = if freeB δ[i]? = true then some (δ.set i (some (.v d))) else none := by
  unfold bName
  by_cases h : freeB δ[i]? = true
  · rw [if_pos h, if_pos (free_iff.mpr h)]
  · rw [if_neg h, if_neg (fun z => h (free_iff.mp z))]
@[simp] theorem ev_drop : gDrop f δ = (f δ).bind fun x => .ok (.nx, x.2) := (rfl)
@[simp] theorem ev_ret : gRet f δ = (f δ).bind fun x => .ok (.rt x.1, x.2) := (rfl)
@[simp] theorem ev_gif : gIf t s1 s2 δ = (t δ).bind fun b => if b.1 = true then s1 b.2 else s2 b.2 := (rfl)
@[simp] theorem ev_err (c : Str) : gErr c δ = .err c := (rfl)
@[simp] theorem ev_call (S : Sm) : fCall S ga δ = (ga δ).bind fun x => (S x.1).bind fun y => .ok (y.1, x.2) := (rfl)
def seqR (o : Option Dv) (δ : Dv) : Rs (Fl × Dv) := match o with
  | some δ2 => .ok (.nx, δ2)
  | none => .bad
@[simp] theorem seqR_some (d δ : Dv) : seqR (some d) δ = .ok (.nx, d) := (rfl)
@[simp] theorem ev_asg (b : PyData → Dv → Option Dv) : gAsg f b δ = (f δ).bind fun x => seqR (b x.1 x.2) x.2 := by
  unfold gAsg
  cases f δ with
  | ok x => simp only [Rs.bind_ok]; cases b x.1 x.2 <;> rfl
  | _ => rfl
@[simp] theorem bTup_ap (bs : List (PyData → Dv → Option Dv)) (ds : List PyData) : bTup bs (.tuple ds) δ = bAll bs ds δ := (rfl)
@[simp] theorem bAll_nil : bAll [] [] δ = some δ := (rfl)
@[simp] theorem bAll_cons (b : PyData → Dv → Option Dv) (bs : List (PyData → Dv → Option Dv)) (d : PyData) (ds : List PyData) : bAll (b :: bs) (d :: ds) δ = (b d δ).bind fun δ1 => bAll bs ds δ1 := by
  cases h : b d δ <;> simp [bAll, h]
def ixR (o : Option (Option SV)) (y : PyData) (δ : Dv) : Rs (PyData × Dv) := match o with
  | some (some s) => lift (oIx s.data y) δ
  | _ => .bad
@[simp] theorem ixR_s (s : SV) (y : PyData) (δ : Dv) : ixR (some (some s)) y δ = lift (oIx s.data y) δ := (rfl)
def slotB : Option (Option SV) → Bool
  | some (some _) => true
  | _ => false
@[simp] theorem slotB_s (s : SV) : slotB (some (some s)) = true := (rfl)
@[simp] theorem ev_ixv (i : Nat) : fIxv i fb δ = if slotB δ[i]? = true then (fb δ).bind fun y => ixR y.2[i]? y.1 y.2 else .bad := by
  unfold fIxv
  cases h : δ[i]? with
  | none => rfl
  | some o =>
    cases o with
    | none => rfl
    | some s =>
      simp only [slotB, if_true]
      cases fb δ with
      | ok y =>
        simp only [Rs.bind_ok]
        cases y.2[i]? with
        | none => rfl
        | some o => cases o <;> rfl
      | _ => rfl
@[simp] theorem oIx_int (x : PyData) (i : Int) : oIx x (.int i) = ixD x i := (rfl)
@[simp] theorem ixD_list (ds : List PyData) (i : Int) : ixD (.list ds) i = atI ds i := (rfl)
@[simp] theorem ixD_tuple (ds : List PyData) (i : Int) : ixD (.tuple ds) i = atI ds i := (rfl)
@[simp] theorem oLen_list (ds : List PyData) : oLen (.list ds) = some (.int ds.length) := (rfl)
@[simp] theorem oLen_tuple (ds : List PyData) : oLen (.tuple ds) = some (.int ds.length) := (rfl)
@[simp] theorem oAdd_int (i j : Int) : oAdd (.int i) (.int j) = some (.int (i + j)) := (rfl)
@[simp] theorem oSub_int (i j : Int) : oSub (.int i) (.int j) = some (.int (i - j)) := (rfl)
@[simp] theorem oMul_int (i j : Int) : oMul (.int i) (.int j) = oMulI (.int i) (.int j) := (rfl)
@[simp] theorem oMulI_int (i j : Int) : oMulI (.int i) (.int j) = if i.natAbs.log2 + j.natAbs.log2 < 1000000 then some (.int (i * j)) else none := by
  unfold oMulI oI
  simp only [decide_eq_true_eq]
@[simp] theorem oDiv_int (i j : Int) : oDiv (.int i) (.int j) = if 0 < j ∧ j.natAbs.log2 < 9000 then some (.int (i / j)) else none := by
  unfold oDiv oI
  (simp only [Bool.and_eq_true, decide_eq_true_eq])
@[simp] theorem oMod_int (i j : Int) : oMod (.int i) (.int j) = if 0 < j then some (.int (i % j)) else none := by
  unfold oMod oI
  simp only [decide_eq_true_eq]
@[simp] theorem oLe_int (i j : Int) : oLe (.int i) (.int j) = some (.bool (decide (i ≤ j))) := (rfl)
@[simp] theorem oGt_int (i j : Int) : oGt (.int i) (.int j) = some (.bool (decide (j < i))) := (rfl)
@[simp] theorem oGe_int (i j : Int) : oGe (.int i) (.int j) = some (.bool (decide (j ≤ i))) := (rfl)
@[simp] theorem oLtA_int (i j : Int) : oLtA (.int i) (.int j) = some (.bool (decide (i < j))) := (rfl)
@[simp] theorem oAdd_list (xs ys : List PyData) : oAdd (.list xs) (.list ys) = if xs.length + ys.length ≤ sizeLine then some (.list (xs ++ ys)) else none := (rfl)
@[simp] theorem oAdd_tuple (xs ys : List PyData) : oAdd (.tuple xs) (.tuple ys) = if xs.length + ys.length ≤ sizeLine then some (.tuple (xs ++ ys)) else none := (rfl)
@[simp] theorem oCatL_list (xs ys : List PyData) : oCatL (.list xs) (.list ys) = if xs.length + ys.length ≤ sizeLine then some (.list (xs ++ ys)) else none := (rfl)
@[simp] theorem oList_list (ds : List PyData) : oList (.list ds) = some (.list ds) := (rfl)
@[simp] theorem oList_tuple (ds : List PyData) : oList (.tuple ds) = some (.list ds) := (rfl)
@[simp] theorem oTuple_list (ds : List PyData) : oTuple (.list ds) = some (.tuple ds) := (rfl)
@[simp] theorem oTuple_tuple (ds : List PyData) : oTuple (.tuple ds) = some (.tuple ds) := (rfl)
theorem isE_at {i : Nat} {q : Addr} {b : Bool} {δ : Dv} (h : δ[i]? = some (some (.v (excD q)))) : fIsE i q b δ = .ok (.bool b, δ) := by
  unfold fIsE
  rw [h]
  simp [excD]
/-- the error's slot may be looked at -/
@[simp] theorem isE_0 {q : Addr} {b : Bool} {r : Dv} : fIsE 0 q b (some (.v (excD q)) :: r) = .ok (.bool b, some (.v (excD q)) :: r) := isE_at rfl
def lkR (op : List PyData → List PyData → Option PyData) (as : List PyData) (δ : Dv) : Option (Option SV) → Rs (PyData × Dv)
  | some (some s) => (match s.data with
    | .list ds => lift (op ds as) δ
    | _ => .bad)
  | _ => .bad
@[simp] theorem lkR_v (op : List PyData → List PyData → Option PyData) (as ds : List PyData) (δ : Dv) : lkR op as δ (some (some (.v (.list ds)))) = lift (op ds as) δ := (rfl)
@[simp] theorem lkR_m (op : List PyData → List PyData → Option PyData) (as ds : List PyData) (δ : Dv) : lkR op as δ (some (some (.m (.list ds)))) = lift (op ds as) δ := (rfl)
def hasL : Option (Option SV) → Bool
  | some (some s) => (match s.data with | .list _ => true | _ => false)
  | _ => false
@[simp] theorem hasL_v (ds : List PyData) : hasL (some (some (.v (.list ds)))) = true := (rfl)
@[simp] theorem hasL_m (ds : List PyData) : hasL (some (some (.m (.list ds)))) = true := (rfl)
theorem ev_lk (i : Nat) (op : List PyData → List PyData → Option PyData) : fLk i op ga δ = if hasL δ[i]? = true then (ga δ).bind fun x => lkR op x.1 x.2 x.2[i]? else .bad := by
  have e : hasLs δ i = hasL δ[i]? := by
    unfold hasLs hasL
    cases δ[i]? with
    | none => rfl
    | some o => cases o <;> rfl
  unfold fLk
  rw [e]
  split
  · cases ga δ with
    | ok x =>
      simp only [Rs.bind_ok]
      cases x.2[i]? with
      | none => rfl
      | some o => cases o with
        | none => rfl
        | some s => rfl
    | _ => rfl
  · rfl
theorem sz_small {n : Nat} (h : n ≤ 1000) : n ≤ sizeLine := by rw [PySem.sizeLine_eq]; omega
end
end Pw

set_option maxRecDepth 100000
set_option maxHeartbeats 3900000
/-! ## 20. the head's facts -/
namespace Pw
open PySem L2
/-- sys.modules among what is looked at -/
def asP (g : Addr → Option Obj) (n : Nat) : List Addr := sysModules :: He.asD g n
abbrev AlP : Type := He.AlD × Bool
def obsP (n : Nat) (fa : List He.Fa) (fn : List He.DefD) (ex : PySem.W.Frag → Bool) (g : Addr → Option Obj) : AlP := (He.obsD fa fn (He.frG g (asP g n)), ex (He.frG g (asP g n)))
def hookP (n : Nat) (fa : List He.Fa) (fn : List He.DefD) (ex : PySem.W.Frag → Bool) : PySem.W.Hook where
  α := AlP
  obs := fun s => obsP n fa fn ex s.heap.get?
  val := fun _ => (He.valD fn, true)
  says := fun _ h => ∃ K : PySem.W.Frag, K.In h ∧ He.SaysD fa fn K ∧ ex K = true
  of := fun _ _ e => ⟨_, He.frG_in, congrArg Prod.fst e, congrArg Prod.snd e⟩
  keeps := fun _ _ _ ⟨K, hin, c⟩ kp => ⟨K, PySem.W.Frag.In.keeps hin kp, c⟩
theorem obsP_eq {n : Nat} {fa : List He.Fa} {fn : List He.DefD} {ex : PySem.W.Frag → Bool} {g : Addr → Option Obj} {s : Shared} (h : ∀ a, g a = s.heap.get? a) : obsP n fa fn ex g = (hookP n fa fn ex).obs s := by
  rw [show g = s.heap.get? from funext h]
  rfl
/-- what isinstance asks of an own error's class -/
def excCB (K : PySem.W.Frag) (D : Addr) : Bool :=
  He.eqO (PySem.W.findIn K (.ref D) "__getattribute__") (some (some (.builtin "BaseException.__getattribute__"))) && (He.eqO (PySem.W.findIn K (.ref D) "__getattr__") (some none) && (decide (PySem.W.subIn K (.ref D) (.type "BaseException") = some true) && (PySem.W.hasDictIn K D &&
    (He.eqO (PySem.W.findIn K (.ref D) "__class__") (some (some (.builtin "object.__class__"))) && (He.eqO (PySem.W.specialIn K (.builtin "object.__class__") "__get__") (some (some (.builtin "getset_descriptor.__get__"))) && (decide (PySem.W.takesIn K (.builtin "object.__class__") = some true) && decide (PySem.W.mroIn K D (.type "object") = some true)))))))
theorem excC_of {K : PySem.W.Frag} {D : Addr} (h : excCB K D = true) : ExcC K D := by
  unfold excCB at h
  (simp only [Bool.and_eq_true] at h)
  obtain ⟨h1, h2, h3, h4, h5, h6, h7, h8⟩ := h
  exact ⟨He.eqO_ok h1, He.eqO_ok h2, of_decide_eq_true h3, h4, He.eqO_ok h5, He.eqO_ok h6, of_decide_eq_true h7, of_decide_eq_true h8⟩
theorem fun_of {K : PySem.W.Frag} {x q : Str} {st : Stmt} {f : Addr} {fd : FuncData} (F : FunD K x q (defArgs st) (defBody st) (defScope st) [] [] f fd) : Fun K x q st f fd := by
  obtain ⟨oc, od, dV, kV, doc, pm, an, cdv, ct, osl, e, lk, hc, hD, hK⟩ := F.ex
  rcases hD with ⟨_, rfl⟩ | ⟨z, _⟩
  · exact ⟨⟨oc, od, kV, doc, pm, an, cdv, ct, osl, e, lk, hc⟩, F.kp⟩
  · exact absurd rfl z
/-- a def of the top as the head looks for it -/
def defD (x : Str) (st : Stmt) : He.DefD := ⟨(x, none), x, x, defArgs st, defBody st, defScope st, [], []⟩
theorem defD_ok {fa : List He.Fa} {fn : List He.DefD} {K : PySem.W.Frag} {mg : Str → Option Value} (c : He.SaysD fa fn K) (i : Nat) {x : Str} {st : Stmt} (h : fn[i]? = some (defD x st)) : ∃ fd, Fun K x x st (He.ga K x) fd := by
  obtain ⟨fd, F⟩ := c.def_ i h
  exact ⟨fd, fun_of F⟩
end Pw

set_option maxRecDepth 100000
set_option maxHeartbeats 3900000
/-! ## 21. displays of dicts with one pair -/
namespace Pw
open PySem L2
/-- {k: v}, the key a number or a text -/
def fDK (fa fb : Dv → Rs (PyData × Dv)) : Dv → Rs (PyData × Dv) := fun δ => (noErr (fa (anchD δ))).bind fun x => (noErr (fb x.2)).bind fun y =>
  if allAb y.2 = true then (match keyK x.1 with
    | some _ => .ok (.dict [(x.1, y.1)], unBN [] 0 δ y.2)
    | none => .bad) else .bad
section
variable {X : Cx} {cl : Str → Value} {W : WX} {a b : Expr} {fa fb : Dv → Rs (PyData × Dv)} {pos : Pos}
theorem go_dK {K : PySem.W.Frag} {σ : L2.St} {H : Hp} {Q : VK} (h : tM K cl W .O (fDK fa fb) σ H Q) : tDisp [(tM K cl W0 .F fa, tM K cl W0 .F fb)] σ H Q := by
  obtain ⟨F, G, δ, er, pp⟩ := h
  intro p hp
  have e1 : ER K F G (upd H p (.dK [])) σ δ := er.own' hp
  have gp : G p = none := Evl.fresh_back er.ext hp
  have nm : ¬ IsMut σ δ p := IsMut.not_new er hp
  have eb := e1.blk []
  obtain ⟨x, hx, y, hy, ha, k, hk, pp⟩ : ∃ x, noErr (fa (anchD δ)) = .ok x ∧ ∃ y, noErr (fb x.2) = .ok y ∧ allAb y.2 = true ∧ ∃ k, keyK x.1 = some k ∧ Po K cl W F σ G .O (.ok (.dict [(x.1, y.1)], unBN [] 0 δ y.2)) Q := by
    unfold fDK at pp
    have ne : ∀ {α : Type} (r : Rs α) (c : Str), noErr r ≠ .err c := fun r c => by cases r <;> exact nofun
    cases hx : noErr (fa (anchD δ)) with
    | err c => exact absurd hx (ne _ _)
    | bad => rw [hx] at pp; exact pp.elim
    | ok x =>
      rw [hx] at pp
      simp only [Rs.bind_ok] at pp
      cases hy : noErr (fb x.2) with
      | err c => exact absurd hy (ne _ _)
      | bad => rw [hy] at pp; exact pp.elim
      | ok y =>
        rw [hy] at pp
        simp only [Rs.bind_ok] at pp
        by_cases ha : allAb y.2 = true
        · rw [if_pos ha] at pp
          cases hk : keyK x.1 with
          | none => rw [hk] at pp; exact pp.elim
          | some k =>
            rw [hk] at pp
            exact ⟨x, rfl, y, hy, ha, k, hk, pp⟩
        · rw [if_neg ha] at pp; exact pp.elim
  have noAnc : ∀ j, ¬ (reF G (upd H p (.dK [])) (wipe σ []) (anchD (wipeD δ []))).anc j p := fun j ⟨s, k1, k2, k3⟩ => by
    obtain ⟨t', l1, l2⟩ := anchD_some k1
    subst l2
    rw [anch1_mut] at k2
    exact nm ⟨j, t', (wipeD_some.mp l1).1, k2, (wipe_iff.mp k3).1⟩
  show tM K cl W0 .F fa σ (upd H p (.dK [])) _
  refine ⟨_, G, _, eb, noErr_po (P := fun z => z = x) ⟨x, hx, rfl⟩ fun z hz v H1 G1 x1 r1 rv => ?_⟩
  subst hz
  show tM K cl W0 .F fb σ H1 _
  refine ⟨_, G1, _, r1, noErr_po (P := fun z => z = y) ⟨y, hy, rfl⟩ fun z hz w H2 G2 x2 r2 ry => ?_⟩
  subst hz
  have hD : H2 p = some (.dK []) := r2.fr p _ upd_same noAnc
  have gD : G2 p = none := by
    cases hg : G2 p with
    | none => rfl
    | some u =>
      rcases r2.cons p u hg with z | z
      · rw [show (reF G (upd H p (.dK [])) (wipe σ []) (anchD (wipeD δ []))).G0 p = G p from rfl, gp] at z; cases z
      · rw [show (reF G (upd H p (.dK [])) (wipe σ []) (anchD (wipeD δ []))).H0 p = upd H p (.dK []) p from rfl, upd_same] at z; cases z
  have xx := x1.trans x2
  have ru := e1.unblk xx r2
  have nm2 : ¬ IsMut σ (unBN [] 0 δ z.2) p := fun ⟨i, s, k1, k2, k3⟩ => by
    have hlen : δ.length = z.2.length := by rw [r2.len, er.len]
    rcases unBN_some hlen k1 with ⟨ho, q1⟩ | ⟨ho, x', y', q1, q2, q3⟩
    · exact nm ⟨i, s, q1, k2, k3⟩
    · rcases back_cases q3 with ⟨d1, e2, rfl, _, _⟩ | ⟨_, rfl⟩
      · exact nm ⟨i, _, q1, rfl, k3⟩
      · cases s with
        | v d => cases k2
        | m d => exact allA_of ha i d q2
        | a d => exact noAnc i (r2.ancI i d p q2 (wipe_iff.mpr ⟨k3, ho⟩))
  have hv : v = kV k := by
    have := keyK_of hk
    rw [this] at rv
    cases k with
    | inl i => cases rv; rfl
    | inr s => cases rv; rfl
  refine ⟨hD, [(k, w)], by rw [hv]; rfl, by show 1 ≤ 15; decide, ?_⟩
  refine pp (.ref p) _ G2 xx (ru.off gD (er.h0 hp) nm2) ⟨p, _, rfl, gD, upd_same, .inr ⟨[(kD k, w)], [(kD k, z.1)], rfl, .cons ry .nil, by rw [keyK_of hk]⟩, er.h0 hp, nm2⟩
theorem m_dK1 (ha : Pm X cl W0 .F a fa) (hb : Pm X cl W0 .F b fb) : Pm X cl W .O (.Dict [some a] [b] pos) (fDK fa fb) :=
  pe_weak (pe_disp (pps_cons ha hb pps_nil) (by rfl) (by rfl) nofun (by show 1 ≤ 15; decide)) fun _ _ _ h => go_dK h
/-- {t: v}, the key a tuple of numbers and texts; the new dict stands empty while key and value are made -/
def tDispT (tk tv : TE) : TE := fun σ H Q => ∀ p, H p = none → tPairs [(tk, tv)] σ (upd H p (.dT [])) fun ps H2 => H2 p = some (.dT []) ∧ ∃ (c : Addr) (q : List Key) (v : V), ps = [(.ref c, v)] ∧ H2 c = some (.tup (q.map kV)) ∧ Q (.ref p) (upd H2 p (.dT [(q, v)]))
theorem pe_dispT {tk tv : TE} (hu : X.A.units + 1 < cLine) (h : PPs X pos [some a] [b] [(tk, tv)]) : PE X (.Dict [some a] [b] pos) (tDispT tk tv) := by
  (refine ⟨fun pins s σ H Q I q => ?_⟩)
  (have hn := I.hok.fresh (Nat.le_refl s.heap.objs.size))
  have I1 := I.laid (a := s.heap.objs.size) (o := .dT []) (h' := s.heap.push { cls := .type "dict", data := .dict #[] }) (t' := s.toks) (fun _ _ q => Heap.get?_push_of_some _ q) (Nat.le_refl _) (dt_empty s.heap I.big)
  have h0 : pairTrees [some a] [b] X.env pos ≠ [] := nofun
  rw [arm_eval_Dict, zip_pairTrees [some a] [b] X.env pos rfl rfl, dictDisplay_pairs _ h0 (by show 1 < 17; decide)]
  refine wpAny_bind (wpAny_standAt (wpAny_bind (wpAny_subDictH (knd := tupleKind (mixKind X.prog X.w)) (Q := fun d s' => wpAny (model X.prog X.w) X.A (pure (Value.ref d)) _ X.xe s') (show X.A.units < cLine by omega) (by show 1 ≤ 15; decide)
    (wpAny_mono (h.run pins _ σ _ _ I1 (q _ hn)) (fun ws s2 ⟨ps, H2, I2, rel, e, c, ks, v', ep, ec, q2⟩ => ?_) fun _ _ e => e))))
  subst ep
  cases rel with
  | @cons _ y _ ys hr ht =>
    cases ht
    obtain ⟨y1, y2⟩ := y
    obtain ⟨r1, r2⟩ := hr
    cases (show y1 = Value.ref c from r1)
    obtain ⟨_, hd, xs, rx, dd⟩ := dt_of I2.hok e
    cases rx
    refine ⟨[(ks, c, y2)], ⟨rfl, rfl, key_of I2.hok ec, trivial⟩, dd, fun h' tk dd' hs => wpAny_pure ?_⟩
    obtain ⟨ob, es, ep, hq, g2, g3, g4, _, g5⟩ := dd'
    refine ⟨.ref s.heap.objs.size, _, d_write (ob := .dT [(ks, v')]) I2 (by rw [e]; exact True.intro) hs ⟨ob, hq⟩ ⟨by rw [sizeLine_eq]; show 1 ≤ 16777216; decide, hd, [(ks, c, y2)], .cons ⟨rfl, ?_, r2⟩ .nil, ob, es, ep, hq, g2, g3, g4, g5⟩, rfl, q2⟩
    (rw [upd_ne (ne_of ec e (fun z => nomatch z))])
    exact ec
/-- {t: v}, the key a tuple -/
def fDT (fa fb : Dv → Rs (PyData × Dv)) : Dv → Rs (PyData × Dv) := fun δ => (noErr (fa (anchD δ))).bind fun x => (noErr (fb x.2)).bind fun y =>
  if allAb y.2 = true then (match keyT x.1 with
    | some _ => .ok (.dict [(.none, .none), (x.1, y.1)], unBN [] 0 δ y.2)
    | none => .bad) else .bad
theorem go_dT {K : PySem.W.Frag} {σ : L2.St} {H : Hp} {Q : VK} (h : tM K cl W .O (fDT fa fb) σ H Q) : tDispT (tM K cl W0 .F fa) (tM K cl W0 .F fb) σ H Q := by
  obtain ⟨F, G, δ, er, pp⟩ := h
  intro p hp
  have e1 : ER K F G (upd H p (.dT [])) σ δ := er.own' hp
  have gp : G p = none := Evl.fresh_back er.ext hp
  have nm : ¬ IsMut σ δ p := IsMut.not_new er hp
  have eb := e1.blk []
  obtain ⟨x, hx, y, hy, ha, k, hk, pp⟩ : ∃ x, noErr (fa (anchD δ)) = .ok x ∧ ∃ y, noErr (fb x.2) = .ok y ∧ allAb y.2 = true ∧ ∃ k, keyT x.1 = some k ∧ Po K cl W F σ G .O (.ok (.dict [(.none, .none), (x.1, y.1)], unBN [] 0 δ y.2)) Q := by
    unfold fDT at pp
    have ne : ∀ {α : Type} (r : Rs α) (c : Str), noErr r ≠ .err c := fun r c => by cases r <;> exact nofun
    cases hx : noErr (fa (anchD δ)) with
    | err c => exact absurd hx (ne _ _)
    | bad => rw [hx] at pp; exact pp.elim
    | ok x =>
      rw [hx] at pp
      simp only [Rs.bind_ok] at pp
      cases hy : noErr (fb x.2) with
      | err c => exact absurd hy (ne _ _)
      | bad => rw [hy] at pp; exact pp.elim
      | ok y =>
        rw [hy] at pp
        simp only [Rs.bind_ok] at pp
        by_cases ha : allAb y.2 = true
        · rw [if_pos ha] at pp
          cases hk : keyT x.1 with
          | none => rw [hk] at pp; exact pp.elim
          | some k =>
            rw [hk] at pp
            exact ⟨x, rfl, y, hy, ha, k, hk, pp⟩
        · rw [if_neg ha] at pp; exact pp.elim
  have noAnc : ∀ j, ¬ (reF G (upd H p (.dT [])) (wipe σ []) (anchD (wipeD δ []))).anc j p := fun j ⟨s, k1, k2, k3⟩ => by
    obtain ⟨t', l1, l2⟩ := anchD_some k1
    subst l2
    rw [anch1_mut] at k2
    exact nm ⟨j, t', (wipeD_some.mp l1).1, k2, (wipe_iff.mp k3).1⟩
  show tM K cl W0 .F fa σ (upd H p (.dT [])) _
  refine ⟨_, G, _, eb, noErr_po (P := fun z => z = x) ⟨x, hx, rfl⟩ fun z0 hz v H1 G1 x1 r1 rv => ?_⟩
  subst hz
  show tM K cl W0 .F fb σ H1 _
  refine ⟨_, G1, _, r1, noErr_po (P := fun z => z = y) ⟨y, hy, rfl⟩ fun z hz w H2 G2 x2 r2 ry => ?_⟩
  subst hz
  have hD : H2 p = some (.dT []) := r2.fr p _ upd_same noAnc
  have gD : G2 p = none := by
    cases hg : G2 p with
    | none => rfl
    | some u =>
      rcases r2.cons p u hg with z | z
      · rw [show (reF G (upd H p (.dT [])) (wipe σ []) (anchD (wipeD δ []))).G0 p = G p from rfl, gp] at z; cases z
      · rw [show (reF G (upd H p (.dT [])) (wipe σ []) (anchD (wipeD δ []))).H0 p = upd H p (.dT []) p from rfl, upd_same] at z; cases z
  have xx := x1.trans x2
  have ru := e1.unblk xx r2
  have nm2 : ¬ IsMut σ (unBN [] 0 δ z.2) p := fun ⟨i, s, k1, k2, k3⟩ => by
    have hlen : δ.length = z.2.length := by rw [r2.len, er.len]
    rcases unBN_some hlen k1 with ⟨ho, q1⟩ | ⟨ho, x', y', q1, q2, q3⟩
    · exact nm ⟨i, s, q1, k2, k3⟩
    · rcases back_cases q3 with ⟨d1, e2, rfl, _, _⟩ | ⟨_, rfl⟩
      · exact nm ⟨i, _, q1, rfl, k3⟩
      · cases s with
        | v d => cases k2
        | m d => exact allA_of ha i d q2
        | a d => exact noAnc i (r2.ancI i d p q2 (wipe_iff.mpr ⟨k3, ho⟩))
  obtain ⟨ds, hds⟩ : ∃ ds, z0.1 = .tuple ds ∧ keysK ds = some k := by
    cases hz : z0.1 with
    | tuple ds => rw [hz] at hk; exact ⟨ds, rfl, hk⟩
    | _ => rw [hz] at hk; cases hk
  obtain ⟨hds, hks⟩ := hds
  obtain rfl := keysK_of hks
  rw [hds] at rv
  obtain ⟨c, xs, rfl, hc, ra⟩ := rp_tup rv
  obtain rfl := rpa_keys ra
  refine ⟨hD, c, k, w, rfl, r2.ext _ _ (x2 _ _ hc), ?_⟩
  refine pp (.ref p) _ G2 xx (ru.off gD (er.h0 hp) nm2) ⟨p, _, rfl, gD, upd_same, .inr ⟨[(.none, .non), (.tuple (k.map kD), w)], [(.none, .none), (.tuple (k.map kD), z.1)], rfl, .cons .non (.cons ry .nil), by rw [hds]⟩, er.h0 hp, nm2⟩
theorem m_dT1 {n : Nat} (hr : Room n X.A) (ha : Pm X cl W0 .F a fa) (hb : Pm X cl W0 .F b fb) : Pm X cl W .O (.Dict [some a] [b] pos) (fDT fa fb) :=
  pe_weak (pe_dispT (by have := hr.un; omega) (pps_cons ha hb pps_nil)) fun _ _ _ h => go_dT h
end
end Pw

set_option maxRecDepth 100000
set_option maxHeartbeats 3900000
/-! ## 22. a, b = x, y -/
namespace Pw
open PySem L2
open Evl (Ex ex_rd fresh_back)
def setsN : List Nat → List PyData → Dv → Option Dv
  | [], [], δ => some δ
  | i :: is, d :: ds, δ => if Free δ i then setsN is ds (δ.set i (some (.v d))) else none
  | _, _, _ => none
def gPar (is : List Nat) (ga : Dv → Rs (List PyData × Dv)) : Dv → Rs (Fl × Dv) := fun δ => (ga δ).bind fun x => match setsN is x.1 x.2 with
  | some δ2 => .ok (.nx, δ2)
  | none => .bad
section
variable {X : Cx} {cl : Str → Value} {W : WX} {kr : Kd} {ga : Dv → Rs (List PyData × Dv)}
theorem go_par {K : PySem.W.Frag} {i j : Nat} {D : Ends} {σ : L2.St} {H : Hp} (hh : tS K cl W kr (gPar [i, j] ga) D σ H) : tPar i j (tA K cl W ga) D σ H := by
  obtain ⟨F, G, δ, e, p⟩ := hh
  refine ⟨F, G, δ, e, PoA.bindS p fun ds δ1 vs H1 G1 e1 r1 rv p1 => ?_⟩
  match ds, vs, rv, p1 with
  | [], _, _, p1 => exact p1.elim
  | [d], _, _, p1 =>
    simp only [setsN] at p1
    split at p1
    · rename_i h
      split at h <;> cases h
    · exact p1.elim
  | d1 :: d2 :: d3 :: r, _, _, p1 =>
    simp only [setsN] at p1
    split at p1
    · rename_i h
      split at h
      · split at h <;> cases h
      · cases h
    · exact p1.elim
  | [d1, d2], _, .cons a1 (.cons a2 .nil), p1 =>
    simp only [setsN] at p1
    by_cases h1 : Free δ1 i
    · rw [if_pos h1] at p1
      by_cases h2 : Free (δ1.set i (some (.v d1))) j
      · rw [if_pos h2] at p1
        exact ⟨_, _, rfl, p1 _ H1 G1 (Ex.refl G1) ((r1.setv h1 a1).setv h2 a2)⟩
      · rw [if_neg h2] at p1
        exact p1.elim
    · rw [if_neg h1] at p1
      exact p1.elim
theorem go_par3 {K : PySem.W.Frag} {i j l : Nat} {D : Ends} {σ : L2.St} {H : Hp} (hh : tS K cl W kr (gPar [i, j, l] ga) D σ H) : tPar3 i j l (tA K cl W ga) D σ H := by
  obtain ⟨F, G, δ, e, p⟩ := hh
  refine ⟨F, G, δ, e, PoA.bindS p fun ds δ1 vs H1 G1 e1 r1 rv p1 => ?_⟩
  obtain ⟨δ2, h2, p1⟩ : ∃ δ2, setsN [i, j, l] ds δ1 = some δ2 ∧ PoS K cl W F kr G1 (.ok (.nx, δ2)) D := by
    cases h : setsN [i, j, l] ds δ1 with
    | none => rw [h] at p1; exact p1.elim
    | some δ2 => rw [h] at p1; exact ⟨δ2, rfl, p1⟩
  match ds, vs, rv, h2 with
  | [], _, _, h2 => cases h2
  | [d], _, _, h2 =>
    simp only [setsN] at h2
    split at h2 <;> cases h2
  | [d, d'], _, _, h2 =>
    simp only [setsN] at h2
    split at h2
    · split at h2 <;> cases h2
    · cases h2
  | d1 :: d2 :: d3 :: d4 :: r, _, _, h2 =>
    simp only [setsN] at h2
    split at h2
    · split at h2
      · split at h2 <;> cases h2
      · cases h2
    · cases h2
  | [d1, d2, d3], _, .cons a1 (.cons a2 (.cons a3 .nil)), h2 =>
    simp only [setsN] at h2
    by_cases f1 : Free δ1 i
    · rw [if_pos f1] at h2
      by_cases f2 : Free (δ1.set i (some (.v d1))) j
      · rw [if_pos f2] at h2
        by_cases f3 : Free ((δ1.set i (some (.v d1))).set j (some (.v d2))) l
        · rw [if_pos f3] at h2
          cases h2
          exact ⟨_, _, _, rfl, p1 _ H1 G1 (Ex.refl G1) (((r1.setv f1 a1).setv f2 a2).setv f3 a3)⟩
        · rw [if_neg f3] at h2
          cases h2
      · rw [if_neg f2] at h2
        cases h2
    · rw [if_neg f1] at h2
      cases h2
theorem s_par (i j : Nat) {x y : Str} {a b : Expr} {px py pt pos : Pos} {kt k2 pt2} (hc : X.calm = true) (hN : X.N.Nodup) (hi : X.N[i]? = some x) (hj : X.N[j]? = some y) (hij : i ≠ j)
    (hx : X.env.scope.names.lookup x = some .local) (hy : X.env.scope.names.lookup y = some .local) (ha : Pa X cl W [a, b] ga)
    (sw : swappedStores [.Tuple [.Name x px, .Name y py] kt pt] (.Tuple [a, b] k2 pt2) X.env = pure (some [x, y]))
    (hs : swapsWithSole [.Tuple [.Name x px, .Name y py] kt pt] (.Tuple [a, b] k2 pt2) pos.line X.env = pure false) :
    Ps X cl W kr (.Assign [.Tuple [.Name x px, .Name y py] kt pt] (.Tuple [a, b] k2 pt2) pos) (gPar [i, j] ga) :=
  ps_weak (ps_par hc hN hi hj hij hx hy ha sw hs) fun _ _ _ h => go_par h
theorem s_par3 (i j l : Nat) {x y z : Str} {a b c : Expr} {px py pz pt pos : Pos} {kt k2 pt2} (hc : X.calm = true) (hN : X.N.Nodup) (hi : X.N[i]? = some x) (hj : X.N[j]? = some y) (hl : X.N[l]? = some z) (hij : i ≠ j) (hil : i ≠ l) (hjl : j ≠ l)
    (hx : X.env.scope.names.lookup x = some .local) (hy : X.env.scope.names.lookup y = some .local) (hz : X.env.scope.names.lookup z = some .local) (ha : Pa X cl W [a, b, c] ga)
    (sw : swappedStores [.Tuple [.Name x px, .Name y py, .Name z pz] kt pt] (.Tuple [a, b, c] k2 pt2) X.env = pure (some [x, y, z]))
    (hs : swapsWithSole [.Tuple [.Name x px, .Name y py, .Name z pz] kt pt] (.Tuple [a, b, c] k2 pt2) pos.line X.env = pure false) :
    Ps X cl W kr (.Assign [.Tuple [.Name x px, .Name y py, .Name z pz] kt pt] (.Tuple [a, b, c] k2 pt2) pos) (gPar [i, j, l] ga) :=
  ps_weak (ps_par3 hc hN hi hj hl hij hil hjl hx hy hz ha sw hs) fun _ _ _ h => go_par3 h
end
end Pw

set_option maxRecDepth 100000
set_option maxHeartbeats 3900000
namespace Kc
open PySem L2 Pw

def g_is_whole : Dv → Rs (Fl × Dv) := (gRet (fAndV (f1 (oIsi "int") (fBar 0)) (fNotV (f1 (oIsi "bool") (fBar 0)))))
def S_is_whole : Sm := runD 1 none g_is_whole

def g_is_upto : Dv → Rs (Fl × Dv) := (gRet (fAndV (fCall S_is_whole (aCons (fVar 0) aNil)) (fV (fCh (fVar 1) [(fun i j => decide (i ≤ j), (fVar 0)), (fun i j => decide (i ≤ j), (fVar 2))]))))
def S_is_upto : Sm := runD 3 none g_is_upto

def g_is_tie : Dv → Rs (Fl × Dv) := (gSeq (gIf (fOrT (fNotT (fT (f1 (oIsi "tuple") (fBar 1)))) (fT (f2 oNe (f1 oLen (fBar 1)) (fC (.int 2))))) (gRet (fC (.bool false))) gNx) (gRet (fAndV (fCall S_is_upto (aCons (fIxv 1 (fC (.int 0))) (aCons (fC (.int 0)) (aCons (f2 oSub (fVar 0) (fC (.int 1))) aNil)))) (fAndV (fCall S_is_upto (aCons (fIxv 1 (fC (.int 1))) (aCons (fC (.int 0)) (aCons (f2 oSub (fVar 0) (fC (.int 1))) aNil)))) (f2 oLtA (fIxv 1 (fC (.int 0))) (fIxv 1 (fC (.int 1))))))))
def S_is_tie : Sm := runD 2 none g_is_tie

def g_reached : Dv → Rs (Fl × Dv) := (gSeq (gSetO 2 (fLst (aCons (fVar 1) aNil))) (gSeq (gSet 3 (fC (.int 0))) (gSeq (whN (fT (f2 oLtA (fVar 3) (f1 oLen (fBar 2)))) (gSeq (gFor (wSeq (fVar 0)) (bTup [(bName 4), (bName 5)]) (gSeq (gIf (fAndT (fT (f2 oEq (fVar 4) (fIxv 2 (fVar 3)))) (fT (f2 oNin (fVar 5) (fBar 2)))) (gDrop (fMt 2 mApp (aCons (fVar 5) aNil))) gNx) (gIf (fAndT (fT (f2 oEq (fVar 5) (fIxv 2 (fVar 3)))) (fT (f2 oNin (fVar 4) (fBar 2)))) (gDrop (fMt 2 mApp (aCons (fVar 4) aNil))) gNx))) (gSet 3 (f2 oAdd (fVar 3) (fC (.int 1))))) 40) (gRet (f1 oTuple (f1 oSortA (fBar 2)))))))
def S_reached : Sm := runD 6 none g_reached

def g_is_web : Dv → Rs (Fl × Dv) := (gSeq (gIf (fOrT (fNotT (fT (f1 (oIsi "tuple") (fBar 0)))) (fOrT (fT (f2 oNe (f1 oLen (fBar 0)) (fC (.int 2)))) (fNotT (fT (fCall S_is_upto (aCons (fIxv 0 (fC (.int 0))) (aCons (fC (.int 2)) (aCons (fC (.int 8)) aNil)))))))) (gRet (fC (.bool false))) gNx) (gSeq (gAsg (fVar 0) (bTup [(bName 1), (bName 2)])) (gSeq (gIf (fOrT (fNotT (fT (f1 (oIsi "tuple") (fBar 2)))) (fNotT (fT (f1 oAll (fLc [3] (wSeq (fVar 2)) (bName 3) tYesD (fCall S_is_tie (aCons (fVar 1) (aCons (fVar 3) aNil)))))))) (gRet (fC (.bool false))) gNx) (gSeq (gIf (fNotT (fT (f1 oAll (fLc [4, 5] (wZip (fVar 2) (fCut (fVar 2) (some (fC (.int 1))) none)) (bTup [(bName 4), (bName 5)]) tYesD (f2 oLtA (fVar 4) (fVar 5)))))) (gRet (fC (.bool false))) gNx) (gRet (f2 oEq (f1 oLen (fCall S_reached (aCons (fVar 2) (aCons (fC (.int 0)) aNil)))) (fVar 1)))))))
def S_is_web : Sm := runD 6 none g_is_web

def g_check_web : Dv → Rs (Fl × Dv) := (gIf (fNotT (fT (fCall S_is_web (aCons (fVar 0) aNil)))) (gErr "NoWeb") gNx)
def S_check_web : Sm := runD 1 none g_check_web

def g_with_of : Dv → Rs (Fl × Dv) := (gRet (fTup (aCons (fIxv 0 (fC (.int 0))) (aCons (f1 oTuple (f1 oSortA (f2 oAdd (fIxv 0 (fC (.int 1))) (fTup (aCons (fVar 1) aNil))))) aNil))))
def S_with_of : Sm := runD 2 none g_with_of

def g_check_new : Dv → Rs (Fl × Dv) := (gIf (fOrT (fNotT (fT (fCall S_is_tie (aCons (fIxv 0 (fC (.int 0))) (aCons (fVar 1) aNil))))) (fT (f2 oIn (fVar 1) (fIxv 0 (fC (.int 1)))))) (gErr "NoTie") gNx)
def S_check_new : Sm := runD 2 none g_check_new

def g_with_tie : Dv → Rs (Fl × Dv) := (gSeq (gDrop (fCall S_check_web (aCons (fVar 0) aNil))) (gSeq (gDrop (fCall S_check_new (aCons (fVar 0) (aCons (fVar 1) aNil)))) (gRet (fCall S_with_of (aCons (fVar 0) (aCons (fVar 1) aNil))))))
def S_with_tie : Sm := runD 2 none g_with_tie

def g_without_of : Dv → Rs (Fl × Dv) := (gSeq (gIf (fOrT (fNotT (fT (fCall S_is_tie (aCons (fIxv 0 (fC (.int 0))) (aCons (fVar 1) aNil))))) (fT (f2 oNin (fVar 1) (fIxv 0 (fC (.int 1)))))) (gErr "NoTie") gNx) (gSeq (gSet 2 (f1 oTuple (fLc [3] (wSeq (fIxv 0 (fC (.int 1)))) (bName 3) (fT (f2 oNe (fVar 3) (fVar 1))) (fVar 3)))) (gSeq (gIf (fT (f2 oLtA (f1 oLen (fCall S_reached (aCons (fVar 2) (aCons (fC (.int 0)) aNil)))) (fIxv 0 (fC (.int 0))))) (gErr "Apart") gNx) (gRet (fTup (aCons (fIxv 0 (fC (.int 0))) (aCons (fVar 2) aNil)))))))
def S_without_of : Sm := runD 4 none g_without_of

def g_without : Dv → Rs (Fl × Dv) := (gSeq (gDrop (fCall S_check_web (aCons (fVar 0) aNil))) (gRet (fCall S_without_of (aCons (fVar 0) (aCons (fVar 1) aNil)))))
def S_without : Sm := runD 2 none g_without

def g__law_cell_at : Dv → Rs (Fl × Dv) := (gSeq (gIf (fT (f2 oLtA (fVar 1) (f1 oLen (fBar 0)))) (gRet (fIxv 0 (fVar 1))) gNx) (gRet (fC (.int 0))))
def S__law_cell_at : Sm := runD 2 none g__law_cell_at

def g__law_pot : Dv → Rs (Fl × Dv) := (gSeq (gIf (fT (f2 oGe (fVar 0) (f2 oPow (fC (.int 10)) (fC (.int 18))))) (gRet (fLst (aCons (f2 oSub (fVar 0) (f2 oPow (fC (.int 10)) (fC (.int 18)))) aNil))) gNx) (gSeq (gSet 1 (fC (.int 0))) (gSeq (gFor (wRng1 (fC (.int 64))) (bName 2) (gSeq (gSet 3 (f2 oMod (f2 oMul (f2 oAdd (f2 oAdd (f2 oMod (fVar 0) (fC (.int 2147483629))) (f2 oMul (fC (.int 7919)) (fVar 2))) (fC (.int 1))) (fC (.int 48271))) (fC (.int 2147483647)))) (gSeq (gSet 3 (f2 oMod (f2 oAdd (f2 oAdd (f2 oMul (fVar 3) (fVar 3)) (f2 oMul (fC (.int 69621)) (fVar 2))) (fC (.int 7))) (fC (.int 2147483587)))) (gSet 1 (f2 oAdd (f2 oMul (fVar 1) (fC (.int 2147483587))) (fVar 3)))))) (gRet (fLst (aCons (fVar 1) aNil))))))
def S__law_pot : Sm := runD 4 none g__law_pot

def g__law_take : Dv → Rs (Fl × Dv) := (gSeq (gSet 2 (f2 oMod (fIxv 0 (fC (.int 0))) (fVar 1))) (gSeq (gStL 0 (fC (.int 0)) (f2 oDiv (fIxv 0 (fC (.int 0))) (fVar 1))) (gRet (fVar 2))))
def S__law_take : Sm := runD 3 (some 0) g__law_take

def g__law_whole : Dv → Rs (Fl × Dv) := (gRet (fAndV (f1 (oIsi "int") (fBar 0)) (fNotV (f1 (oIsi "bool") (fBar 0)))))
def S__law_whole : Sm := runD 1 none g__law_whole

def g__law_met : Dv → Rs (Fl × Dv) := (gSeq (gSet 3 (fLst (aCons (fVar 2) aNil))) (gSeq (gFor (wRng1 (fVar 0)) (bName 4) (gFor (wSeq (fVar 1)) (bTup [(bName 5), (bName 6)]) (gIf (fOrT (fT (f2 oIn (fVar 5) (fBar 3))) (fT (f2 oIn (fVar 6) (fBar 3)))) (gSet 3 (f2 oAdd (fVar 3) (fLc [7] (wSeq (fTup (aCons (fVar 5) (aCons (fVar 6) aNil)))) (bName 7) (fT (f2 oNin (fVar 7) (fBar 3))) (fVar 7)))) gNx))) (gRet (f1 oSortA (fBar 3)))))
def S__law_met : Sm := runD 8 none g__law_met

def g__law_is_tie : Dv → Rs (Fl × Dv) := (gSeq (gIf (fOrT (fNotT (fT (f1 (oIsi "tuple") (fBar 1)))) (fOrT (fT (f2 oNe (f1 oLen (fBar 1)) (fC (.int 2)))) (fNotT (fT (f1 oAll (fLc [2] (wSeq (fVar 1)) (bName 2) tYesD (fCall S__law_whole (aCons (fVar 2) aNil)))))))) (gRet (fC (.bool false))) gNx) (gRet (fV (fCh (fC (.int 0)) [(fun i j => decide (i ≤ j), (fIxv 1 (fC (.int 0)))), (fun i j => decide (i < j), (fIxv 1 (fC (.int 1)))), (fun i j => decide (i < j), (fVar 0))]))))
def S__law_is_tie : Sm := runD 3 none g__law_is_tie

def g__law_is_web : Dv → Rs (Fl × Dv) := (gSeq (gIf (fOrT (fNotT (fT (f1 (oIsi "tuple") (fBar 0)))) (fOrT (fT (f2 oNe (f1 oLen (fBar 0)) (fC (.int 2)))) (fOrT (fNotT (fT (fCall S__law_whole (aCons (fIxv 0 (fC (.int 0))) aNil)))) (fNotT (fCh (fC (.int 2)) [(fun i j => decide (i ≤ j), (fIxv 0 (fC (.int 0)))), (fun i j => decide (i ≤ j), (fC (.int 8)))]))))) (gRet (fC (.bool false))) gNx) (gSeq (gIf (fOrT (fNotT (fT (f1 (oIsi "tuple") (fIxv 0 (fC (.int 1)))))) (fNotT (fT (f1 oAll (fLc [1] (wSeq (fIxv 0 (fC (.int 1)))) (bName 1) tYesD (fCall S__law_is_tie (aCons (fIxv 0 (fC (.int 0))) (aCons (fVar 1) aNil)))))))) (gRet (fC (.bool false))) gNx) (gSeq (gIf (fT (f2 oNe (f1 oList (fIxv 0 (fC (.int 1)))) (f1 oSrtSet (fIxv 0 (fC (.int 1)))))) (gRet (fC (.bool false))) gNx) (gRet (f2 oEq (fCall S__law_met (aCons (fIxv 0 (fC (.int 0))) (aCons (fIxv 0 (fC (.int 1))) (aCons (fC (.int 0)) aNil)))) (fLrg1 (fIxv 0 (fC (.int 0)))))))))
def S__law_is_web : Sm := runD 2 none g__law_is_web

def g__law_web : Dv → Rs (Fl × Dv) := (gSeq (gSet 3 (f2 oAdd (fC (.int 2)) (fCallM S__law_take 0 (aCons (f2 oSub (fVar 1) (fC (.int 1))) aNil)))) (gSeq (gSet 4 (fCallM S__law_take 0 (aCons (fC (.int 4)) aNil))) (gSeq (gSet 5 (f2 oMul (f2 oIx (fLst (aCons (fC (.int 0)) (aCons (fC (.int 1)) (aCons (fC (.int 2)) (aCons (fC (.int 12)) aNil))))) (fCallM S__law_take 0 (aCons (fC (.int 4)) aNil))) (fVar 2))) (gSeq (gSetO 6 (fLrg1 (fVar 3))) (gSeq (gSet 7 (fLc [10] (wRng1 (fVar 3)) (bName 10) tYesD (fMt 6 mPopAt (aCons (fCallM S__law_take 0 (aCons (f1 oLen (fBar 6)) aNil)) aNil)))) (gSeq (gSetO 8 (fLst aNil)) (gSeq (gFor (wRng2 (fC (.int 1)) (fVar 3)) (bName 9) (gSeq (gSet 11 (fCallM S__law_take 0 (aCons (fVar 9) aNil))) (gDrop (fMt 8 mApp (aCons (fTup (aCons (f2 oIx (fLst (aCons (f2 oSub (fVar 9) (fC (.int 1))) (aCons (fVar 11) (aCons (fVar 11) (aCons (fC (.int 0)) aNil))))) (fVar 4)) (aCons (fVar 9) aNil))) aNil))))) (gSeq (gFor (wRng1 (fVar 5)) (bName 10) (gSeq (gSet 12 (fCallM S__law_take 0 (aCons (fVar 3) aNil))) (gSeq (gSet 13 (fCallM S__law_take 0 (aCons (fVar 3) aNil))) (gIf (fT (f2 oNe (fVar 12) (fVar 13))) (gDrop (fMt 8 mApp (aCons (fTup (aCons (fVar 12) (aCons (fVar 13) aNil))) aNil))) gNx)))) (gSeq (gSetO 8 (fLc [12, 13] (wSeq (fVar 8)) (bTup [(bName 12), (bName 13)]) tYesD (fTup (aCons (fB2 gMin (fIxv 7 (fVar 12)) (fIxv 7 (fVar 13))) (aCons (fB2 gMax (fIxv 7 (fVar 12)) (fIxv 7 (fVar 13))) aNil))))) (gRet (fTup (aCons (fVar 3) (aCons (f1 oTuple (f1 oSrtSet (fBar 8))) aNil)))))))))))))
def S__law_web : Sm := runD 14 (some 0) g__law_web

def g__law_bent : Dv → Rs (Fl × Dv) := (gSeq (gAsg (fVar 1) (bTup [(bName 10), (bName 11)])) (gSeq (gSet 2 (fCallM S__law_take 0 (aCons (f1 oLen (fBar 11)) aNil))) (gSeq (gSet 3 (fCallM S__law_take 0 (aCons (fC (.int 2)) aNil))) (gSeq (gSet 4 (f2 oIx (fLst (aCons (fC (.int 8)) (aCons (fVar 10) (aCons (f1 oNeg (fC (.int 1))) (aCons (fC (.bool true)) (aCons (fC (.bool false)) (aCons (fC .none) (aCons (fC (.str "1")) (aCons (fTup (aCons (fC (.int 1)) aNil)) (aCons (f2 oPow (fC (.int 10)) (fC (.int 29))) (aCons (fC (.int 0)) aNil))))))))))) (fCallM S__law_take 0 (aCons (fC (.int 10)) aNil)))) (gSeq (gSet 5 (fCallM S__law_take 0 (aCons (fC (.int 9)) aNil))) (gSeq (gSet 6 (fCallM S__law_take 0 (aCons (fC (.int 9)) aNil))) (gSeq (gSet 7 (fIxv 11 (fVar 2))) (gSeq (gSet 8 (fTup (aCons (f2 oAdd (f2 oAdd (fCut (fVar 7) none (some (fVar 3))) (fTup (aCons (fVar 4) aNil))) (fCut (fVar 7) (some (f2 oAdd (fVar 3) (fC (.int 1)))) none)) aNil))) (gSeq (gSet 9 (fLst (aCons (fTup (aCons (fVar 10) (aCons (f2 oAdd (f2 oAdd (fCut (fVar 11) none (some (fVar 2))) (fVar 8)) (fCut (fVar 11) (some (f2 oAdd (fVar 2) (fC (.int 1)))) none)) aNil))) (aCons (fTup (aCons (fVar 10) (aCons (f2 oAdd (fCut (fVar 11) none (some (fVar 2))) (fCut (fVar 11) (some (f2 oAdd (fVar 2) (fC (.int 1)))) none)) aNil))) aNil)))) (gSeq (gSet 9 (f2 oAdd (fVar 9) (fLst (aCons (fTup (aCons (fVar 10) (aCons (f1 oList (fBar 11)) aNil))) (aCons (fLst (aCons (fVar 10) (aCons (fVar 11) aNil))) aNil))))) (gSeq (gSet 9 (f2 oAdd (fVar 9) (fLst (aCons (fTup (aCons (fVar 10) (aCons (f2 oAdd (f2 oAdd (fCut (fVar 11) none (some (fVar 2))) (fTup (aCons (f1 oList (fBar 7)) aNil))) (fCut (fVar 11) (some (f2 oAdd (fVar 2) (fC (.int 1)))) none)) aNil))) (aCons (fTup (aCons (fVar 10) (aCons (f2 oAdd (f2 oAdd (fCut (fVar 11) none (some (fVar 2))) (fTup (aCons (f1 oTurnT (fVar 7)) aNil))) (fCut (fVar 11) (some (f2 oAdd (fVar 2) (fC (.int 1)))) none)) aNil))) aNil))))) (gSeq (gSet 9 (f2 oAdd (fVar 9) (fLst (aCons (fTup (aCons (fVar 10) (aCons (f2 oAdd (fCut (fVar 11) none (some (f2 oAdd (fVar 2) (fC (.int 1))))) (fCut (fVar 11) (some (fVar 2)) none)) aNil))) (aCons (fTup (aCons (fVar 10) (aCons (f1 oTurnT (fVar 11)) aNil))) (aCons (fTup (aCons (f2 oAdd (fVar 10) (fC (.int 1))) (aCons (fVar 11) aNil))) aNil)))))) (gSeq (gSet 9 (f2 oAdd (fVar 9) (fLst (aCons (fTup (aCons (f2 oSub (fVar 10) (fC (.int 1))) (aCons (fVar 11) aNil))) (aCons (fTup (aCons (fVar 4) (aCons (fVar 11) aNil))) aNil))))) (gSeq (gSet 9 (f2 oAdd (fVar 9) (fLst (aCons (fTup (aCons (fVar 10) (aCons (f1 oTuple (f1 oSortA (f2 oAdd (fVar 11) (fTup (aCons (fTup (aCons (fVar 5) (aCons (fVar 6) aNil))) aNil))))) aNil))) (aCons (fTup (aCons (fVar 10) (aCons (fVar 11) (aCons (fTup aNil) aNil)))) (aCons (fTup (aCons (fVar 10) aNil)) (aCons (fVar 11) (aCons (fVar 10) (aCons (fVar 4) (aCons (fTup aNil) aNil)))))))))) (gSeq (gSet 9 (f2 oAdd (fVar 9) (fLst (aCons (fTup (aCons (fVar 10) (aCons (f2 oAdd (f2 oAdd (fCut (fVar 11) none (some (fVar 2))) (fTup (aCons (f2 oAdd (fVar 7) (fTup (aCons (fC (.int 0)) aNil))) aNil))) (fCut (fVar 11) (some (f2 oAdd (fVar 2) (fC (.int 1)))) none)) aNil))) (aCons (fTup (aCons (fVar 10) (aCons (f2 oAdd (f2 oAdd (fCut (fVar 11) none (some (fVar 2))) (fTup (aCons (fCut (fVar 7) none (some (fC (.int 1)))) aNil))) (fCut (fVar 11) (some (f2 oAdd (fVar 2) (fC (.int 1)))) none)) aNil))) aNil))))) (gRet (fIxv 9 (fCallM S__law_take 0 (aCons (fC (.int 20)) aNil)))))))))))))))))))
def S__law_bent : Sm := runD 12 (some 0) g__law_bent

def g__law_no_place : Dv → Rs (Fl × Dv) := (gRet (f2 oIx (fLst (aCons (fIxv 1 (fC (.int 0))) (aCons (f1 oNeg (fC (.int 1))) (aCons (fC (.bool true)) (aCons (fC (.bool false)) (aCons (fC .none) (aCons (fC (.str "0")) (aCons (fTup (aCons (fC (.int 0)) aNil)) (aCons (fLst (aCons (fC (.int 1)) aNil)) (aCons (fC (.int 8)) (aCons (f2 oPow (fC (.int 10)) (fC (.int 29))) aNil))))))))))) (fCallM S__law_take 0 (aCons (fC (.int 10)) aNil))))
def S__law_no_place : Sm := runD 2 (some 0) g__law_no_place

def g__law_two : Dv → Rs (Fl × Dv) := (gSeq (gSet 2 (fCallM S__law_take 0 (aCons (fIxv 1 (fC (.int 0))) aNil))) (gRet (fTup (aCons (fVar 2) (aCons (f2 oMod (f2 oAdd (f2 oAdd (fVar 2) (fC (.int 1))) (fCallM S__law_take 0 (aCons (f2 oSub (fIxv 1 (fC (.int 0))) (fC (.int 1))) aNil))) (fIxv 1 (fC (.int 0)))) aNil)))))
def S__law_two : Sm := runD 3 (some 0) g__law_two

end Kc

set_option maxRecDepth 100000
set_option maxHeartbeats 3900000
namespace Kc
open PySem L2 Pw

def g_check_place : Dv → Rs (Fl × Dv) := (gIf (fNotT (fT (fCall S_is_upto (aCons (fVar 1) (aCons (fC (.int 0)) (aCons (f2 oSub (fIxv 0 (fC (.int 0))) (fC (.int 1))) aNil)))))) (gErr "NoPlace") gNx)
def S_check_place : Sm := runD 2 none g_check_place

def g_check_places : Dv → Rs (Fl × Dv) := (gSeq (gDrop (fCall S_check_web (aCons (fVar 0) aNil))) (gSeq (gDrop (fCall S_check_place (aCons (fVar 0) (aCons (fVar 1) aNil)))) (gDrop (fCall S_check_place (aCons (fVar 0) (aCons (fVar 2) aNil))))))
def S_check_places : Sm := runD 3 none g_check_places

def g_are_tied : Dv → Rs (Fl × Dv) := (gRet (f2 oIn (fTup (aCons (fB2 gMin (fVar 1) (fVar 2)) (aCons (fB2 gMax (fVar 1) (fVar 2)) aNil))) (fIxv 0 (fC (.int 1)))))
def S_are_tied : Sm := runD 3 none g_are_tied

def g_near : Dv → Rs (Fl × Dv) := (gRet (f1 oTuple (fLc [2] (wRng1 (fIxv 0 (fC (.int 0)))) (bName 2) (fT (fCall S_are_tied (aCons (fVar 0) (aCons (fVar 1) (aCons (fVar 2) aNil))))) (fVar 2))))
def S_near : Sm := runD 3 none g_near

def g_neighbours : Dv → Rs (Fl × Dv) := (gSeq (gDrop (fCall S_check_web (aCons (fVar 0) aNil))) (gSeq (gDrop (fCall S_check_place (aCons (fVar 0) (aCons (fVar 1) aNil)))) (gRet (fCall S_near (aCons (fVar 0) (aCons (fVar 1) aNil))))))
def S_neighbours : Sm := runD 2 none g_neighbours

def g_apart_from : Dv → Rs (Fl × Dv) := (gSeq (gSetO 2 (fDK (fVar 1) (fC (.int 0)))) (gSeq (gSetO 3 (fLst (aCons (fVar 1) aNil))) (gSeq (gSet 4 (fC (.int 0))) (gSeq (whN (fT (f2 oLtA (fVar 4) (f1 oLen (fBar 3)))) (gSeq (gFor (wSeq (fCall S_near (aCons (fVar 0) (aCons (fIxv 3 (fVar 4)) aNil)))) (bName 5) (gIf (fT (f2 oNin (fVar 5) (fBar 2))) (gSeq (gStD 2 (fVar 5) (f2 oAdd (fDixv 2 (fIxv 3 (fVar 4))) (fC (.int 1)))) (gDrop (fMt 3 mApp (aCons (fVar 5) aNil)))) gNx)) (gSet 4 (f2 oAdd (fVar 4) (fC (.int 1))))) 40) (gRet (fVar 2))))))
def S_apart_from : Sm := runD 6 none g_apart_from

def g_apart_of : Dv → Rs (Fl × Dv) := (gRet (f2 ixDct (fCall S_apart_from (aCons (fVar 0) (aCons (fVar 1) aNil))) (fVar 2)))
def S_apart_of : Sm := runD 3 none g_apart_of

def g_apart : Dv → Rs (Fl × Dv) := (gSeq (gDrop (fCall S_check_places (aCons (fVar 0) (aCons (fVar 1) (aCons (fVar 2) aNil))))) (gRet (fCall S_apart_of (aCons (fVar 0) (aCons (fVar 1) (aCons (fVar 2) aNil))))))
def S_apart : Sm := runD 3 none g_apart

def g__law_near : Dv → Rs (Fl × Dv) := (gRet (fLc [2] (wRng1 (fIxv 0 (fC (.int 0)))) (bName 2) (fT (f2 oIn (fTup (aCons (fB2 gMin (fVar 1) (fVar 2)) (aCons (fB2 gMax (fVar 1) (fVar 2)) aNil))) (fIxv 0 (fC (.int 1))))) (fVar 2)))
def S__law_near : Sm := runD 3 none g__law_near

def g__law_far : Dv → Rs (Fl × Dv) := (gSeq (gSetO 2 (f2 oRep (fLst (aCons (fC .none) aNil)) (fIxv 0 (fC (.int 0))))) (gSeq (gStL 2 (fVar 1) (fC (.int 0))) (gSeq (gFor (wRng1 (fIxv 0 (fC (.int 0)))) (bName 3) (gFor (wRng1 (fIxv 0 (fC (.int 0)))) (bName 4) (gIf (fT (f2 oEq (fIxv 2 (fVar 4)) (fVar 3))) (gFor (wSeq (fCall S__law_near (aCons (fVar 0) (aCons (fVar 4) aNil)))) (bName 5) (gStL 2 (fVar 5) (fIf (fT (f2 oIsN (fIxv 2 (fVar 5)) (fC .none))) (f2 oAdd (fVar 3) (fC (.int 1))) (fIxv 2 (fVar 5))))) gNx))) (gRet (fVar 2)))))
def S__law_far : Sm := runD 6 none g__law_far

end Kc

set_option maxRecDepth 100000
set_option maxHeartbeats 3900000
namespace Kc
open PySem L2 Pw

def g_tree_like : Dv → Rs (Fl × Dv) := (gRet (f2 oEq (f1 oLen (fIxv 0 (fC (.int 1)))) (f2 oSub (fIxv 0 (fC (.int 0))) (fC (.int 1)))))
def S_tree_like : Sm := runD 1 none g_tree_like

def g_is_tree : Dv → Rs (Fl × Dv) := (gSeq (gDrop (fCall S_check_web (aCons (fVar 0) aNil))) (gRet (fCall S_tree_like (aCons (fVar 0) aNil))))
def S_is_tree : Sm := runD 1 none g_is_tree

def g_check_tree : Dv → Rs (Fl × Dv) := (gSeq (gDrop (fCall S_check_web (aCons (fVar 0) aNil))) (gIf (fNotT (fT (fCall S_tree_like (aCons (fVar 0) aNil)))) (gErr "NoTree") gNx))
def S_check_tree : Sm := runD 1 none g_check_tree

def g_way_of : Dv → Rs (Fl × Dv) := (gSeq (gSet 3 (fCall S_apart_from (aCons (fVar 0) (aCons (fVar 2) aNil)))) (gSeq (gSetO 4 (fLst (aCons (fVar 1) aNil))) (gSeq (whN (fT (f2 oNe (fIxv 4 (f1 oNeg (fC (.int 1)))) (fVar 2))) (gDrop (fMt 4 mApp (aCons (f2 oIx (fLc [5] (wSeq (fCall S_near (aCons (fVar 0) (aCons (fIxv 4 (f1 oNeg (fC (.int 1)))) aNil)))) (bName 5) (fT (f2 oLtA (fDixv 3 (fVar 5)) (fDixv 3 (fIxv 4 (f1 oNeg (fC (.int 1))))))) (fVar 5)) (fC (.int 0))) aNil))) 40) (gRet (f1 oTuple (fBar 4))))))
def S_way_of : Sm := runD 6 none g_way_of

def g_way : Dv → Rs (Fl × Dv) := (gSeq (gDrop (fCall S_check_tree (aCons (fVar 0) aNil))) (gSeq (gDrop (fCall S_check_place (aCons (fVar 0) (aCons (fVar 1) aNil)))) (gSeq (gDrop (fCall S_check_place (aCons (fVar 0) (aCons (fVar 2) aNil)))) (gRet (fCall S_way_of (aCons (fVar 0) (aCons (fVar 1) (aCons (fVar 2) aNil))))))))
def S_way : Sm := runD 3 none g_way

def g_check_tied : Dv → Rs (Fl × Dv) := (gSeq (gDrop (fCall S_check_tree (aCons (fVar 0) aNil))) (gSeq (gDrop (fCall S_check_place (aCons (fVar 0) (aCons (fVar 1) aNil)))) (gSeq (gDrop (fCall S_check_place (aCons (fVar 0) (aCons (fVar 2) aNil)))) (gIf (fNotT (fT (fCall S_are_tied (aCons (fVar 0) (aCons (fVar 1) (aCons (fVar 2) aNil)))))) (gErr "NoTie") gNx))))
def S_check_tied : Sm := runD 3 none g_check_tied

def g_part_of : Dv → Rs (Fl × Dv) := (gRet (fCall S_reached (aCons (fLc [3] (wSeq (fIxv 0 (fC (.int 1)))) (bName 3) (fT (f2 oNe (fVar 3) (fTup (aCons (fB2 gMin (fVar 1) (fVar 2)) (aCons (fB2 gMax (fVar 1) (fVar 2)) aNil))))) (fVar 3)) (aCons (fVar 2) aNil))))
def S_part_of : Sm := runD 4 none g_part_of

def g_part : Dv → Rs (Fl × Dv) := (gSeq (gDrop (fCall S_check_tied (aCons (fVar 0) (aCons (fVar 1) (aCons (fVar 2) aNil))))) (gRet (fCall S_part_of (aCons (fVar 0) (aCons (fVar 1) (aCons (fVar 2) aNil))))))
def S_part : Sm := runD 3 none g_part

def g__law_is_tree : Dv → Rs (Fl × Dv) := (gRet (f2 oEq (f1 oLen (fIxv 0 (fC (.int 1)))) (f2 oSub (fIxv 0 (fC (.int 0))) (fC (.int 1)))))
def S__law_is_tree : Sm := runD 1 none g__law_is_tree

def g__law_way : Dv → Rs (Fl × Dv) := (gSeq (gSet 3 (fCall S__law_far (aCons (fVar 0) (aCons (fVar 2) aNil)))) (gSeq (gSet 4 (fTup (aCons (fVar 1) aNil))) (gSeq (whN (fT (f2 oNe (fIxv 4 (f1 oNeg (fC (.int 1)))) (fVar 2))) (gSet 4 (f2 oAdd (fVar 4) (f1 oTuple (fLc [5] (wSeq (fCall S__law_near (aCons (fVar 0) (aCons (fIxv 4 (f1 oNeg (fC (.int 1)))) aNil)))) (bName 5) (fT (f2 oLtA (fIxv 3 (fVar 5)) (fIxv 3 (fIxv 4 (f1 oNeg (fC (.int 1))))))) (fVar 5))))) 40) (gRet (fVar 4)))))
def S__law_way : Sm := runD 6 none g__law_way

end Kc

set_option maxRecDepth 100000
set_option maxHeartbeats 3900000
namespace Kc
open PySem L2 Pw

def g_common : Dv → Rs (Fl × Dv) := (gSeq (whN (fT (f2 oGt (fVar 1) (fC (.int 0)))) (gPar [0, 1] (aCons (fVar 1) (aCons (f2 oMod (fVar 0) (fVar 1)) aNil))) 6000) (gRet (fVar 0)))
def S_common : Sm := runD 2 none g_common

def g_made : Dv → Rs (Fl × Dv) := (gSeq (gIf (fT (f2 oLtA (fVar 1) (fC (.int 0)))) (gPar [0, 1] (aCons (f2 oSub (fC (.int 0)) (fVar 0)) (aCons (f2 oSub (fC (.int 0)) (fVar 1)) aNil))) gNx) (gSeq (gSet 2 (fCall S_common (aCons (f1 oAbs (fBar 0)) (aCons (fVar 1) aNil)))) (gRet (fTup (aCons (f2 oDiv (fVar 0) (fVar 2)) (aCons (f2 oDiv (fVar 1) (fVar 2)) aNil))))))
def S_made : Sm := runD 3 none g_made

def g_is_fraction : Dv → Rs (Fl × Dv) := (gSeq (gIf (fOrT (fNotT (fT (f1 (oIsi "tuple") (fBar 0)))) (fOrT (fT (f2 oNe (f1 oLen (fBar 0)) (fC (.int 2)))) (fOrT (fNotT (fT (fCall S_is_whole (aCons (fIxv 0 (fC (.int 0))) aNil)))) (fNotT (fT (fCall S_is_whole (aCons (fIxv 0 (fC (.int 1))) aNil))))))) (gRet (fC (.bool false))) gNx) (gRet (fAndV (f2 oGt (fIxv 0 (fC (.int 1))) (fC (.int 0))) (f2 oEq (fCall S_common (aCons (f1 oAbs (fIxv 0 (fC (.int 0)))) (aCons (fIxv 0 (fC (.int 1))) aNil))) (fC (.int 1))))))
def S_is_fraction : Sm := runD 1 none g_is_fraction

def g_plus : Dv → Rs (Fl × Dv) := (gRet (fCall S_made (aCons (f2 oAdd (f2 oMul (fIxv 0 (fC (.int 0))) (fIxv 1 (fC (.int 1)))) (f2 oMul (fIxv 1 (fC (.int 0))) (fIxv 0 (fC (.int 1))))) (aCons (f2 oMul (fIxv 0 (fC (.int 1))) (fIxv 1 (fC (.int 1)))) aNil))))
def S_plus : Sm := runD 2 none g_plus

def g_times : Dv → Rs (Fl × Dv) := (gRet (fCall S_made (aCons (f2 oMul (fIxv 0 (fC (.int 0))) (fIxv 1 (fC (.int 0)))) (aCons (f2 oMul (fIxv 0 (fC (.int 1))) (fIxv 1 (fC (.int 1)))) aNil))))
def S_times : Sm := runD 2 none g_times

def g_total : Dv → Rs (Fl × Dv) := (gSeq (gSet 1 (fTup (aCons (fC (.int 0)) (aCons (fC (.int 1)) aNil)))) (gSeq (gFor (wSeq (fVar 0)) (bName 2) (gSet 1 (fCall S_plus (aCons (fVar 1) (aCons (fVar 2) aNil))))) (gRet (fVar 1))))
def S_total : Sm := runD 3 none g_total

def g_stepped_by : Dv → Rs (Fl × Dv) := (gSeq (gSetO 2 (fLst aNil)) (gSeq (gFor (wRng1 (fIxv 0 (fC (.int 0)))) (bName 3) (gDrop (fMt 2 mApp (aCons (fCall S_total (aCons (fLc [4] (wSeq (fCall S_near (aCons (fVar 0) (aCons (fVar 3) aNil)))) (bName 4) tYesD (fCall S_times (aCons (fIxv 1 (fVar 4)) (aCons (fTup (aCons (fC (.int 1)) (aCons (f1 oLen (fCall S_near (aCons (fVar 0) (aCons (fVar 4) aNil)))) aNil))) aNil)))) aNil)) aNil)))) (gRet (f1 oTuple (fBar 2)))))
def S_stepped_by : Sm := runD 5 none g_stepped_by

def g_are_shares : Dv → Rs (Fl × Dv) := (gSeq (gIf (fOrT (fNotT (fT (f1 (oIsi "tuple") (fBar 1)))) (fOrT (fT (f2 oNe (f1 oLen (fBar 1)) (fIxv 0 (fC (.int 0))))) (fNotT (fT (f1 oAll (fLc [2] (wSeq (fVar 1)) (bName 2) tYesD (fCall S_is_fraction (aCons (fVar 2) aNil)))))))) (gRet (fC (.bool false))) gNx) (gRet (fAndV (f2 oGe (f1 oMin (fLc [2] (wSeq (fVar 1)) (bName 2) tYesD (fIxv 2 (fC (.int 0))))) (fC (.int 0))) (f2 oEq (fCall S_total (aCons (fVar 1) aNil)) (fTup (aCons (fC (.int 1)) (aCons (fC (.int 1)) aNil)))))))
def S_are_shares : Sm := runD 3 none g_are_shares

def g_stepped : Dv → Rs (Fl × Dv) := (gSeq (gDrop (fCall S_check_web (aCons (fVar 0) aNil))) (gSeq (gIf (fNotT (fT (fCall S_are_shares (aCons (fVar 0) (aCons (fVar 1) aNil))))) (gErr "NoShares") gNx) (gRet (fCall S_stepped_by (aCons (fVar 0) (aCons (fVar 1) aNil))))))
def S_stepped : Sm := runD 2 none g_stepped

def g_still_of : Dv → Rs (Fl × Dv) := (gRet (f1 oTuple (fLc [1] (wRng1 (fIxv 0 (fC (.int 0)))) (bName 1) tYesD (fCall S_made (aCons (f1 oLen (fCall S_near (aCons (fVar 0) (aCons (fVar 1) aNil)))) (aCons (f2 oMul (fC (.int 2)) (f1 oLen (fIxv 0 (fC (.int 1))))) aNil))))))
def S_still_of : Sm := runD 2 none g_still_of

def g_still : Dv → Rs (Fl × Dv) := (gSeq (gDrop (fCall S_check_web (aCons (fVar 0) aNil))) (gRet (fCall S_still_of (aCons (fVar 0) aNil))))
def S_still : Sm := runD 1 none g_still

def g_is_still : Dv → Rs (Fl × Dv) := (gSeq (gDrop (fCall S_check_web (aCons (fVar 0) aNil))) (gRet (fAndV (fCall S_are_shares (aCons (fVar 0) (aCons (fVar 1) aNil))) (f2 oEq (fVar 1) (fCall S_still_of (aCons (fVar 0) aNil))))))
def S_is_still : Sm := runD 2 none g_is_still

def g__law_fr : Dv → Rs (Fl × Dv) := (gSeq (gPar [2, 3] (aCons (f1 oAbs (fBar 0)) (aCons (f1 oAbs (fBar 1)) aNil))) (gSeq (whN (fT (f2 oNe (fVar 3) (fC (.int 0)))) (gPar [2, 3] (aCons (fVar 3) (aCons (f2 oMod (fVar 2) (fVar 3)) aNil))) 6000) (gSeq (gIf (fT (f2 oLtA (fVar 1) (fC (.int 0)))) (gSet 2 (f2 oSub (fC (.int 0)) (fVar 2))) gNx) (gRet (fTup (aCons (f2 oDiv (fVar 0) (fVar 2)) (aCons (f2 oDiv (fVar 1) (fVar 2)) aNil)))))))
def S__law_fr : Sm := runD 4 none g__law_fr

def g__law_is_fr : Dv → Rs (Fl × Dv) := (gSeq (gIf (fOrT (fNotT (fT (f1 (oIsi "tuple") (fBar 0)))) (fOrT (fT (f2 oNe (f1 oLen (fBar 0)) (fC (.int 2)))) (fNotT (fT (f1 oAll (fLc [1] (wSeq (fVar 0)) (bName 1) tYesD (fCall S__law_whole (aCons (fVar 1) aNil)))))))) (gRet (fC (.bool false))) gNx) (gRet (fAndV (f2 oGt (fIxv 0 (fC (.int 1))) (fC (.int 0))) (f2 oEq (fCall S__law_fr (aCons (fIxv 0 (fC (.int 0))) (aCons (fIxv 0 (fC (.int 1))) aNil))) (fVar 0)))))
def S__law_is_fr : Sm := runD 2 none g__law_is_fr

def g__law_plus : Dv → Rs (Fl × Dv) := (gRet (fCall S__law_fr (aCons (f2 oAdd (f2 oMul (fIxv 0 (fC (.int 0))) (fIxv 1 (fC (.int 1)))) (f2 oMul (fIxv 1 (fC (.int 0))) (fIxv 0 (fC (.int 1))))) (aCons (f2 oMul (fIxv 0 (fC (.int 1))) (fIxv 1 (fC (.int 1)))) aNil))))
def S__law_plus : Sm := runD 2 none g__law_plus

def g__law_less : Dv → Rs (Fl × Dv) := (gRet (fCall S__law_fr (aCons (f2 oSub (f2 oMul (fIxv 0 (fC (.int 0))) (fIxv 1 (fC (.int 1)))) (f2 oMul (fIxv 1 (fC (.int 0))) (fIxv 0 (fC (.int 1))))) (aCons (f2 oMul (fIxv 0 (fC (.int 1))) (fIxv 1 (fC (.int 1)))) aNil))))
def S__law_less : Sm := runD 2 none g__law_less

def g__law_times : Dv → Rs (Fl × Dv) := (gRet (fCall S__law_fr (aCons (f2 oMul (fIxv 0 (fC (.int 0))) (fIxv 1 (fC (.int 0)))) (aCons (f2 oMul (fIxv 0 (fC (.int 1))) (fIxv 1 (fC (.int 1)))) aNil))))
def S__law_times : Sm := runD 2 none g__law_times

def g__law_total : Dv → Rs (Fl × Dv) := (gSeq (gSet 1 (fTup (aCons (fC (.int 0)) (aCons (fC (.int 1)) aNil)))) (gSeq (gFor (wSeq (fVar 0)) (bName 2) (gSet 1 (fCall S__law_plus (aCons (fVar 1) (aCons (fVar 2) aNil))))) (gRet (fVar 1))))
def S__law_total : Sm := runD 3 none g__law_total

def g_check_steps : Dv → Rs (Fl × Dv) := (gIf (fNotT (fT (fCall S_is_upto (aCons (fVar 0) (aCons (fC (.int 0)) (aCons (fC (.int 30)) aNil)))))) (gErr "NoNumber") gNx)
def S_check_steps : Sm := runD 1 none g_check_steps

def g_only_at : Dv → Rs (Fl × Dv) := (gRet (f1 oTuple (fLc [2] (wRng1 (fIxv 0 (fC (.int 0)))) (bName 2) tYesD (fTup (aCons (f1 oInt (f2 oEq (fVar 2) (fVar 1))) (aCons (fC (.int 1)) aNil))))))
def S_only_at : Sm := runD 3 none g_only_at

def g_after : Dv → Rs (Fl × Dv) := (gSeq (gDrop (fCall S_check_web (aCons (fVar 0) aNil))) (gSeq (gDrop (fCall S_check_place (aCons (fVar 0) (aCons (fVar 1) aNil)))) (gSeq (gDrop (fCall S_check_steps (aCons (fVar 2) aNil))) (gSeq (gSet 3 (fCall S_only_at (aCons (fVar 0) (aCons (fVar 1) aNil)))) (gSeq (gFor (wRng1 (fVar 2)) (bName 4) (gSet 3 (fCall S_stepped_by (aCons (fVar 0) (aCons (fVar 3) aNil))))) (gRet (fVar 3)))))))
def S_after : Sm := runD 5 none g_after

def g_ways : Dv → Rs (Fl × Dv) := (gSeq (gDrop (fCall S_check_places (aCons (fVar 0) (aCons (fVar 1) (aCons (fVar 2) aNil))))) (gSeq (gDrop (fCall S_check_steps (aCons (fVar 3) aNil))) (gSeq (gSet 4 (fLc [6] (wRng1 (fIxv 0 (fC (.int 0)))) (bName 6) tYesD (f1 oInt (f2 oEq (fVar 6) (fVar 1))))) (gSeq (gFor (wRng1 (fVar 3)) (bName 5) (gSet 4 (fLc [6, 7] (wRng1 (fIxv 0 (fC (.int 0)))) (bName 6) tYesD (f1 oSum (fLc [7] (wSeq (fCall S_near (aCons (fVar 0) (aCons (fVar 6) aNil)))) (bName 7) tYesD (fIxv 4 (fVar 7))))))) (gRet (fIxv 4 (fVar 2)))))))
def S_ways : Sm := runD 8 none g_ways

end Kc

set_option maxRecDepth 100000
set_option maxHeartbeats 3900000
/-! ## M1. loops and comprehensions, reckoned -/
namespace Pw
open PySem L2
theorem unBN_same (own : List Nat) : ∀ (δ : Dv), unBN own 0 δ (anchD (wipeD δ own)) = δ := fun δ => by
  have hl : δ.length = (anchD (wipeD δ own)).length := by rw [anchD, List.length_map, wipeD_length]
  refine List.ext_getElem? fun i => ?_
  rw [unBN_get own δ _ 0 i hl]
  by_cases hi : i < δ.length
  · have e1 : δ[i]? = some δ[i] := List.getElem?_eq_getElem hi
    have e2 : (anchD (wipeD δ own))[i]? = some (anchD (wipeD δ own))[i] := List.getElem?_eq_getElem (by rw [← hl]; exact hi)
    rw [e1, e2]
    simp only [Nat.zero_add]
    by_cases ho : own.contains i = true
    · rw [if_pos ho]
    · rw [if_neg ho]
      have hm : i ∉ own := fun z => ho (List.contains_iff_mem.mpr z)
      have e3 : (wipeD δ own)[i]? = δ[i]? := wipe_out δ i own hm
      have e4 : (anchD (wipeD δ own))[i]? = some (Option.map anch1 δ[i]) := by rw [anchD_get, e3, e1]; rfl
      rw [e2] at e4
      rw [Option.some.inj e4]
      cases δ[i] with
      | none => rfl
      | some s => cases s <;> rfl
  · rw [List.getElem?_eq_none (by omega)]
where
  wipe_out (δ : Dv) (i : Nat) : ∀ own : List Nat, i ∉ own → (wipeD δ own)[i]? = δ[i]?
    | [], _ => rfl
    | v :: vs, h => by
      rw [wipeD, List.getElem?_set_ne (fun z => h (by rw [z]; exact List.mem_cons_self))]
      exact wipe_out δ i vs fun z => h (List.mem_cons_of_mem _ z)
theorem allAb_anch : ∀ δ : Dv, allAb (anchD δ) = true
  | [] => rfl
  | none :: r => allAb_anch r
  | some (.v d) :: r => allAb_anch r
  | some (.m d) :: r => allAb_anch r
  | some (.a d) :: r => allAb_anch r
/-- a comprehension that changes nothing -/
theorem comp_pure {own : List Nat} {b : PyData → Dv → Option Dv} {t : Dv → Rs (Bool × Dv)} {f : Dv → Rs (PyData × Dv)} {δ0 : Dv} {p : PyData → Bool} {e : PyData → PyData} (ha : allAb δ0 = true) : ∀ {ds : List PyData},
    (∀ d ∈ ds, ∃ δd, b d δ0 = some δd ∧ t δd = .ok (p d, δd) ∧ (p d = true → f δd = .ok (e d, δd)) ∧ wipeD δd own = δ0) → compN own b t f ds δ0 = .ok ((ds.filter p).map e, δ0)
  | [], _ => rfl
  | d :: ds, h => by
    obtain ⟨δd, h1, h2, h3, h4⟩ := h d List.mem_cons_self
    have ih := comp_pure ha (ds := ds) fun x hx => h x (List.mem_cons_of_mem _ hx)
    rw [compN, h1]
    simp only [h2, noErr_ok, Rs.bind_ok]
    cases hp : p d with
    | true =>
      simp only [if_true, h3 hp, noErr_ok, Rs.bind_ok, h4, ha, ih]
      rw [List.filter_cons_of_pos hp]
      rfl
    | false =>
      simp only [Bool.false_eq_true, if_false, h4, ha, if_true, ih]
      rw [List.filter_cons_of_neg (by rw [hp]; exact Bool.false_ne_true)]
theorem lc_pure {own : List Nat} {w : Dv → Rs (List PyData × Dv)} {b : PyData → Dv → Option Dv} {t : Dv → Rs (Bool × Dv)} {f : Dv → Rs (PyData × Dv)} {δ : Dv} {x : List PyData × Dv} {p : PyData → Bool} {e : PyData → PyData} (hw : w δ = .ok x) (hz : x.1.length ≤ sizeLine)
    (h : ∀ d ∈ x.1, ∃ δd, b d (anchD (wipeD x.2 own)) = some δd ∧ t δd = .ok (p d, δd) ∧ (p d = true → f δd = .ok (e d, δd)) ∧ wipeD δd own = anchD (wipeD x.2 own)) : fLc own w b t f δ = .ok (.list ((x.1.filter p).map e), x.2) := by
  unfold fLc
  rw [hw]
  simp only [Rs.bind_ok, if_pos hz]
  rw [comp_pure (allAb_anch _) h]
  simp only [Rs.bind_ok, unBN_same]
/-- a for that keeps a relation -/
theorem for_rel {α : Type} {b : PyData → Dv → Option Dv} {g : Dv → Rs (Fl × Dv)} (R : α → Dv → Prop) (step : α → PyData → α) : ∀ {ds : List PyData} {s : α} {δ : Dv},
    (∀ d ∈ ds, ∀ (s : α) (δ : Dv), R s δ → ∃ δ1 δ2, b d δ = some δ1 ∧ g δ1 = .ok (.nx, δ2) ∧ R (step s d) δ2) → R s δ → ∃ δ', forN b g ds δ = .ok (.nx, δ') ∧ R (ds.foldl step s) δ'
  | [], s, δ, _, h => ⟨δ, rfl, h⟩
  | d :: ds, s, δ, hs, h => by
    obtain ⟨δ1, δ2, h1, h2, h3⟩ := hs d List.mem_cons_self s δ h
    obtain ⟨δ', h4, h5⟩ := for_rel R step (ds := ds) (fun x hx => hs x (List.mem_cons_of_mem _ hx)) h3
    refine ⟨δ', ?_, h5⟩
    rw [forN, h1]
    simp only [h2, Rs.bind_ok]
    exact h4
/-- a for that may keep a relation that knows how far it is -/
theorem for_ix {α : Type} {b : PyData → Dv → Option Dv} {g : Dv → Rs (Fl × Dv)} (R : Nat → α → Dv → Prop) (ds : List PyData) (step : Nat → α → α → Prop)
    (hs : ∀ (k : Nat) (d : PyData) (s : α) (δ : Dv), ds[k]? = some d → R k s δ → ∃ δ1 δ2 s2, b d δ = some δ1 ∧ g δ1 = .ok (.nx, δ2) ∧ R (k + 1) s2 δ2) : ∀ (n k : Nat) (s : α) (δ : Dv), k + n = ds.length → R k s δ → ∃ δ' s', forN b g (ds.drop k) δ = .ok (.nx, δ') ∧ R ds.length s' δ'
  | 0, k, s, δ, hk, h => by
    have : k = ds.length := by omega
    subst this
    rw [List.drop_length]
    exact ⟨δ, s, rfl, h⟩
  | n + 1, k, s, δ, hk, h => by
    have hl : k < ds.length := by omega
    obtain ⟨δ1, δ2, s2, h1, h2, h3⟩ := hs k ds[k] s δ (List.getElem?_eq_getElem hl) h
    obtain ⟨δ', s', h4, h5⟩ := for_ix R ds step hs n (k + 1) s2 δ2 (by omega) h3
    refine ⟨δ', s', ?_, h5⟩
    rw [List.drop_eq_getElem_cons hl, forN, h1]
    simp only [h2, Rs.bind_ok]
    exact h4
/-- a while that keeps a relation -/
theorem wh_rel {α : Type} {t : Dv → Rs (Bool × Dv)} {g : Dv → Rs (Fl × Dv)} (R : α → Dv → Prop) (c : α → Bool) (step : α → α) (μ : α → Nat)
    (hs : ∀ (s : α) (δ : Dv), R s δ → t δ = .ok (c s, δ) ∧ (c s = true → ∃ δ2, g δ = .ok (.nx, δ2) ∧ R (step s) δ2 ∧ μ (step s) < μ s)) : ∀ (n : Nat) (s : α) (δ : Dv), R s δ → μ s < n → ∃ s' δ', whN t g n δ = .ok (.nx, δ') ∧ R s' δ' ∧ c s' = false
  | 0, s, δ, _, h => absurd h (Nat.not_lt_zero _)
  | n + 1, s, δ, h, hn => by
    obtain ⟨h1, h2⟩ := hs s δ h
    cases hc : c s with
    | false =>
      refine ⟨s, δ, ?_, h, hc⟩
      rw [whN, h1, hc]
      simp
    | true =>
      obtain ⟨δ2, h3, h4, h5⟩ := h2 hc
      obtain ⟨s', δ', h6, h7, h8⟩ := wh_rel R c step μ hs n (step s) δ2 h4 (by omega)
      refine ⟨s', δ', ?_, h7, h8⟩
      rw [whN, h1, hc]
      simp only [Rs.bind_ok, if_true, h3]
      exact h6
/-- a def's outcome by its body's, without looking into either -/
theorem run_rt {n : Nat} {msk : Option Nat} {g : Dv → Rs (Fl × Dv)} {ds : List PyData} {d : PyData} {δ : Dv} {r : Rs (PyData × Option PyData)} (h : g (startD msk n ds) = .ok (.rt d, δ)) (ho : outD msk d δ = r) : runD n msk g ds = r := by
  unfold runD
  rw [h]
  exact ho
theorem run_nx {n : Nat} {msk : Option Nat} {g : Dv → Rs (Fl × Dv)} {ds : List PyData} {δ : Dv} {r : Rs (PyData × Option PyData)} (h : g (startD msk n ds) = .ok (.nx, δ)) (ho : outD msk .none δ = r) : runD n msk g ds = r := by
  unfold runD
  rw [h]
  exact ho
theorem run_err {n : Nat} {g : Dv → Rs (Fl × Dv)} {ds : List PyData} {c : Str} (h : g (startD none n ds) = .err c) : runD n none g ds = .err c := by
  unfold runD
  rw [h]
end Pw

set_option maxRecDepth 100000
set_option maxHeartbeats 3900000
/-! ## M2. more to reckon with -/
namespace Pw
open PySem L2
section
variable {f g fa fb fi fk fe : Dv → Rs (PyData × Dv)} {ga : Dv → Rs (List PyData × Dv)} {s1 s2 : Dv → Rs (Fl × Dv)} {δ : Dv}
def mtL (o : Option (PyData × List PyData)) (k : PyData → SV) (δ : Dv) (i : Nat) : Rs (PyData × Dv) := match o with
  | some y => .ok (y.1, δ.set i (some (k (.list y.2))))
  | none => .bad
@[simp] theorem mtL_some (y : PyData × List PyData) (k : PyData → SV) (δ : Dv) (i : Nat) : mtL (some y) k δ i = .ok (y.1, δ.set i (some (k (.list y.2)))) := (rfl)
def mtR (op : List PyData → List PyData → Option (PyData × List PyData)) (as : List PyData) (δ : Dv) (i : Nat) : Option (Option SV) → Rs (PyData × Dv)
  | some (some (.m (.list ds))) => mtL (op ds as) .m δ i
  | some (some (.a (.list ds))) => mtL (op ds as) .a δ i
  | _ => .bad
@[simp] theorem mtR_m (op : List PyData → List PyData → Option (PyData × List PyData)) (as ds : List PyData) (δ : Dv) (i : Nat) : mtR op as δ i (some (some (.m (.list ds)))) = mtL (op ds as) .m δ i := (rfl)
@[simp] theorem mtR_a (op : List PyData → List PyData → Option (PyData × List PyData)) (as ds : List PyData) (δ : Dv) (i : Nat) : mtR op as δ i (some (some (.a (.list ds)))) = mtL (op ds as) .a δ i := (rfl)
def slB : Option (Option SV) → Bool
  | some (some (.m (.list _))) => true
  | some (some (.a (.list _))) => true
  | _ => false
@[simp] theorem slB_m (ds : List PyData) : slB (some (some (.m (.list ds)))) = true := (rfl)
@[simp] theorem slB_a (ds : List PyData) : slB (some (some (.a (.list ds)))) = true := (rfl)
@[simp] theorem ev_mt (i : Nat) (op : List PyData → List PyData → Option (PyData × List PyData)) : fMt i op ga δ = if slB δ[i]? = true then (ga δ).bind fun x => mtR op x.1 x.2 i x.2[i]? else .bad := by
  have e : hasSl δ i = slB δ[i]? := by
    unfold hasSl slB
    rfl
  unfold fMt
  rw [e]
  split
  · cases ga δ with
    | ok x =>
      simp only [Rs.bind_ok]
      unfold mtR mtL
      rfl
    | _ => rfl
  · rfl
def mutB : Option (Option SV) → Bool
  | some (some s) => s.mut
  | _ => false
@[simp] theorem mutB_s (s : SV) : mutB (some (some s)) = s.mut := (rfl)
def stL (o : Option PyData) (s : SV) (δ : Dv) (i : Nat) : Rs (Fl × Dv) := match o with
  | some d => .ok (.nx, δ.set i (some (s.put d)))
  | none => .bad
@[simp] theorem stL_some (d : PyData) (s : SV) (δ : Dv) (i : Nat) : stL (some d) s δ i = .ok (.nx, δ.set i (some (s.put d))) := (rfl)
def stR (k v : PyData) (δ : Dv) (i : Nat) : Option (Option SV) → Rs (Fl × Dv)
  | some (some s) => if s.mut = true then stL (setD s.data k v) s δ i else .bad
  | _ => .bad
@[simp] theorem stR_s (k v : PyData) (δ : Dv) (i : Nat) (s : SV) : stR k v δ i (some (some s)) = if s.mut = true then stL (setD s.data k v) s δ i else .bad := (rfl)
@[simp] theorem setD_int (ds : List PyData) (j : Int) (v : PyData) : setD (.list ds) (.int j) v = (ixN ds.length j).map fun i => .list (ds.set i v) := (rfl)
@[simp] theorem ev_stL (i : Nat) : gStL i fk fe δ = (fe δ).bind fun v => if mutB v.2[i]? = true then (fk v.2).bind fun k => stR k.1 v.1 k.2 i k.2[i]? else .bad := by
  unfold gStL
  cases fe δ with
  | ok v =>
    simp only [Rs.bind_ok]
    cases h : v.2[i]? with
    | none => rfl
    | some o => cases o with
      | none => rfl
      | some s0 =>
        by_cases hm : s0.mut = true
        · rw [if_pos (show mutB (some (some s0)) = true from hm)]
          simp only [hm, if_true]
          cases fk v.2 with
          | ok k =>
            simp only [Rs.bind_ok]
            cases k.2[i]? with
            | none => rfl
            | some o => cases o <;> rfl
          | _ => rfl
        · rw [if_neg (show ¬ mutB (some (some s0)) = true from hm)]
          simp only [hm, if_false]
          rfl
  | _ => rfl
def cmL (r : Rs (PyData × Option PyData)) (s : SV) (δ : Dv) (i : Nat) : Rs (PyData × Dv) := (noErr r).bind fun y => match y.2 with
  | some e => .ok (y.1, δ.set i (some (s.put e)))
  | none => .bad
@[simp] theorem cmL_ok (d e : PyData) (s : SV) (δ : Dv) (i : Nat) : cmL (.ok (d, some e)) s δ i = .ok (d, δ.set i (some (s.put e))) := (rfl)
def cmR (S : Sm) (as : List PyData) (δ : Dv) (i : Nat) : Option (Option SV) → Rs (PyData × Dv)
  | some (some s) => if s.mut = true then cmL (S (s.data :: as)) s δ i else .bad
  | _ => .bad
@[simp] theorem cmR_s (S : Sm) (as : List PyData) (δ : Dv) (i : Nat) (s : SV) : cmR S as δ i (some (some s)) = if s.mut = true then cmL (S (s.data :: as)) s δ i else .bad := (rfl)
@[simp] theorem ev_callM (S : Sm) (i : Nat) : fCallM S i ga δ = if slotB δ[i]? = true then (ga δ).bind fun x => cmR S x.1 x.2 i x.2[i]? else .bad := by
  unfold fCallM
  cases h : δ[i]? with
  | none => rfl
  | some o => cases o with
    | none => rfl
    | some s =>
      simp only [slotB, if_true]
      cases ga δ with
      | ok x =>
        simp only [Rs.bind_ok]
        cases x.2[i]? with
        | none => rfl
        | some o => cases o <;> rfl
      | _ => rfl
@[simp] theorem ev_for (w : Dv → Rs (List PyData × Dv)) (b : PyData → Dv → Option Dv) : gFor w b s1 δ = (w δ).bind fun x => forN b s1 x.1 x.2 := (rfl)
@[simp] theorem ev_wseq : wSeq fa δ = (fa δ).bind fun x => liftL (seqOf x.1) x.2 := (rfl)
@[simp] theorem liftL_some (ds : List PyData) (δ : Dv) : liftL (some ds) δ = .ok (ds, δ) := (rfl)
@[simp] theorem seqOf_list (ds : List PyData) : seqOf (.list ds) = some ds := (rfl)
@[simp] theorem seqOf_tuple (ds : List PyData) : seqOf (.tuple ds) = some ds := (rfl)
@[simp] theorem ev_rng1 : wRng1 fa δ = (fa δ).bind fun x => onI x.1 fun j => if i62 j = true then .ok (rngD 0 j.toNat, x.2) else .bad := (rfl)
@[simp] theorem ev_rng2 : wRng2 fa fb δ = (fa δ).bind fun x => (fb x.2).bind fun y => onI x.1 fun i => onI y.1 fun j => if (i62 i && i62 j) = true then .ok (rngD i (j - i).toNat, y.2) else .bad := (rfl)
@[simp] theorem ev_lrg1 : fLrg1 fa δ = (fa δ).bind fun x => onI x.1 fun j => if rgOk 0 j = true then .ok (.list (rngD 0 j.toNat), x.2) else .bad := (rfl)
@[simp] theorem ev_zip : wZip fa fb δ = (fa δ).bind fun x => (fb x.2).bind fun y => liftL (zip2 x.1 y.1) y.2 := (rfl)
@[simp] theorem ev_pick (Ss : List Sm) : fPick Ss fi ga δ = (fi δ).bind fun x => onI x.1 fun i => if 0 ≤ i then (match Ss[i.toNat]? with | some S => fCall S ga x.2 | none => .bad) else .bad := (rfl)
@[simp] theorem ev_b2 (h : Int → Int → Int) : fB2 h fa fb δ = (fa δ).bind fun x => (fb x.2).bind fun y => lift (oI (fun _ _ => true) (fun i j => .int (h i j)) x.1 y.1) y.2 := (rfl)
@[simp] theorem oI_true (h : Int → Int → PyData) (i j : Int) : oI (fun _ _ => true) h (.int i) (.int j) = some (h i j) := (rfl)
@[simp] theorem oIsi_tuple (T : String) (ds : List PyData) : oIsi T (.tuple ds) = some (.bool (isiB T (.tuple ds))) := (rfl)
/-- isinstance of plain data -/
theorem isi_of {T : String} {d : PyData} (h : shD d = true) : oIsi T d = some (.bool (isiB T d)) := by
  cases d with
  | dict es =>
    cases es with
    | nil => rfl
    | cons _ _ => simp [shD] at h
  | _ => rfl
end
@[simp] theorem outD_none (d : PyData) (δ : Dv) : outD none d δ = .ok (d, none) := (rfl)
@[simp] theorem outD_0 (d e : PyData) (r : Dv) : outD (some 0) d (some (.a e) :: r) = .ok (d, some e) := (rfl)
/-- a whole number, no truth -/
def isW : PyData → Bool
  | .int _ => true
  | _ => false
end Pw
namespace Kc
open PySem L2 Pw
@[simp] theorem take_eq (n f : Int) (h : 0 < f) (hz : f.natAbs.log2 < 9000) : S__law_take [.list [.int n], .int f] = .ok (.int (n % f), some (.list [.int (n / f)])) := by
  unfold S__law_take runD
  rw [show startD (some 0) 3 [.list [.int n], .int f] = [some (.a (.list [.int n])), some (.v (.int f)), none] from rfl]
  simp [g__law_take, h, hz, atI, ixN]
theorem whole_eq {d : PyData} (h : shD d = true) : S__law_whole [d] = .ok (.bool (isW d), none) := by
  unfold S__law_whole runD
  rw [show startD none 1 [d] = [some (.v d)] from rfl]
  simp [g__law_whole, isi_of h]
  cases d <;> rfl
theorem is_whole_eq {d : PyData} (h : shD d = true) : S_is_whole [d] = .ok (.bool (isW d), none) := whole_eq h
theorem upto_eq {d : PyData} (h : shD d = true) (lo hi : Int) : S_is_upto [d, .int lo, .int hi] = .ok (.bool (match d with | .int i => decide (lo ≤ i ∧ i ≤ hi) | _ => false), none) := by
  unfold S_is_upto runD
  rw [show startD none 3 [d, .int lo, .int hi] = [some (.v d), some (.v (.int lo)), some (.v (.int hi))] from rfl]
  simp [g_is_upto, is_whole_eq h]
  cases d with
  | int i =>
    simp [isW]
    by_cases h1 : lo ≤ i
    · by_cases h2 : i ≤ hi
      · simp [h1, h2]
      · simp [h1, h2]
    · simp [h1]
  | _ => simp [isW]
/-- a tie of so many places -/
def tieB (m : Int) : PyData → Bool
  | .tuple [.int a, .int b] => decide (0 ≤ a ∧ a < b ∧ b < m)
  | _ => false
theorem eqv_int (a b : Int) : PyData.eqv (.int a) (.int b) = decide (a = b) := by
  rfl
theorem oNe_int (a b : Int) : oNe (.int a) (.int b) = some (.bool (!decide (a = b))) := by
  rfl
theorem oEq_int (a b : Int) : oEq (.int a) (.int b) = some (.bool (decide (a = b))) := by
  rfl
theorem is_tie_eq {d : PyData} (h : shD d = true) (m : Int) : S_is_tie [.int m, d] = .ok (.bool (tieB m d), none) := by
  unfold S_is_tie runD
  rw [show startD none 2 [.int m, d] = [some (.v (.int m)), some (.v d)] from rfl]
  cases d with
  | tuple ds =>
    match ds, h with
    | [], _ => simp [g_is_tie, isiB, tyD, oNe_int, tieB]
    | [a], _ => simp [g_is_tie, isiB, tyD, oNe_int, tieB]
    | [a, b], h =>
      have ha : shD a = true := by simp [shD, shA] at h; exact h.1
      have hb : shD b = true := by simp [shD, shA] at h; exact h.2
      simp [g_is_tie, isiB, tyD, oNe_int, atI, ixN, upto_eq ha, upto_eq hb]
      cases a with
      | int x =>
        cases b with
        | int y =>
          simp [tieB]
          by_cases h1 : 0 ≤ x ∧ x ≤ m - 1
          · by_cases h2 : 0 ≤ y ∧ y ≤ m - 1
            · simp [h1, h2]
              by_cases h3 : x < y
              · have : y < m := by omega
                simp [h3, this]
              · simp [h3]
            · have : ¬ (x < y ∧ y < m) := by omega
              simp [h1, h2]
              omega
          · have : ¬ (0 ≤ x ∧ x < y ∧ y < m) := by omega
            simp [h1]
            omega
        | _ => simp [tieB] <;> split <;> simp
      | _ => simp [tieB]
    | a :: b :: c :: r, _ =>
      have e : ¬ ((r.length : Int) + 1 + 1 + 1 = 2) := by omega
      simp [g_is_tie, isiB, tyD, oNe_int, tieB, e]
  | dict es =>
    simp [g_is_tie, isi_of h, isiB, tyD, tieB]
  | _ => simp [g_is_tie, oIsi, isiB, tyD, tieB]
end Kc

set_option maxRecDepth 100000
set_option maxHeartbeats 3900000
/-! ## M3. what hangs together -/
namespace Gr
open PySem L2 Pw
abbrev Ts := List (Int × Int)
def Adj (ps : Ts) (a b : Int) : Prop := (a, b) ∈ ps ∨ (b, a) ∈ ps
inductive Rch (ps : Ts) (f : Int) : Int → Prop
  | base : Rch ps f f
  | step {x y : Int} : Rch ps f x → Adj ps x y → Rch ps f y
/-- all places lie below m -/
def Bd (m : Nat) (ps : Ts) : Prop := ∀ p ∈ ps, 0 ≤ p.1 ∧ p.1 < m ∧ 0 ≤ p.2 ∧ p.2 < m
theorem Rch.bd {m : Nat} {ps : Ts} {f x : Int} (hb : Bd m ps) (hf : 0 ≤ f ∧ f < m) (h : Rch ps f x) : 0 ≤ x ∧ x < m := by
  cases h with
  | base => exact hf
  | step _ a =>
    rcases a with a | a
    · have := hb _ a; exact ⟨this.2.2.1, this.2.2.2⟩
    · have := hb _ a; exact ⟨this.1, this.2.1⟩
/-- so many different numbers below m -/
theorem few {m : Nat} {l : List Int} (hn : l.Nodup) (hb : ∀ x ∈ l, 0 ≤ x ∧ x < m) : l.length ≤ m := by
  have h1 : (l.map Int.toNat).Nodup := by
    refine List.pairwise_map.mpr (List.Pairwise.imp_of_mem (fun {a b} ha hb' hne z => hne ?_) hn)
    have := hb a ha; have := hb b hb'
    omega
  have h2 := L2.nat_nodup_len (l.map Int.toNat) (List.range m) h1 fun x hx => by
    (obtain ⟨y, hy, rfl⟩ := List.mem_map.mp hx)
    have := hb y hy
    rw [List.mem_range]
    omega
  rwa [List.length_map, List.length_range] at h2
/-- the numbers below m -/
def upTo (m : Nat) : List Int := (List.range m).map fun (i : Nat) => (i : Int)
theorem mem_upTo {m : Nat} {x : Int} : x ∈ upTo m ↔ 0 ≤ x ∧ x < m := by
  unfold upTo
  rw [List.mem_map]
  constructor
  · rintro ⟨i, hi, rfl⟩
    rw [List.mem_range] at hi
    omega
  · intro h
    exact ⟨x.toNat, by rw [List.mem_range]; omega, by omega⟩
theorem nodup_upTo (m : Nat) : (upTo m).Nodup := List.pairwise_map.mpr (List.Pairwise.imp (fun {a b} (h : a ≠ b) z => h (Int.ofNat.inj z)) List.nodup_range)
theorem sorted_upTo (m : Nat) : (upTo m).Pairwise (· ≤ ·) := List.pairwise_map.mpr (List.Pairwise.imp (fun {a b} h => by omega) List.pairwise_lt_range)
/-- as many as there are: all -/
theorem full {m : Nat} {l : List Int} (hn : l.Nodup) (hb : ∀ x ∈ l, 0 ≤ x ∧ x < m) : l.length = m ↔ srtI l = upTo m := by
  constructor
  · intro h
    have all : ∀ x ∈ upTo m, x ∈ l := fun x hx => by
      by_cases hx' : x ∈ l
      · exact hx'
      · exfalso
        have hx2 := mem_upTo.mp hx
        have h1 : (x :: l).Nodup := List.nodup_cons.mpr ⟨hx', hn⟩
        have h2 := few (m := m) h1 fun y hy => by
          (rcases List.mem_cons.mp hy with e | hy)
          · rw [e]; exact hx2
          · exact hb y hy
        rw [List.length_cons] at h2
        omega
    have p : (upTo m).Perm l := (List.perm_ext_iff_of_nodup (nodup_upTo m) hn).mpr fun x => ⟨all x, fun hx => mem_upTo.mpr (hb x hx)⟩
    exact (srtI_of p (sorted_upTo m)).symm
  · intro h
    have p : (srtI l).Perm l := isrt_perm l
    have := p.length_eq
    rw [h] at this
    rw [← this]
    unfold upTo
    (rw [List.length_map, List.length_range])
/-! ### a search from a place on -/
def st1 (c : Int) (found : List Int) (p : Int × Int) : List Int := if p.1 = c ∧ p.2 ∉ found then found ++ [p.2] else found
def st2 (c : Int) (found : List Int) (p : Int × Int) : List Int := if p.2 = c ∧ p.1 ∉ found then found ++ [p.1] else found
def rstep (c : Int) (found : List Int) (p : Int × Int) : List Int := st2 c (st1 c found p) p
/-- what has been found -/
structure Fnd (ps : Ts) (f : Int) (l : List Int) : Prop where
  nd : l.Nodup
  has : f ∈ l
  rch : ∀ x ∈ l, Rch ps f x
theorem Fnd.snoc {ps : Ts} {f x : Int} {l : List Int} (h : Fnd ps f l) (hx : x ∉ l) (r : Rch ps f x) : Fnd ps f (l ++ [x]) := by
  refine ⟨?_, List.mem_append_left _ h.has, fun y hy => ?_⟩
  · rw [List.nodup_append]
    refine ⟨h.nd, List.pairwise_singleton _ _, fun a ha b hb z => ?_⟩
    rw [List.mem_singleton] at hb
    subst z hb
    exact hx ha
  · rcases List.mem_append.mp hy with hy | hy
    · exact h.rch y hy
    · rw [List.mem_singleton.mp hy]; exact r
theorem rstep_sub {c : Int} {l : List Int} {p : Int × Int} : ∃ r, rstep c l p = l ++ r := by
  unfold rstep st2 st1
  split <;> split <;> first
    | exact ⟨[], (List.append_nil _).symm⟩
    | exact ⟨_, rfl⟩
    | exact ⟨_, List.append_assoc _ _ _⟩
theorem rstep_fnd {ps : Ts} {f c : Int} {l : List Int} {p : Int × Int} (hp : p ∈ ps) (hc : Rch ps f c) (h : Fnd ps f l) : Fnd ps f (rstep c l p) := by
  have h1 : Fnd ps f (st1 c l p) := by
    unfold st1
    split
    · rename_i z
      exact h.snoc z.2 (.step hc (.inl (by rw [← z.1]; exact hp)))
    · exact h
  unfold rstep st2
  split
  · rename_i z
    exact h1.snoc z.2 (.step hc (.inr (by rw [← z.1]; exact hp)))
  · exact h1
theorem rstep_has {c : Int} {l : List Int} {p : Int × Int} : (p.1 = c → p.2 ∈ rstep c l p) ∧ (p.2 = c → p.1 ∈ rstep c l p) := by
  unfold rstep st2
  have m1 : p.1 = c → p.2 ∈ st1 c l p := fun e => by
    unfold st1
    by_cases h : p.2 ∈ l
    · rw [if_neg (fun z => z.2 h)]; exact h
    · rw [if_pos ⟨e, h⟩]; exact List.mem_append_right _ List.mem_cons_self
  constructor
  · intro e
    split
    · exact List.mem_append_left _ (m1 e)
    · exact m1 e
  · intro e
    by_cases h : p.1 ∈ st1 c l p
    · rw [if_neg (fun z => z.2 h)]; exact h
    · rw [if_pos ⟨e, h⟩]; exact List.mem_append_right _ List.mem_cons_self
/-- one pass over the ties -/
theorem pass {ps0 : Ts} {f c : Int} (hc : Rch ps0 f c) : ∀ (ps : Ts) (l : List Int), (∀ p ∈ ps, p ∈ ps0) → Fnd ps0 f l → Fnd ps0 f (ps.foldl (rstep c) l) ∧ (∃ r, ps.foldl (rstep c) l = l ++ r) ∧ ∀ p ∈ ps, (p.1 = c → p.2 ∈ ps.foldl (rstep c) l) ∧ (p.2 = c → p.1 ∈ ps.foldl (rstep c) l)
  | [], l, _, h => ⟨h, ⟨[], (List.append_nil _).symm⟩, fun p hp => absurd hp List.not_mem_nil⟩
  | p :: ps, l, hs, h => by
    obtain ⟨r1, e1⟩ := rstep_sub (c := c) (l := l) (p := p)
    obtain ⟨h1, ⟨r2, e2⟩, h3⟩ := pass hc ps (rstep c l p) (fun q hq => hs q (List.mem_cons_of_mem _ hq)) (rstep_fnd (hs p List.mem_cons_self) hc h)
    rw [List.foldl_cons]
    refine ⟨h1, ⟨r1 ++ r2, by rw [e2, e1, List.append_assoc]⟩, fun q hq => ?_⟩
    rcases List.mem_cons.mp hq with e | hq
    · subst e
      have := rstep_has (c := c) (l := l) (p := q)
      rw [e2]
      exact ⟨fun z => List.mem_append_left _ (this.1 z), fun z => List.mem_append_left _ (this.2 z)⟩
    · exact h3 q hq
/-- closed: all is found -/
theorem closed {ps : Ts} {f : Int} {l : List Int} (h : Fnd ps f l) (hc : ∀ x ∈ l, ∀ y, Adj ps x y → y ∈ l) : ∀ x, x ∈ l ↔ Rch ps f x := fun x => by
  refine ⟨h.rch x, fun r => ?_⟩
  induction r with
  | base => exact h.has
  | step _ a ih => exact hc _ ih _ a
/-! ### by turns -/
def mstep (found : List Int) (p : Int × Int) : List Int := if p.1 ∈ found ∨ p.2 ∈ found then found ++ [p.1, p.2].filter (fun x => decide (x ∉ found)) else found
theorem mstep_sub {l : List Int} {p : Int × Int} : ∃ r, mstep l p = l ++ r := by
  unfold mstep
  split
  · exact ⟨_, rfl⟩
  · exact ⟨[], (List.append_nil _).symm⟩
theorem mstep_fnd {ps : Ts} {f : Int} {l : List Int} {p : Int × Int} (hp : p ∈ ps) (hne : p.1 ≠ p.2) (h : Fnd ps f l) : Fnd ps f (mstep l p) := by
  unfold mstep
  split
  · rename_i z
    have r1 : Rch ps f p.1 := by
      rcases z with z | z
      · exact h.rch _ z
      · exact .step (h.rch _ z) (.inr hp)
    have r2 : Rch ps f p.2 := by
      rcases z with z | z
      · exact .step (h.rch _ z) (.inl hp)
      · exact h.rch _ z
    by_cases h1 : p.1 ∈ l <;> by_cases h2 : p.2 ∈ l
    · simp [h1, h2]; exact h
    · simp [h1, h2]; exact h.snoc h2 r2
    · simp [h1, h2]; exact h.snoc h1 r1
    · exact absurd z (by simp [h1, h2])
  · exact h
theorem mstep_eq {l : List Int} {p : Int × Int} (h : mstep l p = l) : (p.1 ∈ l → p.2 ∈ l) ∧ (p.2 ∈ l → p.1 ∈ l) := by
  unfold mstep at h
  by_cases h1 : p.1 ∈ l <;> by_cases h2 : p.2 ∈ l
  · exact ⟨fun _ => h2, fun _ => h1⟩
  · simp [h1, h2] at h
  · simp [h1, h2] at h
  · exact ⟨fun z => absurd z h1, fun z => absurd z h2⟩
def turn (ps : Ts) (l : List Int) : List Int := ps.foldl mstep l
theorem turn_fnd {ps0 : Ts} {f : Int} (hne : ∀ p ∈ ps0, p.1 ≠ p.2) : ∀ (ps : Ts) (l : List Int), (∀ p ∈ ps, p ∈ ps0) → Fnd ps0 f l → Fnd ps0 f (turn ps l)
  | [], _, _, h => h
  | p :: ps, l, hs, h => turn_fnd hne ps _ (fun q hq => hs q (List.mem_cons_of_mem _ hq)) (mstep_fnd (hs p List.mem_cons_self) (hne p (hs p List.mem_cons_self)) h)
theorem turn_sub : ∀ (ps : Ts) (l : List Int), ∃ r, turn ps l = l ++ r
  | [], l => ⟨[], (List.append_nil _).symm⟩
  | p :: ps, l => by
    obtain ⟨r1, e1⟩ := mstep_sub (l := l) (p := p)
    obtain ⟨r2, e2⟩ := turn_sub ps (mstep l p)
    refine ⟨r1 ++ r2, ?_⟩
    show turn ps (mstep l p) = _
    rw [e2, e1, List.append_assoc]
/-- a turn that finds nothing: closed -/
theorem turn_eq : ∀ (ps : Ts) (l : List Int), turn ps l = l → ∀ p ∈ ps, (p.1 ∈ l → p.2 ∈ l) ∧ (p.2 ∈ l → p.1 ∈ l)
  | [], _, _, p, hp => absurd hp List.not_mem_nil
  | q :: ps, l, h, p, hp => by
    obtain ⟨r1, e1⟩ := mstep_sub (l := l) (p := q)
    obtain ⟨r2, e2⟩ := turn_sub ps (mstep l q)
    have h' : turn ps (mstep l q) = l := h
    rw [e2, e1, List.append_assoc] at h'
    have z : r1 ++ r2 = [] := by
      have := congrArg List.length h'
      rw [List.length_append] at this
      (exact List.length_eq_zero_iff.mp (by omega))
    have z1 : r1 = [] := (List.append_eq_nil_iff.mp z).1
    have e3 : mstep l q = l := by rw [e1, z1, List.append_nil]
    (rcases List.mem_cons.mp hp with e | hp)
    · subst e; exact mstep_eq e3
    · refine turn_eq ps l ?_ p hp
      have h2 : turn ps (mstep l q) = l := h
      rw [e3] at h2
      exact h2
def turns (ps : Ts) : Nat → List Int → List Int
  | 0, l => l
  | n + 1, l => turns ps n (turn ps l)
theorem turns_fnd {ps : Ts} {f : Int} (hne : ∀ p ∈ ps, p.1 ≠ p.2) : ∀ (n : Nat) (l : List Int), Fnd ps f l → Fnd ps f (turns ps n l)
  | 0, _, h => h
  | n + 1, l, h => turns_fnd hne n _ (turn_fnd hne ps l (fun _ z => z) h)
theorem turns_same {ps : Ts} {l : List Int} (h : turn ps l = l) : ∀ n, turns ps n l = l
  | 0 => rfl
  | n + 1 => by rw [turns, h]; exact turns_same h n
/-- it grows until it is closed -/
theorem turns_grow {ps : Ts} : ∀ (n : Nat) (l : List Int), turn ps (turns ps n l) = turns ps n l ∨ l.length + n ≤ (turns ps n l).length
  | 0, l => .inr (Nat.le_refl _)
  | n + 1, l => by
    by_cases h : turn ps l = l
    · left
      rw [turns, h, turns_same h]
      exact h
    · obtain ⟨r, e⟩ := turn_sub ps l
      have hr : 1 ≤ r.length := by
        cases r with
        | nil => rw [List.append_nil] at e; exact absurd e h
        | cons _ _ => simp
      rcases turns_grow n (turn ps l) with z | z
      · exact .inl z
      · refine .inr ?_
        rw [turns]
        rw [e, List.length_append] at z
        rw [e]
        omega
theorem turns_all {m : Nat} {ps : Ts} {f : Int} (hne : ∀ p ∈ ps, p.1 ≠ p.2) (hb : Bd m ps) (hf : 0 ≤ f ∧ f < m) : Fnd ps f (turns ps m [f]) ∧ ∀ x, x ∈ turns ps m [f] ↔ Rch ps f x := by
  have h0 : Fnd ps f [f] := ⟨List.pairwise_singleton _ _, List.mem_cons_self, fun x hx => by rw [List.mem_singleton.mp hx]; exact .base⟩
  have h := turns_fnd hne m [f] h0
  refine ⟨h, closed h fun x hx y a => ?_⟩
  have cl : turn ps (turns ps m [f]) = turns ps m [f] := by
    rcases turns_grow (ps := ps) m [f] with z | z
    · exact z
    · exfalso
      have := few (m := m) h.nd fun x hx => (h.rch x hx).bd hb hf
      rw [List.length_singleton] at z
      omega
  rcases a with a | a
  · exact (turn_eq ps _ cl _ a).1 hx
  · exact (turn_eq ps _ cl _ a).2 hx
/-- the same places: sorted they are one list -/
theorem srt_same {l l' : List Int} (h : l.Nodup) (h' : l'.Nodup) (e : ∀ x, x ∈ l ↔ x ∈ l') : srtI l = srtI l' := by
  have p : l.Perm l' := (List.perm_ext_iff_of_nodup h h').mpr e
  exact srtI_of ((isrt_perm l).trans p) (by
    have := isrt_sorted (le := leI) (fun a b => by simp only [leI, decide_eq_true_eq]; omega) (fun a b c h1 h2 => by simp only [leI, decide_eq_true_eq] at *; omega) l
    exact this.imp fun {a b} z => by simpa [leI] using z)
end Gr

set_option maxRecDepth 100000
set_option maxHeartbeats 3900000
/-! ## M4. the searches of the text -/
namespace Pw
open PySem L2
theorem eqv_int' (a b : Int) : PyData.eqv (.int a) (.int b) = decide (a = b) := rfl
theorem okD_int (a : Int) : okD (.int a) = true := rfl
theorem plain_ints : ∀ l : List Int, PyData.plainAll (l.map PyData.int) = true
  | [] => rfl
  | _ :: r => plain_ints r
theorem any_int (y : Int) : ∀ l : List Int, ((l.map PyData.int).any fun z => PyData.eqv z (.int y)) = decide (y ∈ l)
  | [] => rfl
  | x :: l => by
    rw [List.map_cons, List.any_cons, any_int y l, eqv_int']
    by_cases h : x = y
    · simp [h]
    · have : ¬ y = x := fun z => h z.symm
      simp [h, this]
theorem in_list (y : Int) (l : List Int) : oIn (.int y) (.list (l.map .int)) = some (.bool (decide (y ∈ l))) := by
  unfold oIn inD
  simp only [okD_int, plain_ints, any_int, Bool.and_self, if_true, Option.map_some]
theorem nin_list (y : Int) (l : List Int) : oNin (.int y) (.list (l.map .int)) = some (.bool (!decide (y ∈ l))) := by
  unfold oNin inD
  simp only [okD_int, plain_ints, any_int, Bool.and_self, if_true, Option.map_some]
def prOf : PyData → Int × Int
  | .tuple [.int a, .int b] => (a, b)
  | _ => (0, 0)
@[simp] theorem prOf_pair (p : Int × Int) : prOf (pairD p) = p := (rfl)
theorem foldl_pairs {α : Type} (h : α → Int × Int → α) : ∀ (ps : List (Int × Int)) (s : α), (ps.map pairD).foldl (fun s d => h s (prOf d)) s = ps.foldl h s
  | [], _ => rfl
  | p :: ps, s => foldl_pairs h ps (h s p)
theorem sort_ints (l : List Int) : oSortA (.list (l.map .int)) = some (.list ((srtI l).map .int)) := by
  simp only [oSortA, sortD, ints_self]
  rfl
end Pw
namespace Kc
open PySem L2 Pw Gr
def rShape (td : PyData) (f : Int) (l : List Int) (k : Nat) (δ : Dv) : Prop := ∃ x4 x5, δ = [some (.v td), some (.v (.int f)), some (.m (.list (l.map .int))), some (.v (.int k)), x4, x5] ∧ freeB (some x4) = true ∧ freeB (some x5) = true
theorem reached_eq {m : Nat} {ps : Ts} {f : Int} {td : PyData} (htd : seqOf td = some (ps.map pairD)) (hm : m ≤ 30) (hb : Bd m ps) (hf : 0 ≤ f ∧ f < m) :
    ∃ l, Fnd ps f l ∧ (∀ x, x ∈ l ↔ Rch ps f x) ∧ S_reached [td, .int f] = .ok (.tuple ((srtI l).map .int), none) := by
  let R : List Int × Nat → Dv → Prop := fun s δ => rShape td f s.1 s.2 δ ∧ Fnd ps f s.1 ∧ s.2 ≤ s.1.length ∧ ∀ (i : Nat) (x : Int), i < s.2 → s.1[i]? = some x → ∀ y, Adj ps x y → y ∈ s.1
  have lim : ∀ l, Fnd ps f l → l.length ≤ m := fun l h => few h.nd fun x hx => (h.rch x hx).bd hb hf
  obtain ⟨s', δ', hw, hR, hc⟩ := wh_rel (t := fT (f2 oLtA (fVar 3) (f1 oLen (fBar 2)))) (g := (gSeq (gFor (wSeq (fVar 0)) (bTup [(bName 4), (bName 5)]) (gSeq (gIf (fAndT (fT (f2 oEq (fVar 4) (fIxv 2 (fVar 3)))) (fT (f2 oNin (fVar 5) (fBar 2)))) (gDrop (fMt 2 mApp (aCons (fVar 5) aNil))) gNx) (gIf (fAndT (fT (f2 oEq (fVar 5) (fIxv 2 (fVar 3)))) (fT (f2 oNin (fVar 4) (fBar 2)))) (gDrop (fMt 2 mApp (aCons (fVar 4) aNil))) gNx))) (gSet 3 (f2 oAdd (fVar 3) (fC (.int 1))))))
    R (fun s => decide (s.2 < s.1.length)) (fun s => (ps.foldl (rstep (s.1.getD s.2 0)) s.1, s.2 + 1)) (fun s => m - s.2) (fun s δ hR => by
      obtain ⟨⟨x4, x5, rfl, f4, f5⟩, hF, hk, hcl⟩ := hR
      refine ⟨by simp, fun hlt => ?_⟩
      have hlt' : s.2 < s.1.length := of_decide_eq_true hlt
      have hcx : s.1[s.2]? = some (s.1.getD s.2 0) := by rw [List.getD_eq_getElem?_getD, List.getElem?_eq_getElem hlt']; rfl
      have hrc : Rch ps f (s.1.getD s.2 0) := hF.rch _ (List.mem_of_getElem? hcx)
      generalize s.1.getD s.2 0 = c at hcx hrc
      obtain ⟨δ2, h1, ⟨⟨y4, y5, rfl, g4, g5⟩, hF2, hc2⟩⟩ := for_rel (b := bTup [(bName 4), (bName 5)]) (g := (gSeq (gIf (fAndT (fT (f2 oEq (fVar 4) (fIxv 2 (fVar 3)))) (fT (f2 oNin (fVar 5) (fBar 2)))) (gDrop (fMt 2 mApp (aCons (fVar 5) aNil))) gNx) (gIf (fAndT (fT (f2 oEq (fVar 5) (fIxv 2 (fVar 3)))) (fT (f2 oNin (fVar 4) (fBar 2)))) (gDrop (fMt 2 mApp (aCons (fVar 4) aNil))) gNx)))
        (fun (l : List Int) δ => rShape td f l s.2 δ ∧ Fnd ps f l ∧ l[s.2]? = some c) (fun l d => rstep c l (prOf d)) (ds := ps.map pairD) (s := s.1) (δ := [some (.v td), some (.v (.int f)), some (.m (.list (s.1.map .int))), some (.v (.int s.2)), x4, x5]) (fun d hd l δ hl => by
          obtain ⟨p, hp, rfl⟩ := List.mem_map.mp hd
          obtain ⟨⟨z4, z5, rfl, e4, e5⟩, hFl, hcl⟩ := hl
          have hsz : l.length < sizeLine := by have := lim l hFl; rw [PySem.sizeLine_eq]; omega
          have hat : ∀ r, (l ++ r)[s.2]? = some c := fun r => by rw [List.getElem?_append_left (List.getElem?_eq_some_iff.mp hcl).1]; exact hcl
          have hsz1 : (st1 c l p).length < sizeLine := by
            have : (st1 c l p).length ≤ l.length + 1 := by unfold st1; split <;> simp
            have := lim l hFl
            rw [PySem.sizeLine_eq]; omega
          have hF1 := rstep_fnd hp (hFl.rch c (List.mem_of_getElem? hcl)) hFl
          have hat1 : (rstep c l p)[s.2]? = some c := by
            obtain ⟨r, e⟩ := rstep_sub (c := c) (l := l) (p := p)
            rw [e]; exact hat r
          have i0 : atI (l.map PyData.int) (s.2 : Int) = some (.int c) := atI_nat (by rw [List.getElem?_map, hcl]; rfl)
          have i1 : atI ((st1 c l p).map PyData.int) (s.2 : Int) = some (.int c) := atI_nat (by
            rw [List.getElem?_map]
            have : (st1 c l p)[s.2]? = some c := by
              unfold st1
              split
              · exact hat _
              · exact hcl
            rw [this]; rfl)
          refine ⟨[some (.v td), some (.v (.int f)), some (.m (.list (l.map .int))), some (.v (.int s.2)), some (.v (.int p.1)), some (.v (.int p.2))], [some (.v td), some (.v (.int f)), some (.m (.list ((rstep c l p).map .int))), some (.v (.int s.2)), some (.v (.int p.1)), some (.v (.int p.2))], ?_, ?_, ⟨_, _, rfl, rfl, rfl⟩, hF1, hat1⟩
          · simp [pairD, e4, e5]
          · have s1 : (gIf (fAndT (fT (f2 oEq (fVar 4) (fIxv 2 (fVar 3)))) (fT (f2 oNin (fVar 5) (fBar 2)))) (gDrop (fMt 2 mApp (aCons (fVar 5) aNil))) gNx) [some (.v td), some (.v (.int f)), some (.m (.list (l.map .int))), some (.v (.int s.2)), some (.v (.int p.1)), some (.v (.int p.2))] = .ok (.nx, [some (.v td), some (.v (.int f)), some (.m (.list ((st1 c l p).map .int))), some (.v (.int s.2)), some (.v (.int p.1)), some (.v (.int p.2))]) := by
              unfold st1
              by_cases a1 : p.1 = c <;> by_cases a2 : p.2 ∈ l <;> simp [i0, oEq_int, nin_list, a1, a2, mApp, hsz]
            have s2 : (gIf (fAndT (fT (f2 oEq (fVar 5) (fIxv 2 (fVar 3)))) (fT (f2 oNin (fVar 4) (fBar 2)))) (gDrop (fMt 2 mApp (aCons (fVar 4) aNil))) gNx) [some (.v td), some (.v (.int f)), some (.m (.list ((st1 c l p).map .int))), some (.v (.int s.2)), some (.v (.int p.1)), some (.v (.int p.2))] = .ok (.nx, [some (.v td), some (.v (.int f)), some (.m (.list ((rstep c l p).map .int))), some (.v (.int s.2)), some (.v (.int p.1)), some (.v (.int p.2))]) := by
              unfold rstep st2
              by_cases a1 : p.2 = c <;> by_cases a2 : p.1 ∈ st1 c l p <;> simp [i1, oEq_int, nin_list, a1, a2, mApp, hsz1]
            rw [ev_seq, s1]
            exact s2) ⟨⟨x4, x5, rfl, f4, f5⟩, hF, hcx⟩
      rw [foldl_pairs] at hF2 hc2 h1
      refine ⟨_, ?_, ⟨⟨y4, y5, rfl, g4, g5⟩, ?_⟩, ?_⟩
      · rw [ev_seq, ev_for, ev_wseq]
        simp only [ev_var, List.getElem?_cons_zero, varR_v, Rs.bind_ok, htd, liftL_some]
        rw [h1]
        simp
      · obtain ⟨q1, ⟨r, q2⟩, q3⟩ := pass hrc ps s.1 (fun _ z => z) hF
        refine ⟨q1, by rw [q2, List.length_append]; omega, fun i x hi hx y a => ?_⟩
        rw [q2] at hx
        by_cases hi2 : i < s.2
        · rw [List.getElem?_append_left (by omega)] at hx
          rw [q2]
          exact List.mem_append_left _ (hcl i x hi2 hx y a)
        · have : i = s.2 := by omega
          subst this
          rw [List.getElem?_append_left hlt', hcx] at hx
          cases hx
          rcases a with a | a
          · exact (q3 _ a).1 rfl
          · exact (q3 _ a).2 rfl
      · have := lim s.1 hF
        show m - (s.2 + 1) < m - s.2
        omega) 40 ([f], 0) [some (.v td), some (.v (.int f)), some (.m (.list [.int f])), some (.v (.int 0)), none, none]
    ⟨⟨none, none, rfl, rfl, rfl⟩, ⟨List.pairwise_singleton _ _, List.mem_cons_self, fun x hx => by rw [List.mem_singleton.mp hx]; exact .base⟩, Nat.zero_le _, fun i x hi => absurd hi (Nat.not_lt_zero _)⟩ (by show m - 0 < 40; omega)
  obtain ⟨⟨x4, x5, rfl, _, _⟩, hF, hk, hcl⟩ := hR
  have hge : s'.1.length ≤ s'.2 := Nat.not_lt.mp (of_decide_eq_false hc)
  refine ⟨s'.1, hF, closed hF fun x hx y a => ?_, ?_⟩
  · obtain ⟨i, hi, e⟩ := List.mem_iff_getElem.mp hx
    exact hcl i x (by omega) (by rw [List.getElem?_eq_getElem hi, e]) y a
  · unfold S_reached runD
    rw [show startD none 6 [td, .int f] = [some (.v td), some (.v (.int f)), none, none, none, none] from rfl]
    have h0 : (gSetO 2 (fLst (aCons (fVar 1) aNil))) [some (.v td), some (.v (.int f)), none, none, none, none] = .ok (.nx, [some (.v td), some (.v (.int f)), some (.m (.list [.int f])), none, none, none]) := by simp [PySem.sizeLine_eq]
    have h1 : (gSet 3 (fC (.int 0))) [some (.v td), some (.v (.int f)), some (.m (.list [.int f])), none, none, none] = .ok (.nx, [some (.v td), some (.v (.int f)), some (.m (.list [.int f])), some (.v (.int 0)), none, none]) := by simp
    unfold g_reached
    rw [ev_seq, h0]
    simp only [Rs.bind_ok, Fl.on_nx]
    rw [ev_seq, h1]
    simp only [Rs.bind_ok, Fl.on_nx]
    rw [ev_seq, hw]
    simp [sort_ints]
end Kc

set_option maxRecDepth 100000
set_option maxHeartbeats 3900000
/-! ## M5. the law's search, a tie as the law sees it -/
namespace Pw
open PySem L2
/-- empty or data that stays -/
def isV : Option SV → Bool
  | none => true
  | some (.v _) => true
  | _ => false
theorem isV_free {x : Option SV} (h : isV x = true) : freeB (some x) = true := by
  cases x with
  | none => rfl
  | some s => cases s <;> first | rfl | cases h
theorem isV_anch {x : Option SV} (h : isV x = true) : Option.map anch1 x = x := by
  cases x with
  | none => rfl
  | some s => cases s <;> first | rfl | cases h
theorem rngD_up (m : Nat) : rngD 0 m = (Gr.upTo m).map .int := by
  unfold rngD Gr.upTo
  rw [List.map_map]
  (refine List.map_congr_left fun i _ => ?_)
  show PyData.int (0 + (i : Int)) = PyData.int (i : Int)
  rw [Int.zero_add]
theorem i62_small {j : Int} (h0 : 0 ≤ j) (h1 : j ≤ 1000000) : i62 j = true := by
  unfold i62
  (simp only [Bool.and_eq_true, decide_eq_true_eq])
  omega
/-- all of a row of truths -/
theorem all_bools (p : PyData → Bool) : ∀ ds : List PyData, oAll (.list (ds.map fun d => .bool (p d))) = some (.bool (ds.all p))
  | [] => rfl
  | d :: ds => by
    have ih := all_bools p ds
    unfold oAll at ih ⊢
    simp only [List.map_cons, bls?] at ih ⊢
    cases h : bls? (ds.map fun d => .bool (p d)) with
    | none => rw [h] at ih; cases ih
    | some bs =>
      rw [h] at ih
      simp only [Option.map_some, Option.some.injEq, PyData.bool.injEq] at ih ⊢
      rw [List.all_cons, List.all_cons, ih]
      rfl
end Pw
namespace Kc
open PySem L2 Pw Gr
def mShape (m : Nat) (td : PyData) (f : Int) (l : List Int) (δ : Dv) : Prop := ∃ x4 x5 x6, δ = [some (.v (.int m)), some (.v td), some (.v (.int f)), some (.v (.list (l.map .int))), x4, x5, x6, none] ∧ isV x4 = true ∧ isV x5 = true ∧ isV x6 = true
theorem filter_ints (l : List Int) (p : Int × Int) : (([PyData.int p.1, .int p.2].filter fun d => match d with | .int i => !decide (i ∈ l) | _ => false).map id) = ([p.1, p.2].filter fun x => decide (x ∉ l)).map PyData.int := by
  by_cases h1 : p.1 ∈ l <;> by_cases h2 : p.2 ∈ l <;> simp [h1, h2, List.filter]
theorem met_step (m : Nat) (td : PyData) (f : Int) (l : List Int) (p : Int × Int) (δ : Dv) (hl : l.length ≤ 1000) (h : mShape m td f l δ) : ∃ δ1 δ2, bTup [(bName 5), (bName 6)] (pairD p) δ = some δ1 ∧
    (gIf (fOrT (fT (f2 oIn (fVar 5) (fBar 3))) (fT (f2 oIn (fVar 6) (fBar 3)))) (gSet 3 (f2 oAdd (fVar 3) (fLc [7] (wSeq (fTup (aCons (fVar 5) (aCons (fVar 6) aNil)))) (bName 7) (fT (f2 oNin (fVar 7) (fBar 3))) (fVar 7)))) gNx) δ1 = .ok (.nx, δ2) ∧ mShape m td f (mstep l p) δ2 := by
  obtain ⟨x4, x5, x6, rfl, v4, v5, v6⟩ := h
  refine ⟨[some (.v (.int m)), some (.v td), some (.v (.int f)), some (.v (.list (l.map .int))), x4, some (.v (.int p.1)), some (.v (.int p.2)), none], [some (.v (.int m)), some (.v td), some (.v (.int f)), some (.v (.list ((mstep l p).map .int))), x4, some (.v (.int p.1)), some (.v (.int p.2)), none], ?_, ?_, x4, _, _, rfl, v4, rfl, rfl⟩
  · simp [pairD, isV_free v5, isV_free v6]
  · have lc : fLc [7] (wSeq (fTup (aCons (fVar 5) (aCons (fVar 6) aNil)))) (bName 7) (fT (f2 oNin (fVar 7) (fBar 3))) (fVar 7) [some (.v (.int m)), some (.v td), some (.v (.int f)), some (.v (.list (l.map .int))), x4, some (.v (.int p.1)), some (.v (.int p.2)), none] =
        .ok (.list (([p.1, p.2].filter fun x => decide (x ∉ l)).map PyData.int), [some (.v (.int m)), some (.v td), some (.v (.int f)), some (.v (.list (l.map .int))), x4, some (.v (.int p.1)), some (.v (.int p.2)), none]) := by
      rw [← filter_ints l p]
      refine lc_pure (x := ([.int p.1, .int p.2], [some (.v (.int m)), some (.v td), some (.v (.int f)), some (.v (.list (l.map .int))), x4, some (.v (.int p.1)), some (.v (.int p.2)), none])) (by simp [PySem.sizeLine_eq]) (by simp [PySem.sizeLine_eq]) fun d hd => ?_
      have e0 : anchD (wipeD [some (.v (.int m)), some (.v td), some (.v (.int f)), some (.v (.list (l.map .int))), x4, some (.v (.int p.1)), some (.v (.int p.2)), none] [7]) = [some (.v (.int m)), some (.v td), some (.v (.int f)), some (.v (.list (l.map .int))), x4, some (.v (.int p.1)), some (.v (.int p.2)), none] := by
        simp [anchD, wipeD, isV_anch v4, anch1]
      obtain ⟨i, rfl⟩ : ∃ i, d = .int i := by
        rcases List.mem_cons.mp hd with e | hd
        · exact ⟨_, e⟩
        · exact ⟨_, List.mem_singleton.mp hd⟩
      simp only [e0]
      refine ⟨[some (.v (.int m)), some (.v td), some (.v (.int f)), some (.v (.list (l.map .int))), x4, some (.v (.int p.1)), some (.v (.int p.2)), some (.v (.int i))], by simp, by simp [nin_list], fun _ => by simp, by simp [wipeD]⟩
    have hz : ∀ r : List Int, r.length ≤ 2 → (l.map PyData.int).length + (r.map PyData.int).length ≤ sizeLine := fun r hr => by rw [List.length_map, List.length_map, PySem.sizeLine_eq]; omega
    have hfl : ([p.1, p.2].filter fun x => decide (x ∉ l)).length ≤ 2 := List.length_filter_le _ _
    unfold mstep
    by_cases h1 : p.1 ∈ l
    · simp [in_list, h1, lc]
      rw [if_pos (by have := hz _ hfl; simpa [h1] using this)]
      simp [h1]
    · by_cases h2 : p.2 ∈ l
      · simp [in_list, h1, h2, lc]
        rw [if_pos (by have := hz _ hfl; simpa [h1, h2] using this)]
        simp [h1, h2]
      · simp [in_list, h1, h2]
theorem met_eq {m : Nat} {ps : Ts} {f : Int} {td : PyData} (htd : seqOf td = some (ps.map pairD)) (hm : m ≤ 30) (hb : Bd m ps) (hne : ∀ p ∈ ps, p.1 ≠ p.2) (hf : 0 ≤ f ∧ f < m) :
    ∃ l, Fnd ps f l ∧ (∀ x, x ∈ l ↔ Rch ps f x) ∧ S__law_met [.int m, td, .int f] = .ok (.list ((srtI l).map .int), none) := by
  have lim : ∀ l, Fnd ps f l → l.length ≤ m := fun l h => few h.nd fun x hx => (h.rch x hx).bd hb hf
  obtain ⟨a1, a2⟩ := turns_all (m := m) hne hb hf
  refine ⟨turns ps m [f], a1, a2, ?_⟩
  have turn1 : ∀ (l : List Int) (δ : Dv), Fnd ps f l → mShape m td f l δ → ∃ δ2, (gFor (wSeq (fVar 1)) (bTup [(bName 5), (bName 6)]) (gIf (fOrT (fT (f2 oIn (fVar 5) (fBar 3))) (fT (f2 oIn (fVar 6) (fBar 3)))) (gSet 3 (f2 oAdd (fVar 3) (fLc [7] (wSeq (fTup (aCons (fVar 5) (aCons (fVar 6) aNil)))) (bName 7) (fT (f2 oNin (fVar 7) (fBar 3))) (fVar 7)))) gNx)) δ = .ok (.nx, δ2) ∧ Fnd ps f (turn ps l) ∧ mShape m td f (turn ps l) δ2 := by
    intro l δ hF hs
    obtain ⟨δ2, h1, h2, h3⟩ := for_rel (b := bTup [(bName 5), (bName 6)]) (g := (gIf (fOrT (fT (f2 oIn (fVar 5) (fBar 3))) (fT (f2 oIn (fVar 6) (fBar 3)))) (gSet 3 (f2 oAdd (fVar 3) (fLc [7] (wSeq (fTup (aCons (fVar 5) (aCons (fVar 6) aNil)))) (bName 7) (fT (f2 oNin (fVar 7) (fBar 3))) (fVar 7)))) gNx))
      (fun l δ => Fnd ps f l ∧ mShape m td f l δ) (fun l d => mstep l (prOf d)) (ds := ps.map pairD) (fun d hd l δ ⟨hF, hs⟩ => by
        obtain ⟨p, hp, rfl⟩ := List.mem_map.mp hd
        obtain ⟨δ1, δ2, h1, h2, h3⟩ := met_step m td f l p δ (by have := lim l hF; omega) hs
        exact ⟨δ1, δ2, h1, h2, mstep_fnd hp (hne p hp) hF, h3⟩) ⟨hF, hs⟩
    rw [foldl_pairs] at h2 h3
    refine ⟨δ2, ?_, h2, h3⟩
    obtain ⟨x4, x5, x6, rfl, _, _, _⟩ := hs
    rw [ev_for, ev_wseq]
    simp only [ev_var, List.getElem?_cons_zero, List.getElem?_cons_succ, varR_v, Rs.bind_ok, htd, liftL_some]
    exact h1
  have loop : ∀ (n k : Nat) (l : List Int) (δ : Dv), Fnd ps f l → mShape m td f l δ → ∃ δ2, forN (bName 4) (gFor (wSeq (fVar 1)) (bTup [(bName 5), (bName 6)]) (gIf (fOrT (fT (f2 oIn (fVar 5) (fBar 3))) (fT (f2 oIn (fVar 6) (fBar 3)))) (gSet 3 (f2 oAdd (fVar 3) (fLc [7] (wSeq (fTup (aCons (fVar 5) (aCons (fVar 6) aNil)))) (bName 7) (fT (f2 oNin (fVar 7) (fBar 3))) (fVar 7)))) gNx)) (rngD k n) δ = .ok (.nx, δ2) ∧ mShape m td f (turns ps n l) δ2 := by
    intro n
    induction n with
    | zero => exact fun k l δ _ hs => ⟨δ, rfl, hs⟩
    | succ n ih =>
      intro k l δ hF hs
      have er : rngD (k : Int) (n + 1) = .int k :: rngD ((k + 1 : Nat) : Int) n := by
        unfold rngD
        (rw [List.range_succ_eq_map, List.map_cons, List.map_map])
        refine congr (congrArg _ (by simp)) (List.map_congr_left fun i _ => ?_)
        show PyData.int ((k : Int) + ((i + 1 : Nat) : Int)) = PyData.int (((k + 1 : Nat) : Int) + (i : Int))
        congr 1
        omega
      obtain ⟨x4, x5, x6, rfl, v4, v5, v6⟩ := hs
      obtain ⟨δ2, h1, h2, h3⟩ := turn1 l [some (.v (.int m)), some (.v td), some (.v (.int f)), some (.v (.list (l.map .int))), some (.v (.int k)), x5, x6, none] hF ⟨_, _, _, rfl, rfl, v5, v6⟩
      obtain ⟨δ3, h4, h5⟩ := ih (k + 1) (turn ps l) δ2 h2 h3
      refine ⟨δ3, ?_, h5⟩
      rw [er, forN, show bName 4 (PyData.int (k : Int)) [some (.v (.int m)), some (.v td), some (.v (.int f)), some (.v (.list (l.map .int))), x4, x5, x6, none] = some [some (.v (.int m)), some (.v td), some (.v (.int f)), some (.v (.list (l.map .int))), some (.v (.int k)), x5, x6, none] from by simp [isV_free v4]]
      simp only [h1, Rs.bind_ok]
      exact h4
  obtain ⟨δ2, h1, ⟨x4, x5, x6, rfl, _, _, _⟩⟩ := loop m 0 [f] [some (.v (.int m)), some (.v td), some (.v (.int f)), some (.v (.list [.int f])), none, none, none, none] ⟨List.pairwise_singleton _ _, List.mem_cons_self, fun x hx => by rw [List.mem_singleton.mp hx]; exact .base⟩ ⟨none, none, none, rfl, rfl, rfl, rfl⟩
  refine run_rt (g := g__law_met) (δ := [some (.v (.int m)), some (.v td), some (.v (.int f)), some (.v (.list ((turns ps m [f]).map .int))), x4, x5, x6, none]) ?_ rfl
  show g__law_met [some (.v (.int m)), some (.v td), some (.v (.int f)), none, none, none, none, none] = _
  have h0 : (gSet 3 (fLst (aCons (fVar 2) aNil))) [some (.v (.int m)), some (.v td), some (.v (.int f)), none, none, none, none, none] = .ok (.nx, [some (.v (.int m)), some (.v td), some (.v (.int f)), some (.v (.list [.int f])), none, none, none, none]) := by simp [PySem.sizeLine_eq]
  have i6 : i62 (m : Int) = true := i62_small (by omega) (by omega)
  unfold g__law_met
  rw [ev_seq, h0]
  simp only [Rs.bind_ok, Fl.on_nx]
  rw [ev_seq, ev_for, ev_rng1]
  simp only [ev_var, List.getElem?_cons_zero, varR_v, Rs.bind_ok, onI_int, i6, if_true, Int.toNat_natCast]
  have h1' := h1
  rw [show ((0 : Nat) : Int) = 0 from rfl] at h1'
  rw [h1']
  simp [sort_ints]
end Kc

set_option maxRecDepth 100000
set_option maxHeartbeats 3900000
/-! ## M6. is_web, both ways -/
namespace Pw
open PySem L2
theorem shA_mem : ∀ {ds : List PyData} {d : PyData}, shA ds = true → d ∈ ds → shD d = true
  | x :: xs, d, h, hd => by
    simp only [shA, Bool.and_eq_true] at h
    rcases List.mem_cons.mp hd with e | hd
    · subst e; exact h.1
    · exact shA_mem h.2 hd
theorem lc_ok {own : List Nat} {w : Dv → Rs (List PyData × Dv)} {b : PyData → Dv → Option Dv} {t : Dv → Rs (Bool × Dv)} {f : Dv → Rs (PyData × Dv)} {δ : Dv} {ds : List PyData} {e : PyData → PyData} (hw : w δ = .ok (ds, δ)) (hz : ds.length ≤ sizeLine) (ht : t = tYesD)
    (h : ∀ d ∈ ds, ∃ δd, b d (anchD (wipeD δ own)) = some δd ∧ f δd = .ok (e d, δd) ∧ wipeD δd own = anchD (wipeD δ own)) : fLc own w b t f δ = .ok (.list (ds.map e), δ) := by
  have z := lc_pure (own := own) (b := b) (t := t) (f := f) (p := fun _ => true) (e := e) (x := (ds, δ)) hw hz fun d hd => by
    obtain ⟨δd, h1, h2, h3⟩ := h d hd
    exact ⟨δd, h1, by rw [ht]; rfl, fun _ => h2, h3⟩
  rw [z, List.filter_eq_self.mpr fun _ _ => rfl]
end Pw
namespace Kc
open PySem L2 Pw Gr
theorem law_is_tie_eq {d : PyData} (h : shD d = true) (m : Int) : S__law_is_tie [.int m, d] = .ok (.bool (tieB m d), none) := by
  refine run_rt (g := g__law_is_tie) (δ := [some (.v (.int m)), some (.v d), none]) ?_ rfl
  show g__law_is_tie [some (.v (.int m)), some (.v d), none] = _
  unfold g__law_is_tie
  cases d with
  | tuple ds =>
    have hs : shA ds = true := by simpa [shD] using h
    match ds, hs with
    | [], _ => simp [isiB, tyD, oNe_int, tieB]
    | [a], _ => simp [isiB, tyD, oNe_int, tieB]
    | [a, b], hs =>
      have lc : fLc [2] (wSeq (fVar 1)) (bName 2) tYesD (fCall S__law_whole (aCons (fVar 2) aNil)) [some (.v (.int m)), some (.v (.tuple [a, b])), none] = .ok (.list [.bool (isW a), .bool (isW b)], [some (.v (.int m)), some (.v (.tuple [a, b])), none]) := by
        refine lc_ok (ds := [a, b]) (e := fun x => .bool (isW x)) (by simp) (by simp [PySem.sizeLine_eq]) rfl fun d hd => ⟨[some (.v (.int m)), some (.v (.tuple [a, b])), some (.v d)], ?_, ?_, ?_⟩
        · simp [anchD, wipeD, anch1]
        · simp [whole_eq (shA_mem hs hd)]
        · simp [anchD, wipeD, anch1]
      have al : oAll (.list [.bool (isW a), .bool (isW b)]) = some (.bool (isW a && isW b)) := by
        have z := all_bools isW [a, b]
        simpa using z
      simp [isiB, tyD, oNe_int, lc, al]
      cases a with
      | int x =>
        cases b with
        | int y =>
          simp [isW, atI, ixN, tieB]
          by_cases h1 : 0 ≤ x
          · by_cases h2 : x < y
            · by_cases h3 : y < m <;> simp [h1, h2, h3]
            · simp [h1, h2]
          · simp [h1]
        | _ => simp [isW, tieB]
      | _ => simp [isW, tieB]
    | a :: b :: c :: r, _ =>
      have e : ¬ ((r.length : Int) + 1 + 1 + 1 = 2) := by omega
      simp [isiB, tyD, oNe_int, tieB, e]
  | dict es => simp [isi_of h, isiB, tyD, tieB]
  | _ => simp [oIsi, isiB, tyD, tieB]
end Kc

set_option maxRecDepth 100000
set_option maxHeartbeats 3900000
/-! ## M7. rows of ties -/
namespace Pw
open PySem L2
theorem eqv_pair (p q : Int × Int) : PyData.eqv (pairD p) (pairD q) = decide (p = q) := by
  obtain ⟨a, b⟩ := p
  obtain ⟨c, d⟩ := q
  simp only [pairD, PyData.eqv, PyData.eqvAll, Bool.and_true]
  by_cases h1 : a = c <;> by_cases h2 : b = d <;> simp [h1, h2]
theorem eqv_pairs : ∀ ps qs : List (Int × Int), PyData.eqvAll (ps.map pairD) (qs.map pairD) = decide (ps = qs)
  | [], [] => rfl
  | [], _ :: _ => rfl
  | _ :: _, [] => rfl
  | p :: ps, q :: qs => by
    rw [List.map_cons, List.map_cons, PyData.eqvAll, eqv_pair, eqv_pairs ps qs]
    by_cases h1 : p = q <;> by_cases h2 : ps = qs <;> simp [h1, h2]
theorem eqv_ints : ∀ ps qs : List Int, PyData.eqvAll (ps.map PyData.int) (qs.map PyData.int) = decide (ps = qs)
  | [], [] => rfl
  | [], _ :: _ => rfl
  | _ :: _, [] => rfl
  | p :: ps, q :: qs => by
    rw [List.map_cons, List.map_cons, PyData.eqvAll, eqv_int', eqv_ints ps qs]
    by_cases h1 : p = q <;> by_cases h2 : ps = qs <;> simp [h1, h2]
theorem plain_pairs : ∀ l : List (Int × Int), PyData.plainAll (l.map pairD) = true
  | [] => rfl
  | p :: r => by
    rw [List.map_cons, PyData.plainAll, plain_pairs r]
    rfl
theorem depth_ints : ∀ l : List Int, PyData.depthAll (l.map PyData.int) = 0
  | [] => rfl
  | _ :: r => by
    rw [List.map_cons, PyData.depthAll, depth_ints r]
    rfl
theorem depth_pairs : ∀ l : List (Int × Int), PyData.depthAll (l.map pairD) ≤ 1
  | [] => by decide
  | p :: r => by
    (rw [List.map_cons, PyData.depthAll])
    have := depth_pairs r
    have h : (pairD p).depth = 1 := rfl
    omega
theorem okD_ints (l : List Int) : okD (.list (l.map .int)) = true := by
  unfold okD
  have h : (PyData.list (l.map .int)).depth ≤ 64 := by
    rw [PyData.depth, depth_ints]
    decide
  rw [show (PyData.list (l.map .int)).plain = true from plain_ints l]
  simpa using h
theorem okD_pairs (l : List (Int × Int)) : okD (.list (l.map pairD)) = true := by
  unfold okD
  have h : (PyData.list (l.map pairD)).depth ≤ 64 := by
    rw [PyData.depth]
    have := depth_pairs l
    omega
  rw [show (PyData.list (l.map pairD)).plain = true from plain_pairs l]
  simpa using h
theorem okD_pair (p : Int × Int) : okD (pairD p) = true := rfl
theorem ne_pairs (ps qs : List (Int × Int)) : oNe (.list (ps.map pairD)) (.list (qs.map pairD)) = some (.bool (!decide (ps = qs))) := by
  unfold oNe
  rw [okD_pairs, okD_pairs]
  (simp only [Bool.and_self, if_true])
  rw [show PyData.eqv (.list (ps.map pairD)) (.list (qs.map pairD)) = PyData.eqvAll (ps.map pairD) (qs.map pairD) from by rw [PyData.eqv], eqv_pairs]
theorem eq_ints (ps qs : List Int) : oEq (.list (ps.map .int)) (.list (qs.map .int)) = some (.bool (decide (ps = qs))) := by
  unfold oEq
  rw [okD_ints, okD_ints]
  (simp only [Bool.and_self, if_true])
  rw [show PyData.eqv (.list (ps.map .int)) (.list (qs.map .int)) = PyData.eqvAll (ps.map .int) (qs.map .int) from by rw [PyData.eqv], eqv_ints]
theorem any_pair (q : Int × Int) : ∀ l : List (Int × Int), ((l.map pairD).any fun z => PyData.eqv z (pairD q)) = decide (q ∈ l)
  | [] => rfl
  | p :: l => by
    rw [List.map_cons, List.any_cons, any_pair q l, eqv_pair]
    by_cases h : p = q
    · simp [h]
    · have : ¬ q = p := fun z => h z.symm
      simp [h, this]
theorem in_pairs (q : Int × Int) (l : List (Int × Int)) : oIn (pairD q) (.tuple (l.map pairD)) = some (.bool (decide (q ∈ l))) := by
  unfold oIn inD
  simp only [okD_pair, plain_pairs, any_pair, Bool.and_self, if_true, Option.map_some]
theorem nin_pairs (q : Int × Int) (l : List (Int × Int)) : oNin (pairD q) (.tuple (l.map pairD)) = some (.bool (!decide (q ∈ l))) := by
  unfold oNin inD
  simp only [okD_pair, plain_pairs, any_pair, Bool.and_self, if_true, Option.map_some]
/-- p stands ahead of q -/
def ltP (p q : Int × Int) : Bool := decide (p.1 < q.1 ∨ (p.1 = q.1 ∧ p.2 < q.2))
theorem lt_pairs (p q : Int × Int) : oLtA (pairD p) (pairD q) = some (.bool (ltP p q)) := by
  obtain ⟨a, b⟩ := p
  obtain ⟨c, d⟩ := q
  simp only [oLtA, pairD, ints?, Option.map_some, Option.bind_some, HT.lexLt, ltP]
  by_cases h : a = c
  · subst h
    by_cases h2 : b = d
    · subst h2; simp
    · simp [h2]
  · simp [h]
def adjB : List (Int × Int) → Bool
  | p :: q :: r => ltP p q && adjB (q :: r)
  | _ => true
theorem adj_iff : ∀ {l : List (Int × Int)}, adjB l = true ↔ l.Pairwise fun p q => ltP p q = true
  | [] => by simp [adjB]
  | [p] => by simp [adjB]
  | p :: q :: r => by
    have ih := adj_iff (l := q :: r)
    rw [adjB, Bool.and_eq_true, ih]
    constructor
    · intro z
      refine List.pairwise_cons.mpr ⟨fun x hx => ?_, z.2⟩
      (rcases List.mem_cons.mp hx with e | hx)
      · rw [e]; exact z.1
      · have h3 := (List.pairwise_cons.mp z.2).1 x hx
        have h1 := z.1
        simp only [ltP, decide_eq_true_eq] at *
        omega
    · intro z
      have z2 := List.pairwise_cons.mp z
      exact ⟨z2.1 q List.mem_cons_self, z2.2⟩
/-- rising: a sorted set -/
theorem adj_sorted (l : List (Int × Int)) : adjB l = true ↔ l = srtP (dd l) := by
  rw [adj_iff]
  have sl : ∀ m : List (Int × Int), (srtP m).Pairwise fun p q => leP p q = true := fun m => isrt_sorted leP_tot leP_tr m
  constructor
  · intro h
    have nd : l.Nodup := h.imp fun {a b} z e => by subst e; simp [ltP] at z
    exact srtP_of ((List.perm_ext_iff_of_nodup nd (nodup_dd l)).mpr fun x => mem_dd.symm) (h.imp fun {a b} z => by
      simp only [ltP, leP, decide_eq_true_eq] at *
      omega)
  · intro h
    have nd : (srtP (dd l)).Nodup := (isrt_perm (dd l)).nodup_iff.mpr (nodup_dd l)
    have s := sl (dd l)
    rw [← h] at nd s
    have both := List.pairwise_and_iff.mpr ⟨nd, s⟩
    refine both.imp fun {a b} z => ?_
    obtain ⟨z1, z2⟩ := z
    obtain ⟨a1, a2⟩ := a
    obtain ⟨b1, b2⟩ := b
    simp only [ltP, leP, decide_eq_true_eq, ne_eq, Prod.mk.injEq] at *
    omega
def ppB : PyData → Bool
  | .tuple [x, y] => ltP (prOf x) (prOf y)
  | _ => false
theorem zip_adj : ∀ ps : List (Int × Int), (zipD (ps.map pairD) ((ps.map pairD).drop 1)).all ppB = adjB ps
  | [] => rfl
  | [p] => rfl
  | p :: q :: r => by
    have ih := zip_adj (q :: r)
    rw [adjB, ← ih]
    rfl
theorem cut_from (ds : List PyData) (k : Nat) : oCut (.tuple ds) (some (k : Int)) none = some (.tuple (ds.drop k)) := by
  have e : cutD ds (some (k : Int)) none = ds.drop k := by
    unfold cutD
    rw [HT.sIx_nat, HT.sIx_none]
    by_cases h : k ≤ ds.length
    · rw [Nat.min_eq_left h, List.take_of_length_le (by rw [List.length_drop]; omega)]
    · rw [Nat.min_eq_right (by omega), List.drop_length, List.drop_eq_nil_of_le (by omega)]
      simp
  show some (PyData.tuple (cutD ds (some (k : Int)) none)) = _
  rw [e]
theorem srt_set (ps : List (Int × Int)) (hl : ps.length < 64) (ho : ps.all okP = true) : oSrtSet (.tuple (ps.map pairD)) = some (.list ((srtP (dd ps)).map pairD)) := by
  simp only [oSrtSet, setP, prs_self, if_pos (And.intro hl ho), Option.map_some]
theorem srt_setL (ps : List (Int × Int)) (hl : ps.length < 64) (ho : ps.all okP = true) : oSrtSet (.list (ps.map pairD)) = some (.list ((srtP (dd ps)).map pairD)) := by
  simp only [oSrtSet, setP, prs_self, if_pos (And.intro hl ho), Option.map_some]
end Pw

set_option maxRecDepth 100000
set_option maxHeartbeats 3900000
/-! ## M8. is_web: the program's look and the law's -/
namespace Kc
open PySem L2 Pw Gr
def webD (m : Nat) (ps : Ts) : PyData := .tuple [.int m, .tuple (ps.map pairD)]
structure WebOk (m : Nat) (ps : Ts) : Prop where
  lo : 2 ≤ m
  hi : m ≤ 8
  tie : ∀ p ∈ ps, 0 ≤ p.1 ∧ p.1 < p.2 ∧ p.2 < m
  asc : adjB ps = true
  all : ∀ x : Int, 0 ≤ x ∧ x < m → Rch ps 0 x
def Web (D : PyData) : Prop := ∃ m ps, D = webD m ps ∧ WebOk m ps
theorem tieB_pair {m : Int} {d : PyData} (h : tieB m d = true) : ∃ p : Int × Int, d = pairD p ∧ 0 ≤ p.1 ∧ p.1 < p.2 ∧ p.2 < m := by
  unfold tieB at h
  split at h
  · rename_i a b
    exact ⟨(a, b), rfl, of_decide_eq_true h⟩
  · cases h
theorem ties_of {m : Int} : ∀ {ts : List PyData}, ts.all (tieB m) = true → ∃ ps : Ts, ts = ps.map pairD ∧ ∀ p ∈ ps, 0 ≤ p.1 ∧ p.1 < p.2 ∧ p.2 < m
  | [], _ => ⟨[], rfl, fun _ h => absurd h List.not_mem_nil⟩
  | t :: ts, h => by
    (rw [List.all_cons, Bool.and_eq_true] at h)
    obtain ⟨p, rfl, hp⟩ := tieB_pair h.1
    obtain ⟨ps, rfl, hps⟩ := ties_of h.2
    exact ⟨p :: ps, rfl, fun q hq => by
      rcases List.mem_cons.mp hq with e | hq
      · rw [e]; exact hp
      · exact hps q hq⟩
/-- the program's ties -/
theorem p_ties {m : Int} {ts : List PyData} (hs : shA ts = true) (hz : ts.length ≤ 1000) (D : PyData) : fLc [3] (wSeq (fVar 2)) (bName 3) tYesD (fCall S_is_tie (aCons (fVar 1) (aCons (fVar 3) aNil))) [some (.v D), some (.v (.int m)), some (.v (.tuple ts)), none, none, none] =
    .ok (.list (ts.map fun t => .bool (tieB m t)), [some (.v D), some (.v (.int m)), some (.v (.tuple ts)), none, none, none]) := by
  refine lc_ok (ds := ts) (e := fun t => .bool (tieB m t)) (by simp) (by rw [PySem.sizeLine_eq]; omega) rfl fun d hd => ⟨[some (.v D), some (.v (.int m)), some (.v (.tuple ts)), some (.v d), none, none], ?_, ?_, ?_⟩
  · simp [anchD, wipeD, anch1]
  · simp [is_tie_eq (shA_mem hs hd)]
  · simp [anchD, wipeD, anch1]
theorem zip_mem : ∀ {xs ys : List PyData} {d : PyData}, d ∈ zipD xs ys → ∃ x ∈ xs, ∃ y ∈ ys, d = .tuple [x, y]
  | [], _, _, h => by simp [zipD] at h
  | _ :: _, [], _, h => by simp [zipD] at h
  | x :: xs, y :: ys, d, h => by
    rw [zipD] at h
    (rcases List.mem_cons.mp h with e | h)
    · exact ⟨x, List.mem_cons_self, y, List.mem_cons_self, e⟩
    · obtain ⟨a, ha, b, hb, e⟩ := zip_mem h
      exact ⟨a, List.mem_cons_of_mem _ ha, b, List.mem_cons_of_mem _ hb, e⟩
theorem p_asc {m : Int} {ps : Ts} (hz : ps.length ≤ 1000) (D : PyData) : fLc [4, 5] (wZip (fVar 2) (fCut (fVar 2) (some (fC (.int 1))) none)) (bTup [(bName 4), (bName 5)]) tYesD (f2 oLtA (fVar 4) (fVar 5)) [some (.v D), some (.v (.int m)), some (.v (.tuple (ps.map pairD))), none, none, none] =
    .ok (.list ((zipD (ps.map pairD) ((ps.map pairD).drop 1)).map fun d => .bool (ppB d)), [some (.v D), some (.v (.int m)), some (.v (.tuple (ps.map pairD))), none, none, none]) := by
  have c1 := cut_from (ps.map pairD) 1
  refine lc_ok (ds := zipD (ps.map pairD) ((ps.map pairD).drop 1)) (e := fun d => .bool (ppB d)) ?_ ?_ rfl fun d hd => ?_
  · have c2 : oCut (.tuple (ps.map pairD)) (some 1) none = some (.tuple ((ps.map pairD).drop 1)) := c1
    simp only [ev_zip, ev_var, List.getElem?_cons_zero, List.getElem?_cons_succ, varR_v, Rs.bind_ok, fCut, ptR, ev_c, onI_int, c2, lift_some]
    rfl
  · rw [zipD_length, List.length_map, PySem.sizeLine_eq]
    omega
  · obtain ⟨x, hx, y, hy, rfl⟩ := zip_mem hd
    obtain ⟨p, hp, rfl⟩ := List.mem_map.mp hx
    obtain ⟨q, hq, rfl⟩ := List.mem_map.mp (List.mem_of_mem_drop hy)
    refine ⟨[some (.v D), some (.v (.int m)), some (.v (.tuple (ps.map pairD))), none, some (.v (pairD p)), some (.v (pairD q))], ?_, ?_, ?_⟩
    · simp [anchD, wipeD, anch1]
    · simp [lt_pairs]
      rfl
    · simp [anchD, wipeD, anch1]
/-- the law's ties -/
theorem l_ties {m : Int} {ts : List PyData} (hs : shA ts = true) (hz : ts.length ≤ 1000) : fLc [1] (wSeq (fIxv 0 (fC (.int 1)))) (bName 1) tYesD (fCall S__law_is_tie (aCons (fIxv 0 (fC (.int 0))) (aCons (fVar 1) aNil))) [some (.v (.tuple [.int m, .tuple ts])), none] =
    .ok (.list (ts.map fun t => .bool (tieB m t)), [some (.v (.tuple [.int m, .tuple ts])), none]) := by
  refine lc_ok (ds := ts) (e := fun t => .bool (tieB m t)) (by simp [atI, ixN]) (by rw [PySem.sizeLine_eq]; omega) rfl fun d hd => ⟨[some (.v (.tuple [.int m, .tuple ts])), some (.v d)], ?_, ?_, ?_⟩
  · simp [anchD, wipeD, anch1]
  · simp [atI, ixN, law_is_tie_eq (shA_mem hs hd)]
  · simp [anchD, wipeD, anch1]
theorem up_nat (m : Nat) (a b : Int) : (match PyData.int (m : Int) with | .int i => decide (a ≤ i ∧ i ≤ b) | _ => false) = decide (a ≤ m ∧ m ≤ b) := rfl
/-- both looks agree -/
theorem web_both {D : PyData} (h : shD D = true) (hl : ∀ a ts, D = .tuple [a, .tuple ts] → ts.length < 64) : ∃ b : Bool, S_is_web [D] = .ok (.bool b, none) ∧ S__law_is_web [D] = .ok (.bool b, none) ∧ (b = true ↔ Web D) := by
  -- what is no row of two
  have no : ∀ (δ1 δ2 : Dv), g_is_web [some (.v D), none, none, none, none, none] = .ok (.rt (.bool false), δ1) → g__law_is_web [some (.v D), none] = .ok (.rt (.bool false), δ2) → ¬ Web D →
      ∃ b : Bool, S_is_web [D] = .ok (.bool b, none) ∧ S__law_is_web [D] = .ok (.bool b, none) ∧ (b = true ↔ Web D) := fun δ1 δ2 h1 h2 h3 => ⟨false, run_rt (g := g_is_web) h1 rfl, run_rt (g := g__law_is_web) h2 rfl, by simp [h3]⟩
  have notTup : (∀ ds, D ≠ .tuple ds) → ∃ b : Bool, S_is_web [D] = .ok (.bool b, none) ∧ S__law_is_web [D] = .ok (.bool b, none) ∧ (b = true ↔ Web D) := fun hn => by
    have e : isiB "tuple" D = false := by
      cases D with
      | tuple ds => exact absurd rfl (hn ds)
      | _ => rfl
    refine no [some (.v D), none, none, none, none, none] [some (.v D), none] ?_ ?_ fun ⟨m, ps, z, _⟩ => hn _ z
    · unfold g_is_web; simp [isi_of h, e]
    · unfold g__law_is_web; simp [isi_of h, e]
  cases D with
  | tuple ds =>
    match ds, h, hl with
    | [], h, _ =>
      refine no [some (.v (.tuple [])), none, none, none, none, none] [some (.v (.tuple [])), none] ?_ ?_ fun ⟨m, ps, z, _⟩ => by cases z
      · unfold g_is_web; simp [isiB, tyD, oNe_int]
      · unfold g__law_is_web; simp [isiB, tyD, oNe_int]
    | [a], h, _ =>
      refine no [some (.v (.tuple [a])), none, none, none, none, none] [some (.v (.tuple [a])), none] ?_ ?_ fun ⟨m, ps, z, _⟩ => by cases z
      · unfold g_is_web; simp [isiB, tyD, oNe_int]
      · unfold g__law_is_web; simp [isiB, tyD, oNe_int]
    | a :: b :: c :: r, h, _ =>
      have e : ¬ ((r.length : Int) + 1 + 1 + 1 = 2) := by omega
      refine no [some (.v (.tuple (a :: b :: c :: r))), none, none, none, none, none] [some (.v (.tuple (a :: b :: c :: r))), none] ?_ ?_ fun ⟨m, ps, z, _⟩ => by cases z
      · unfold g_is_web; simp [isiB, tyD, oNe_int, e]
      · unfold g__law_is_web; simp [isiB, tyD, oNe_int, e]
    | [a, t], h, hl =>
      have ha : shD a = true := by simp [shD, shA] at h; exact h.1
      have ht : shD t = true := by simp [shD, shA] at h; exact h.2
      have i0 : atI [a, t] (0 : Int) = some a := by simp [atI, ixN]
      have i1 : atI [a, t] (1 : Int) = some t := by simp [atI, ixN]
      by_cases hw : ∃ m : Nat, a = .int m ∧ 2 ≤ m ∧ m ≤ 8
      · obtain ⟨m, rfl, m2, m8⟩ := hw
        have u1 : (2 : Int) ≤ (m : Int) := by omega
        have u2 : (m : Int) ≤ 8 := by omega
        have up : S_is_upto [.int (m : Int), .int 2, .int 8] = .ok (.bool true, none) := by
          have z := upto_eq ha 2 8
          rw [z]
          simp [u1, u2]
        have wh : S__law_whole [.int (m : Int)] = .ok (.bool true, none) := whole_eq ha
        by_cases htt : ∃ ts, t = .tuple ts
        · obtain ⟨ts, rfl⟩ := htt
          have hts : shA ts = true := by simpa [shD] using ht
          have hz : ts.length < 64 := hl _ _ rfl
          obtain ⟨L1, pl, al⟩ : ∃ L1, fLc [3] (wSeq (fVar 2)) (bName 3) tYesD (fCall S_is_tie (aCons (fVar 1) (aCons (fVar 3) aNil))) [some (.v (.tuple [.int m, .tuple ts])), some (.v (.int m)), some (.v (.tuple ts)), none, none, none] = .ok (.list L1, [some (.v (.tuple [.int m, .tuple ts])), some (.v (.int m)), some (.v (.tuple ts)), none, none, none]) ∧ oAll (.list L1) = some (.bool (ts.all (tieB m))) :=
            ⟨_, p_ties (m := m) hts (by omega) (.tuple [.int m, .tuple ts]), all_bools (tieB m) ts⟩
          obtain ⟨L3, ll, al3⟩ : ∃ L3, fLc [1] (wSeq (fIxv 0 (fC (.int 1)))) (bName 1) tYesD (fCall S__law_is_tie (aCons (fIxv 0 (fC (.int 0))) (aCons (fVar 1) aNil))) [some (.v (.tuple [.int m, .tuple ts])), none] = .ok (.list L3, [some (.v (.tuple [.int m, .tuple ts])), none]) ∧ oAll (.list L3) = some (.bool (ts.all (tieB m))) :=
            ⟨_, l_ties (m := m) hts (by omega), all_bools (tieB m) ts⟩
          by_cases hall : ts.all (tieB m) = true
          · obtain ⟨ps, ets, hps⟩ := ties_of hall
            have hz2 : ps.length < 64 := by rw [ets, List.length_map] at hz; exact hz
            have bd : Bd m ps := fun p hp => by have := hps p hp; omega
            have hne : ∀ p ∈ ps, p.1 ≠ p.2 := fun p hp => by have := hps p hp; omega
            have okp : ps.all okP = true := List.all_eq_true.mpr fun p hp => by
              have := hps p hp
              simp only [okP, decide_eq_true_eq]
              omega
            obtain ⟨L2, pa, az⟩ : ∃ L2, fLc [4, 5] (wZip (fVar 2) (fCut (fVar 2) (some (fC (.int 1))) none)) (bTup [(bName 4), (bName 5)]) tYesD (f2 oLtA (fVar 4) (fVar 5)) [some (.v (.tuple [.int m, .tuple ts])), some (.v (.int m)), some (.v (.tuple ts)), none, none, none] = .ok (.list L2, [some (.v (.tuple [.int m, .tuple ts])), some (.v (.int m)), some (.v (.tuple ts)), none, none, none]) ∧ oAll (.list L2) = some (.bool (adjB ps)) := by
              refine ⟨(zipD (ps.map pairD) ((ps.map pairD).drop 1)).map fun d => .bool (ppB d), ?_, ?_⟩
              · have z := p_asc (m := m) (ps := ps) (by omega) (.tuple [.int m, .tuple (ps.map pairD)])
                rw [ets]
                exact z
              · have z := all_bools ppB (zipD (ps.map pairD) ((ps.map pairD).drop 1))
                rw [zip_adj] at z
                exact z
            obtain ⟨l1, f1, c1, r1⟩ := reached_eq (f := 0) (td := .tuple ts) (ps := ps) (by rw [ets]; rfl) (by omega) bd (by omega)
            obtain ⟨l2, f2, c2, r2⟩ := met_eq (f := 0) (td := .tuple ts) (ps := ps) (by rw [ets]; rfl) (by omega) bd hne (by omega)
            obtain ⟨L4, ss, ne⟩ : ∃ L4, oSrtSet (.tuple ts) = some (.list L4) ∧ oNe (.list ts) (.list L4) = some (.bool (!adjB ps)) := by
              refine ⟨(srtP (dd ps)).map pairD, by rw [ets]; exact srt_set ps hz2 okp, ?_⟩
              rw [ets, ne_pairs]
              by_cases z : adjB ps = true
              · rw [z, decide_eq_true ((adj_sorted ps).mp z)]
              · rw [decide_eq_false fun q => z ((adj_sorted ps).mpr q)]
                rw [Bool.not_eq_true] at z
                rw [z]
            have same : srtI l1 = srtI l2 := srt_same f1.nd f2.nd fun x => (c1 x).trans (c2 x).symm
            have fl := full (m := m) f1.nd fun x hx => (f1.rch x hx).bd bd (by omega)
            obtain ⟨L5, r1', len5⟩ : ∃ L5 : List PyData, S_reached [.tuple ts, .int 0] = .ok (.tuple L5, none) ∧ L5.length = l1.length := ⟨_, r1, by rw [List.length_map]; exact (isrt_perm l1).length_eq⟩
            obtain ⟨L6, r2', eq6⟩ : ∃ L6 : List PyData, S__law_met [.int m, .tuple ts, .int 0] = .ok (.list L6, none) ∧ oEq (.list L6) (.list (rngD 0 m)) = some (.bool (decide (srtI l2 = Gr.upTo m))) := ⟨_, r2, by rw [rngD_up, eq_ints]⟩
            have rg : rgOk 0 (m : Int) = true := by
              unfold rgOk
              rw [i62_small (by omega) (by omega), i62_small (by omega) (by omega)]
              simp only [Bool.and_self, Bool.true_and, decide_eq_true_eq]
              omega
            -- the end
            have pe : g_is_web [some (.v (.tuple [.int m, .tuple ts])), none, none, none, none, none] = .ok (.rt (.bool (adjB ps && decide ((l1.length : Int) = m))), [some (.v (.tuple [.int m, .tuple ts])), some (.v (.int m)), some (.v (.tuple ts)), none, none, none]) := by
              unfold g_is_web
              cases hadj : adjB ps with
              | true => simp [isiB, tyD, oNe_int, i0, up, pl, al, hall, pa, az, hadj, r1', oEq_int, len5]
              | false => simp [isiB, tyD, oNe_int, i0, up, pl, al, hall, pa, az, hadj]
            have le : g__law_is_web [some (.v (.tuple [.int m, .tuple ts])), none] = .ok (.rt (.bool (adjB ps && decide (srtI l2 = Gr.upTo m))), [some (.v (.tuple [.int m, .tuple ts])), none]) := by
              unfold g__law_is_web
              cases hadj : adjB ps with
              | true => simp [isiB, tyD, oNe_int, i0, i1, wh, isW, u1, u2, ll, al3, hall, hadj, ss, ne, r2', rg, eq6]
              | false => simp [isiB, tyD, oNe_int, i0, i1, wh, isW, u1, u2, ll, al3, hall, hadj, ss, ne]
            refine ⟨adjB ps && decide ((l1.length : Int) = m), run_rt (g := g_is_web) pe rfl, ?_, ?_⟩
            · have e : decide ((l1.length : Int) = m) = decide (srtI l2 = Gr.upTo m) := by
                rw [← same]
                by_cases z : l1.length = m
                · rw [decide_eq_true (by omega : (l1.length : Int) = m), decide_eq_true (fl.mp z)]
                · rw [decide_eq_false (by omega : ¬ (l1.length : Int) = m), decide_eq_false fun q => z (fl.mpr q)]
              rw [e]
              exact run_rt (g := g__law_is_web) le rfl
            · rw [Bool.and_eq_true, decide_eq_true_eq]
              constructor
              · rintro ⟨z1, z2⟩
                refine ⟨m, ps, by rw [ets]; rfl, m2, m8, hps, z1, fun x hx => ?_⟩
                have z3 := fl.mp (by omega : l1.length = m)
                have : x ∈ srtI l1 := by rw [z3]; exact Gr.mem_upTo.mpr hx
                exact (c1 x).mp ((isrt_perm l1).mem_iff.mp this)
              · rintro ⟨m', ps', z, w⟩
                unfold webD at z
                simp only [PyData.tuple.injEq, List.cons.injEq, PyData.int.injEq, and_true] at z
                obtain ⟨z1, z2⟩ := z
                have em : m = m' := by omega
                subst em
                have ep : ps = ps' := by
                  have q1 := prs_self ps
                  rw [← ets, z2, prs_self] at q1
                  exact (Option.some.inj q1).symm
                subst ep
                refine ⟨w.asc, ?_⟩
                have : srtI l1 = Gr.upTo m := by
                  refine (srtI_of ?_ (sorted_upTo m)).symm
                  exact (List.perm_ext_iff_of_nodup (nodup_upTo m) f1.nd).mpr fun x => ⟨fun hx => (c1 x).mpr (w.all x (Gr.mem_upTo.mp hx)), fun hx => Gr.mem_upTo.mpr ((f1.rch x hx).bd bd (by omega))⟩
                have := fl.mpr this
                omega
          · rw [Bool.not_eq_true] at hall
            refine no [some (.v (.tuple [.int m, .tuple ts])), some (.v (.int m)), some (.v (.tuple ts)), none, none, none] [some (.v (.tuple [.int m, .tuple ts])), none] ?_ ?_ fun ⟨m', ps, z, w⟩ => ?_
            · unfold g_is_web; simp [isiB, tyD, oNe_int, i0, up, pl, al, hall]
            · unfold g__law_is_web; simp [isiB, tyD, oNe_int, i0, i1, wh, u1, u2, ll, al3, hall]
            · unfold webD at z
              simp only [PyData.tuple.injEq, List.cons.injEq, PyData.int.injEq, and_true] at z
              obtain ⟨z1, rfl⟩ := z
              rw [List.all_map] at hall
              have : ps.all (tieB m ∘ pairD) = true := List.all_eq_true.mpr fun p hp => by
                have := w.tie p hp
                show decide (0 ≤ p.1 ∧ p.1 < p.2 ∧ p.2 < (m : Int)) = true
                rw [decide_eq_true_eq]
                omega
              rw [this] at hall
              cases hall
        · have e : isiB "tuple" t = false := by
            cases t with
            | tuple ds => exact absurd ⟨_, rfl⟩ htt
            | _ => rfl
          refine no [some (.v (.tuple [.int m, t])), some (.v (.int m)), some (.v t), none, none, none] [some (.v (.tuple [.int m, t])), none] ?_ ?_ fun ⟨m', ps, z, w⟩ => ?_
          · unfold g_is_web; simp [isiB, tyD, oNe_int, i0, up, isi_of ht]; simp [isiB, tyD] at e; simp [e]
          · unfold g__law_is_web; simp [isiB, tyD, oNe_int, i0, i1, wh, u1, u2, isi_of ht]; simp [isiB, tyD] at e; simp [e]
          · unfold webD at z
            simp only [PyData.tuple.injEq, List.cons.injEq, and_true] at z
            exact htt ⟨_, z.2⟩
      · have up : S_is_upto [a, .int 2, .int 8] = .ok (.bool false, none) := by
          rw [upto_eq ha 2 8]
          cases a with
          | int i =>
            have : ¬ (2 ≤ i ∧ i ≤ 8) := fun z => hw ⟨i.toNat, by rw [Int.toNat_of_nonneg (by omega)], by omega, by omega⟩
            simp [this]
          | _ => rfl
        have wh := whole_eq ha
        refine no [some (.v (.tuple [a, t])), none, none, none, none, none] [some (.v (.tuple [a, t])), none] ?_ ?_ fun ⟨m', ps, z, w⟩ => ?_
        · unfold g_is_web; simp [isiB, tyD, oNe_int, i0, up]
        · unfold g__law_is_web
          cases a with
          | int i =>
            by_cases h1 : 2 ≤ i
            · have : ¬ i ≤ 8 := fun z => hw ⟨i.toNat, by rw [Int.toNat_of_nonneg (by omega)], by omega, by omega⟩
              simp [isiB, tyD, oNe_int, i0, wh, isW, h1, this]
            · simp [isiB, tyD, oNe_int, i0, wh, isW, h1]
          | _ => simp [isiB, tyD, oNe_int, i0, wh, isW]
        · unfold webD at z
          simp only [PyData.tuple.injEq, List.cons.injEq, and_true] at z
          exact hw ⟨m', z.1, w.lo, w.hi⟩
  | _ => exact notTup fun ds z => by cases z
end Kc

set_option maxRecDepth 100000
set_option maxHeartbeats 3900000
/-! ## M9. ties put and taken away: the program -/
namespace Kc
open PySem L2 Pw Gr
theorem check_web_ok {D : PyData} (h : shD D = true) (hl : ∀ a ts, D = .tuple [a, .tuple ts] → ts.length < 64) (w : Web D) : S_check_web [D] = .ok (.none, none) := by
  obtain ⟨b, h1, _, h3⟩ := web_both h hl
  rw [h3.mpr w] at h1
  refine run_nx (g := g_check_web) (δ := [some (.v D)]) ?_ rfl
  show g_check_web [some (.v D)] = _
  unfold g_check_web
  simp [h1]
theorem check_web_err {D : PyData} (h : shD D = true) (hl : ∀ a ts, D = .tuple [a, .tuple ts] → ts.length < 64) (w : ¬ Web D) : S_check_web [D] = .err "NoWeb" := by
  obtain ⟨b, h1, _, h3⟩ := web_both h hl
  have e : b = false := by
    cases b with
    | true => exact absurd (h3.mp rfl) w
    | false => rfl
  rw [e] at h1
  refine run_err (g := g_check_web) ?_
  show g_check_web [some (.v D)] = _
  unfold g_check_web
  simp [h1]
/-- what the ties are as data -/
theorem in_ties {m : Int} {t : PyData} {ps : Ts} (ht : tieB m t = true) : oIn t (.tuple (ps.map pairD)) = some (.bool (decide (prOf t ∈ ps))) ∧ oNin t (.tuple (ps.map pairD)) = some (.bool (!decide (prOf t ∈ ps))) := by
  obtain ⟨p, rfl, _⟩ := tieB_pair ht
  exact ⟨in_pairs p ps, nin_pairs p ps⟩
theorem atW0 (m : Nat) (ps : Ts) : atI [PyData.int (m : Int), .tuple (ps.map pairD)] (0 : Int) = some (.int m) := by simp [atI, ixN]
theorem atW1 (m : Nat) (ps : Ts) : atI [PyData.int (m : Int), .tuple (ps.map pairD)] (1 : Int) = some (.tuple (ps.map pairD)) := by simp [atI, ixN]
theorem check_new_eq {m : Nat} {ps : Ts} {t : PyData} (ht : shD t = true) : S_check_new [webD m ps, t] = if tieB m t = true ∧ prOf t ∉ ps then .ok (.none, none) else .err "NoTie" := by
  have a0 := atW0 m ps
  have a1 := atW1 m ps
  have it := is_tie_eq ht m
  by_cases h : tieB m t = true
  · obtain ⟨i1, _⟩ := in_ties (ps := ps) h
    by_cases h2 : prOf t ∈ ps
    · rw [if_neg (fun z => z.2 h2)]
      refine run_err (g := g_check_new) ?_
      show g_check_new [some (.v (webD m ps)), some (.v t)] = _
      unfold g_check_new webD
      generalize ps.map pairD = ts at *
      simp [a0, a1, it, h, i1, h2]
    · rw [if_pos ⟨h, h2⟩]
      refine run_nx (g := g_check_new) (δ := [some (.v (webD m ps)), some (.v t)]) ?_ rfl
      show g_check_new [some (.v (webD m ps)), some (.v t)] = _
      unfold g_check_new webD
      generalize ps.map pairD = ts at *
      simp [a0, a1, it, h, i1, h2]
  · rw [if_neg (fun z => h z.1)]
    rw [Bool.not_eq_true] at h
    refine run_err (g := g_check_new) ?_
    show g_check_new [some (.v (webD m ps)), some (.v t)] = _
    unfold g_check_new webD
    generalize ps.map pairD = ts at *
    simp [a0, it, h]
theorem sort_pairsT (ps : Ts) : oSortA (.tuple (ps.map pairD)) = some (.list ((srtP ps).map pairD)) := by
  cases ps with
  | nil => rfl
  | cons p r =>
    have e : ints? ((p :: r).map pairD) = none := rfl
    simp only [oSortA, sortD, e, prs_self, Option.map_some]
theorem sort_pairsL (ps : Ts) : oSortA (.list (ps.map pairD)) = some (.list ((srtP ps).map pairD)) := by
  cases ps with
  | nil => rfl
  | cons p r =>
    have e : ints? ((p :: r).map pairD) = none := rfl
    simp only [oSortA, sortD, e, prs_self, Option.map_some]
theorem add_tie (ps : Ts) (p : Int × Int) (hz : ps.length ≤ 1000) : oAdd (.tuple (ps.map pairD)) (.tuple [pairD p]) = some (.tuple ((ps ++ [p]).map pairD)) := by
  rw [oAdd_tuple, if_pos (by rw [List.length_map, PySem.sizeLine_eq, List.length_singleton]; omega), List.map_append]
  rfl
theorem with_of_eq {m : Nat} {ps : Ts} (p : Int × Int) (hz : ps.length ≤ 1000) : S_with_of [webD m ps, pairD p] = .ok (webD m (srtP (ps ++ [p])), none) := by
  have a0 := atW0 m ps
  have a1 := atW1 m ps
  have ad := add_tie ps p hz
  have so := sort_pairsT (ps ++ [p])
  refine run_rt (g := g_with_of) (δ := [some (.v (webD m ps)), some (.v (pairD p))]) ?_ rfl
  show g_with_of [some (.v (webD m ps)), some (.v (pairD p))] = _
  unfold g_with_of webD
  generalize ps.map pairD = ts at *
  generalize (ps ++ [p]).map pairD = ts2 at *
  generalize (srtP (ps ++ [p])).map pairD = ts3 at *
  generalize pairD p = d at *
  simp [a0, a1, ad, so, PySem.sizeLine_eq]
theorem with_tie_eq {D t : PyData} (h : shD D = true) (hl : ∀ a ts, D = .tuple [a, .tuple ts] → ts.length < 64) (ht : shD t = true) :
    (¬ Web D → S_with_tie [D, t] = .err "NoWeb") ∧ ∀ m ps, D = webD m ps → Web D → S_with_tie [D, t] = if tieB m t = true ∧ prOf t ∉ ps then .ok (webD m (srtP (ps ++ [prOf t])), none) else .err "NoTie" := by
  constructor
  · intro hw
    have c := check_web_err h hl hw
    refine run_err (g := g_with_tie) ?_
    show g_with_tie [some (.v D), some (.v t)] = _
    unfold g_with_tie
    simp [c]
  · rintro m ps rfl hw
    have c := check_web_ok h hl hw
    have hz : ps.length < 64 := by have := hl _ _ rfl; rwa [List.length_map] at this
    have n := check_new_eq (m := m) (ps := ps) ht
    by_cases hc : tieB m t = true ∧ prOf t ∉ ps
    · rw [if_pos hc] at n ⊢
      obtain ⟨p, rfl, _⟩ := tieB_pair hc.1
      have wo := with_of_eq (m := m) (ps := ps) p (by omega)
      refine run_rt (g := g_with_tie) (δ := [some (.v (webD m ps)), some (.v (pairD p))]) ?_ rfl
      show g_with_tie [some (.v (webD m ps)), some (.v (pairD p))] = _
      unfold g_with_tie
      rw [prOf_pair]
      generalize webD m ps = W at *
      generalize webD m (srtP (ps ++ [p])) = W2 at *
      generalize pairD p = d at *
      simp [c, n, wo]
    · rw [if_neg hc] at n ⊢
      refine run_err (g := g_with_tie) ?_
      show g_with_tie [some (.v (webD m ps)), some (.v t)] = _
      unfold g_with_tie
      generalize webD m ps = W at *
      simp [c, n]
end Kc

set_option maxRecDepth 100000
set_option maxHeartbeats 3900000
/-! ## M10. a tie taken away -/
namespace Pw
open PySem L2
theorem try_ok {m : Nat} {cs : List Str} {wd : Str → PyData} {g : Dv → Rs (Fl × Dv)} {δ : Dv} {x : Fl × Dv} (hn : noAb δ = true) (h : g δ = .ok x) : gTry m cs wd g δ = .ok x := by
  unfold gTry
  rw [if_pos hn, h]
theorem try_err {m : Nat} {cs : List Str} {wd : Str → PyData} {g : Dv → Rs (Fl × Dv)} {δ : Dv} {z : Str} (hn : noAb δ = true) (h : g δ = .err z) (hz : z ∈ cs) : gTry m cs wd g δ = .ok (.rt (wd z), List.replicate m none) := by
  unfold gTry
  rw [if_pos hn, h]
  exact if_pos hz
end Pw
namespace Kc
open PySem L2 Pw Gr
def rest (ps : Ts) (p : Int × Int) : Ts := ps.filter fun q => decide (q ≠ p)
theorem ne_pair (p q : Int × Int) : oNe (pairD p) (pairD q) = some (.bool (!decide (p = q))) := by
  unfold oNe
  rw [okD_pair, okD_pair, eqv_pair]
  rfl
theorem filter_pairs (p : Int × Int) : ∀ ps : Ts, (((ps.map pairD).filter fun d => !decide (prOf d = p)).map id) = (rest ps p).map pairD
  | [] => rfl
  | q :: r => by
    have ih := filter_pairs p r
    unfold rest at ih ⊢
    by_cases h : q = p
    · subst h
      rw [List.map_cons, List.filter_cons_of_neg (by simp), List.filter_cons_of_neg (by simp)]
      exact ih
    · rw [List.map_cons, List.filter_cons_of_pos (by simp [h]), List.filter_cons_of_pos (by simp [h]), List.map_cons, List.map_cons, ih]
      rfl
/-- the row without the tie, both texts -/
theorem rest_lc {m : Nat} {ps : Ts} (p : Int × Int) (hz : ps.length ≤ 1000) : fLc [3] (wSeq (fIxv 0 (fC (.int 1)))) (bName 3) (fT (f2 oNe (fVar 3) (fVar 1))) (fVar 3) [some (.v (webD m ps)), some (.v (pairD p)), none, none] = .ok (.list ((rest ps p).map pairD), [some (.v (webD m ps)), some (.v (pairD p)), none, none]) := by
  rw [← filter_pairs]
  have a1 := atW1 m ps
  refine lc_pure (x := (ps.map pairD, [some (.v (webD m ps)), some (.v (pairD p)), none, none])) (p := fun d => !decide (prOf d = p)) (e := id) ?_ (by rw [List.length_map, PySem.sizeLine_eq]; omega) fun d hd => ?_
  · unfold webD
    generalize ps.map pairD = ts at *
    simp [a1]
  · obtain ⟨q, hq, rfl⟩ := List.mem_map.mp hd
    have n := ne_pair q p
    refine ⟨[some (.v (webD m ps)), some (.v (pairD p)), none, some (.v (pairD q))], ?_, ?_, fun _ => ?_, ?_⟩
    · simp [anchD, wipeD, anch1]
    · rw [prOf_pair]
      generalize pairD q = dq at *
      generalize pairD p = dp at *
      simp [n]
    · simp
    · simp [anchD, wipeD, anch1]
theorem rest_sub {ps : Ts} {p q : Int × Int} (h : q ∈ rest ps p) : q ∈ ps := (List.mem_filter.mp h).1
theorem rest_len (ps : Ts) (p : Int × Int) : (rest ps p).length ≤ ps.length := List.length_filter_le _ _
/-- all places hang together -/
def Hang (m : Nat) (ps : Ts) : Prop := ∀ x : Int, 0 ≤ x ∧ x < m → Rch ps 0 x
theorem without_of_eq {m : Nat} {ps : Ts} {t : PyData} (w : WebOk m ps) (hz : ps.length < 64) (ht : shD t = true) :
    (¬ (tieB m t = true ∧ prOf t ∈ ps) → S_without_of [webD m ps, t] = .err "NoTie") ∧ (tieB m t = true ∧ prOf t ∈ ps → (¬ Hang m (rest ps (prOf t)) → S_without_of [webD m ps, t] = .err "Apart") ∧ (Hang m (rest ps (prOf t)) → S_without_of [webD m ps, t] = .ok (webD m (rest ps (prOf t)), none))) := by
  have a0 := atW0 m ps
  have a1 := atW1 m ps
  have it := is_tie_eq ht m
  constructor
  · intro hc
    refine run_err (g := g_without_of) ?_
    show g_without_of [some (.v (webD m ps)), some (.v t), none, none] = _
    unfold g_without_of
    by_cases h : tieB m t = true
    · obtain ⟨_, i2⟩ := in_ties (ps := ps) h
      have h2 : prOf t ∉ ps := fun z => hc ⟨h, z⟩
      unfold webD
      generalize ps.map pairD = ts at *
      simp [a0, a1, it, h, i2, h2]
    · rw [Bool.not_eq_true] at h
      unfold webD
      generalize ps.map pairD = ts at *
      simp [a0, it, h]
  · rintro ⟨h, h2⟩
    obtain ⟨p, rfl, hp⟩ := tieB_pair h
    rw [prOf_pair] at h2 ⊢
    obtain ⟨_, i2⟩ := in_ties (ps := ps) h
    rw [prOf_pair] at i2
    have lc := rest_lc (m := m) (ps := ps) p (by omega)
    have bd : Bd m (rest ps p) := fun q hq => by have := w.tie q (rest_sub hq); omega
    have lo := w.lo
    have hi := w.hi
    obtain ⟨l1, ff1, c1, r1⟩ := reached_eq (f := 0) (td := .tuple ((rest ps p).map pairD)) (ps := rest ps p) rfl (by omega) bd (by omega)
    have fl := full (m := m) ff1.nd fun x hx => (ff1.rch x hx).bd bd (by omega)
    have few1 := few (m := m) ff1.nd fun x hx => (ff1.rch x hx).bd bd (by omega)
    have hang : Hang m (rest ps p) ↔ l1.length = m := by
      constructor
      · intro z
        refine fl.mpr (srtI_of ?_ (sorted_upTo m)).symm
        exact (List.perm_ext_iff_of_nodup (nodup_upTo m) ff1.nd).mpr fun x => ⟨fun hx => (c1 x).mpr (z x (Gr.mem_upTo.mp hx)), fun hx => Gr.mem_upTo.mpr ((ff1.rch x hx).bd bd (by omega))⟩
      · intro z x hx
        have z3 := fl.mp z
        have : x ∈ srtI l1 := by rw [z3]; exact Gr.mem_upTo.mpr hx
        exact (c1 x).mp ((isrt_perm l1).mem_iff.mp this)
    obtain ⟨L5, r1', len5⟩ : ∃ L5 : List PyData, S_reached [.tuple ((rest ps p).map pairD), .int 0] = .ok (.tuple L5, none) ∧ L5.length = l1.length := ⟨_, r1, by rw [List.length_map]; exact (isrt_perm l1).length_eq⟩
    have step : ∀ (r : Rs (Fl × Dv)), ((gSeq (gIf (fT (f2 oLtA (f1 oLen (fCall S_reached (aCons (fVar 2) (aCons (fC (.int 0)) aNil)))) (fIxv 0 (fC (.int 0))))) (gErr "Apart") gNx) (gRet (fTup (aCons (fIxv 0 (fC (.int 0))) (aCons (fVar 2) aNil))))) [some (.v (webD m ps)), some (.v (pairD p)), some (.v (.tuple ((rest ps p).map pairD))), none] = r) →
        g_without_of [some (.v (webD m ps)), some (.v (pairD p)), none, none] = r := by
      intro r hr
      unfold g_without_of
      rw [← hr]
      clear hr r1 r1'
      unfold webD at lc ⊢
      generalize ps.map pairD = ts at *
      generalize (rest ps p).map pairD = ts2 at *
      generalize pairD p = d at *
      simp [a0, a1, it, h, i2, h2, lc]
    constructor
    · intro hn
      have hlt : l1.length < m := by
        have : l1.length ≠ m := fun z => hn (hang.mpr z)
        omega
      refine run_err (g := g_without_of) (step _ ?_)
      have hlt' : (l1.length : Int) < m := by omega
      unfold webD
      generalize ps.map pairD = ts at *
      generalize (rest ps p).map pairD = ts2 at *
      generalize pairD p = d at *
      simp [a0, r1', len5, hlt]
    · intro hy
      have hge : ¬ l1.length < m := by
        have := hang.mp hy
        omega
      refine run_rt (g := g_without_of) (δ := [some (.v (webD m ps)), some (.v (pairD p)), some (.v (.tuple ((rest ps p).map pairD))), none]) (step _ ?_) rfl
      unfold webD
      generalize ps.map pairD = ts at *
      generalize (rest ps p).map pairD = ts2 at *
      generalize pairD p = d at *
      simp [a0, r1', len5, hge, PySem.sizeLine_eq]
theorem without_eq {D t : PyData} (h : shD D = true) (hl : ∀ a ts, D = .tuple [a, .tuple ts] → ts.length < 64) (ht : shD t = true) :
    (¬ Web D → S_without [D, t] = .err "NoWeb") ∧ ∀ m ps, D = webD m ps → Web D → S_without [D, t] = S_without_of [D, t] := by
  constructor
  · intro hw
    have c := check_web_err h hl hw
    refine run_err (g := g_without) ?_
    show g_without [some (.v D), some (.v t)] = _
    unfold g_without
    simp [c]
  · rintro m ps rfl hw
    have c := check_web_ok h hl hw
    obtain ⟨m', ps', e, w⟩ := hw
    have em : m' = m ∧ ps' = ps := by
      unfold webD at e
      simp only [PyData.tuple.injEq, List.cons.injEq, PyData.int.injEq, and_true] at e
      refine ⟨by omega, ?_⟩
      have q1 := prs_self ps
      rw [e.2, prs_self] at q1
      exact Option.some.inj q1
    obtain ⟨rfl, rfl⟩ := em
    have hz : ps'.length < 64 := by have := hl _ _ rfl; rwa [List.length_map] at this
    obtain ⟨h1, h2⟩ := without_of_eq w hz ht
    have fin : ∀ r, S_without_of [webD m' ps', t] = r → ((∃ d, r = .ok (d, none)) ∨ ∃ z, r = .err z) → S_without [webD m' ps', t] = r := by
      intro r hr hk
      rcases hk with ⟨d, rfl⟩ | ⟨z, rfl⟩
      · refine run_rt (g := g_without) (δ := [some (.v (webD m' ps')), some (.v t)]) ?_ rfl
        show g_without [some (.v (webD m' ps')), some (.v t)] = _
        unfold g_without
        generalize webD m' ps' = W at *
        simp [c, hr]
      · refine run_err (g := g_without) ?_
        show g_without [some (.v (webD m' ps')), some (.v t)] = _
        unfold g_without
        generalize webD m' ps' = W at *
        simp [c, hr]
    refine fin _ rfl ?_
    by_cases hc : tieB m' t = true ∧ prOf t ∈ ps'
    · obtain ⟨k1, k2⟩ := h2 hc
      by_cases hg : Hang m' (rest ps' (prOf t))
      · rw [k2 hg]; exact .inl ⟨_, rfl⟩
      · rw [k1 hg]; exact .inr ⟨_, rfl⟩
    · rw [h1 hc]; exact .inr ⟨_, rfl⟩
end Kc

set_option maxRecDepth 100000
set_option maxHeartbeats 3900000
/-! ## M11. data that repr shows -/
namespace Pw
open PySem L2
/-- shallow and light -/
structure Sml (k w : Nat) (d : PyData) : Prop where
  sh : shD d = true
  sw : d.showable = true
  lv : d.leavesShort 60 = true
  dp : d.depth ≤ k
  wt : d.weight ≤ w
theorem Sml.mono {k w k' w' : Nat} {d : PyData} (h : Sml k w d) (hk : k ≤ k') (hw : w ≤ w') : Sml k' w' d := ⟨h.sh, h.sw, h.lv, Nat.le_trans h.dp hk, Nat.le_trans h.wt hw⟩
theorem Sml.ok {k w : Nat} {d : PyData} (h : Sml k w d) (hk : k ≤ 60) (hw : w ≤ 200000) : okR d = true := by
  have h1 := PyData.shown_le 60 (by decide) d h.lv
  have h2 := h.wt
  have h3 : (60 + 2) * d.weight ≤ 62 * 200000 := Nat.mul_le_mul (Nat.le_refl _) (by omega)
  unfold okR
  simp only [h.sh, h.sw, Bool.true_and, Bool.and_eq_true, decide_eq_true_eq]
  refine ⟨Nat.le_trans h.dp hk, ?_⟩
  rw [PySem.sizeLine_eq]
  omega
theorem Sml.row {k w : Nat} : ∀ {ds : List PyData}, (∀ d ∈ ds, Sml k w d) → shA ds = true ∧ PyData.showableAll ds = true ∧ PyData.leavesShortAll 60 ds = true ∧ PyData.depthAll ds ≤ k ∧ PyData.weightAll ds ≤ ds.length * (w + 1)
  | [], _ => ⟨rfl, rfl, rfl, Nat.zero_le _, Nat.zero_le _⟩
  | d :: ds, h => by
    obtain ⟨h1, h2, h3, h4, h5⟩ := Sml.row (ds := ds) fun x hx => h x (List.mem_cons_of_mem _ hx)
    have hd := h d List.mem_cons_self
    refine ⟨by simp only [shA, hd.sh, h1, Bool.and_self], by simp only [PyData.showableAll, hd.sw, h2, Bool.and_self], by simp only [PyData.leavesShortAll, hd.lv, h3, Bool.and_self], ?_, ?_⟩
    · rw [PyData.depthAll]
      exact Nat.max_le.mpr ⟨hd.dp, h4⟩
    · rw [PyData.weightAll, List.length_cons, Nat.succ_mul]
      have := hd.wt
      omega
theorem Sml.int {i : Int} (h : i.natAbs < 10 ^ 39) : Sml 0 131 (.int i) := by
  have e := int_text_length_le10 (k := 39) (by decide) h
  have lg : i.natAbs.log2 < 130 := by
    by_cases h0 : i.natAbs = 0
    · rw [h0]; decide
    · exact (Nat.log2_lt h0).mpr (Nat.lt_of_lt_of_le h (by decide))
  refine ⟨rfl, by simp only [PyData.showable, decide_eq_true_eq]; omega, ?_, Nat.le_refl _, ?_⟩
  · simp only [PyData.leavesShort, decide_eq_true_eq]
    show (Str.ofString (toString i)).length ≤ 60
    rw [ofString_length]
    omega
  · rw [PyData.weight]
    split <;> omega
theorem Sml.list {k w : Nat} {ds : List PyData} (h : ∀ d ∈ ds, Sml k w d) : Sml (k + 1) (ds.length * (w + 1)) (.list ds) := by
  obtain ⟨h1, h2, h3, h4, h5⟩ := Sml.row h
  exact ⟨by simpa [shD] using h1, by simpa [PyData.showable] using h2, by simpa [PyData.leavesShort] using h3, by rw [PyData.depth]; omega, by rw [PyData.weight]; exact h5⟩
theorem Sml.tuple {k w : Nat} {ds : List PyData} (h : ∀ d ∈ ds, Sml k w d) : Sml (k + 1) (ds.length * (w + 1)) (.tuple ds) := by
  obtain ⟨h1, h2, h3, h4, h5⟩ := Sml.row h
  exact ⟨by simpa [shD] using h1, by simpa [PyData.showable] using h2, by simpa [PyData.leavesShort] using h3, by rw [PyData.depth]; omega, by rw [PyData.weight]; exact h5⟩
theorem Sml.pair {p : Int × Int} (h1 : p.1.natAbs < 10 ^ 39) (h2 : p.2.natAbs < 10 ^ 39) : Sml 1 264 (pairD p) := by
  refine Sml.mono (Sml.tuple (k := 0) (w := 131) (ds := [.int p.1, .int p.2]) fun d hd => ?_) (Nat.le_refl _) (Nat.le_refl _)
  rcases List.mem_cons.mp hd with e | hd
  · rw [e]; exact Sml.int h1
  · rw [List.mem_singleton.mp hd]; exact Sml.int h2
/-- leaves of no account -/
theorem Sml.leaf {d : PyData} (h1 : shD d = true) (h2 : d.showable = true) (h3 : d.leavesShort 60 = true) (h4 : d.depth = 0) (h5 : d.weight ≤ 131) : Sml 0 131 d := ⟨h1, h2, h3, by omega, h5⟩
end Pw
namespace Kc
open PySem L2 Pw Gr
theorem sml_ties {ps : Ts} (hz : ps.length ≤ 70) (h : ∀ p ∈ ps, p.1.natAbs < 10 ^ 39 ∧ p.2.natAbs < 10 ^ 39) : Sml 2 18550 (.tuple (ps.map pairD)) := by
  refine Sml.mono (Sml.tuple (k := 1) (w := 264) fun d hd => ?_) (Nat.le_refl _) ?_
  · obtain ⟨p, hp, rfl⟩ := List.mem_map.mp hd
    exact Sml.pair (h p hp).1 (h p hp).2
  · rw [List.length_map]
    omega
theorem sml_web {m : Nat} {ps : Ts} (hm : m ≤ 100) (hz : ps.length ≤ 70) (h : ∀ p ∈ ps, p.1.natAbs < 10 ^ 39 ∧ p.2.natAbs < 10 ^ 39) : Sml 3 37102 (webD m ps) := by
  have b : (100 : Nat) < 10 ^ 39 := by decide
  refine Sml.mono (Sml.tuple (k := 2) (w := 18550) (ds := [.int m, .tuple (ps.map pairD)]) fun d hd => ?_) (Nat.le_refl _) (Nat.le_refl _)
  rcases List.mem_cons.mp hd with e | hd
  · rw [e]
    exact Sml.mono (Sml.int (by rw [Int.natAbs_natCast]; omega)) (by decide) (by decide)
  · rw [List.mem_singleton.mp hd]
    exact sml_ties hz h
end Kc

set_option maxRecDepth 100000
set_option maxHeartbeats 3900000
/-! ## M12. the script's cells, the pot -/
namespace Kc
open PySem L2 Pw Gr
theorem len_scr (ns : List Int) : oLen (scrD ns) = some (.int ns.length) := by
  show (scrL [(.none, .list (ns.map .int))]).map (fun ds => PyData.int ds.length) = _
  rw [scrL_yes]
  simp
theorem ix_scr (ns : List Int) (i : Int) : ixD (scrD ns) i = atI (ns.map .int) i := by
  show (scrL [(.none, .list (ns.map .int))]).bind (fun ds => atI ds i) = _
  rw [scrL_yes]
  rfl
theorem cell_at_eq (ns : List Int) (k : Nat) : S__law_cell_at [scrD ns, .int k] = .ok (.int (ns.getD k 0), none) := by
  by_cases h : k < ns.length
  · refine run_rt (g := g__law_cell_at) (δ := [some (.v (scrD ns)), some (.v (.int k))]) ?_ rfl
    show g__law_cell_at [some (.v (scrD ns)), some (.v (.int k))] = _
    have hl := len_scr ns
    have hx := ix_scr ns k
    have e : atI (ns.map PyData.int) (k : Int) = some (.int (ns.getD k 0)) := atI_nat (by rw [List.getElem?_map, List.getD_eq_getElem?_getD, List.getElem?_eq_getElem h]; rfl)
    rw [e] at hx
    unfold g__law_cell_at
    generalize scrD ns = sd at *
    generalize ns.getD k 0 = r at *
    simp [hl, hx, h]
  · refine run_rt (g := g__law_cell_at) (δ := [some (.v (scrD ns)), some (.v (.int k))]) ?_ rfl
    show g__law_cell_at [some (.v (scrD ns)), some (.v (.int k))] = _
    have hl := len_scr ns
    have e : ns.getD k 0 = 0 := by rw [List.getD_eq_getElem?_getD, List.getElem?_eq_none (by omega)]; rfl
    rw [e]
    unfold g__law_cell_at
    generalize scrD ns = sd at *
    simp [hl, h]
/-- a pot -/
def potD (n : Int) : PyData := .list [.int n]
theorem log_small {n : Int} {k : Nat} (h0 : 0 ≤ n) (h : n < 2 ^ k) (hk : 1 ≤ k) : n.natAbs.log2 < k := by
  by_cases h0' : n.natAbs = 0
  · rw [h0']
    show 0 < k
    omega
  · refine (Nat.log2_lt h0').mpr ?_
    have : (n.natAbs : Int) < ((2 ^ k : Nat) : Int) := by
      rw [Int.natAbs_of_nonneg h0]
      exact_mod_cast h
    exact_mod_cast this
theorem pow1018 : oPow (.int 10) (.int 18) = some (.int 1000000000000000000) := by rfl
end Kc

set_option maxRecDepth 100000
set_option maxHeartbeats 3900000
/-! ## M13. the pot -/
namespace Kc
open PySem L2 Pw Gr
theorem mul_ok {i j : Int} (hi : i.natAbs < 2 ^ 4000) (hj : j.natAbs < 2 ^ 4000) : oMul (.int i) (.int j) = some (.int (i * j)) := by
  have l : ∀ x : Nat, x < 2 ^ 4000 → x.log2 < 4000 := fun x hx => by
    by_cases h0 : x = 0
    · rw [h0]; decide
    · exact (Nat.log2_lt h0).mpr hx
  have := l _ hi
  have := l _ hj
  rw [oMul_int, oMulI_int, if_pos (by omega)]
theorem small_pow {i : Int} (h0 : 0 ≤ i) (h : i < 4294967296 * 4294967296) : i.natAbs < 2 ^ 4000 := by
  have e : (4294967296 * 4294967296 : Nat) ≤ 2 ^ 4000 := by decide +kernel
  omega
def mix1 (c : Int) (j : Nat) : Int := (c % 2147483629 + 7919 * (j : Int) + 1) * 48271 % 2147483647
def mix2 (c : Int) (j : Nat) : Int := (mix1 c j * mix1 c j + 69621 * (j : Int) + 7) % 2147483587
theorem mix_step {c n : Int} {j : Nat} (hj : j < 64) (hn0 : 0 ≤ n) (hn : n.natAbs < 2 ^ 4000) (x2 x3 : Option SV) (h3 : isV x3 = true) : (gSeq (gSet 3 (f2 oMod (f2 oMul (f2 oAdd (f2 oAdd (f2 oMod (fVar 0) (fC (.int 2147483629))) (f2 oMul (fC (.int 7919)) (fVar 2))) (fC (.int 1))) (fC (.int 48271))) (fC (.int 2147483647)))) (gSeq (gSet 3 (f2 oMod (f2 oAdd (f2 oAdd (f2 oMul (fVar 3) (fVar 3)) (f2 oMul (fC (.int 69621)) (fVar 2))) (fC (.int 7))) (fC (.int 2147483587)))) (gSet 1 (f2 oAdd (f2 oMul (fVar 1) (fC (.int 2147483587))) (fVar 3)))))
    [some (.v (.int c)), some (.v (.int n)), some (.v (.int j)), x3] = .ok (.nx, [some (.v (.int c)), some (.v (.int (n * 2147483587 + mix2 c j))), some (.v (.int j)), some (.v (.int (mix2 c j)))]) := by
  have c0 : 0 ≤ c % 2147483629 := Int.emod_nonneg _ (by decide)
  have c1 : c % 2147483629 < 2147483629 := Int.emod_lt_of_pos _ (by decide)
  have m1 : oMul (.int 7919) (.int j) = some (.int (7919 * (j : Int))) := mul_ok (small_pow (by decide) (by decide)) (small_pow (by omega) (by omega))
  have m2 : oMul (.int (c % 2147483629 + 7919 * (j : Int) + 1)) (.int 48271) = some (.int ((c % 2147483629 + 7919 * (j : Int) + 1) * 48271)) := mul_ok (small_pow (by omega) (by omega)) (small_pow (by decide) (by decide))
  have d0 : 0 ≤ mix1 c j := Int.emod_nonneg _ (by decide)
  have d1 : mix1 c j < 2147483647 := Int.emod_lt_of_pos _ (by decide)
  have e1 : (c % 2147483629 + 7919 * (j : Int) + 1) * 48271 % 2147483647 = mix1 c j := rfl
  have m3 : oMul (.int (mix1 c j)) (.int (mix1 c j)) = some (.int (mix1 c j * mix1 c j)) := mul_ok (small_pow d0 (by omega)) (small_pow d0 (by omega))
  have m4 : oMul (.int 69621) (.int j) = some (.int (69621 * (j : Int))) := mul_ok (small_pow (by decide) (by decide)) (small_pow (by omega) (by omega))
  have e2 : (mix1 c j * mix1 c j + 69621 * (j : Int) + 7) % 2147483587 = mix2 c j := rfl
  have m5 : oMul (.int n) (.int 2147483587) = some (.int (n * 2147483587)) := mul_ok hn (small_pow (by decide) (by decide))
  have f3 := isV_free h3
  simp [-oMul_int, m1, m2, e1, m3, m4, e2, m5, f3]
def nm (c : Int) : Nat → Int
  | 0 => 0
  | j + 1 => nm c j * 2147483587 + mix2 c j
theorem nm_bd (c : Int) : ∀ j : Nat, 0 ≤ nm c j ∧ nm c j < (2147483587 : Int) ^ j
  | 0 => by
    show (0 : Int) ≤ 0 ∧ (0 : Int) < 1
    decide
  | j + 1 => by
    obtain ⟨h0, h1⟩ := nm_bd c j
    have d0 : 0 ≤ mix2 c j := Int.emod_nonneg _ (by decide)
    have d1 : mix2 c j < 2147483587 := Int.emod_lt_of_pos _ (by decide)
    rw [nm, Int.pow_succ]
    have : (nm c j + 1) * 2147483587 ≤ 2147483587 ^ j * 2147483587 := Int.mul_le_mul_of_nonneg_right (by omega) (by decide)
    rw [Int.add_mul] at this
    have p : 0 ≤ nm c j * 2147483587 := Int.mul_nonneg h0 (by decide)
    omega
theorem nm_small (c : Int) {j : Nat} (hj : j ≤ 64) : (nm c j).natAbs < 2 ^ 4000 := by
  obtain ⟨h0, h1⟩ := nm_bd c j
  have e : (2147483587 : Nat) ^ j ≤ 2147483587 ^ 64 := Nat.pow_le_pow_right (by decide) hj
  have e2 : (2147483587 : Nat) ^ 64 < 2 ^ 4000 := by decide +kernel
  have e3 : ((nm c j).natAbs : Int) < (((2147483587 : Nat) ^ j : Nat) : Int) := by
    rw [Int.natAbs_of_nonneg h0, Int.natCast_pow]
    exact h1
  have e4 : (nm c j).natAbs < (2147483587 : Nat) ^ j := by exact_mod_cast e3
  exact Nat.lt_of_lt_of_le e4 (Nat.le_trans e (Nat.le_of_lt e2))
/-- a cell's pot -/
theorem pot_eq (c : Int) : ∃ n : Int, 0 ≤ n ∧ S__law_pot [.int c] = .ok (potD n, none) := by
  by_cases hc : 1000000000000000000 ≤ c
  · refine ⟨c - 1000000000000000000, by omega, run_rt (g := g__law_pot) (δ := [some (.v (.int c)), none, none, none]) ?_ rfl⟩
    show g__law_pot [some (.v (.int c)), none, none, none] = _
    unfold g__law_pot potD
    simp [pow1018, hc, PySem.sizeLine_eq]
  · refine ⟨nm c 64, (nm_bd c 64).1, ?_⟩
    have body := for_ix (α := Unit) (b := bName 2) (g := (gSeq (gSet 3 (f2 oMod (f2 oMul (f2 oAdd (f2 oAdd (f2 oMod (fVar 0) (fC (.int 2147483629))) (f2 oMul (fC (.int 7919)) (fVar 2))) (fC (.int 1))) (fC (.int 48271))) (fC (.int 2147483647)))) (gSeq (gSet 3 (f2 oMod (f2 oAdd (f2 oAdd (f2 oMul (fVar 3) (fVar 3)) (f2 oMul (fC (.int 69621)) (fVar 2))) (fC (.int 7))) (fC (.int 2147483587)))) (gSet 1 (f2 oAdd (f2 oMul (fVar 1) (fC (.int 2147483587))) (fVar 3))))))
      (fun k _ δ => ∃ x2 x3, δ = [some (.v (.int c)), some (.v (.int (nm c k))), x2, x3] ∧ isV x2 = true ∧ isV x3 = true) (rngD 0 64) (fun _ _ _ => True) (fun k d s δ hd ⟨x2, x3, e, h2, h3⟩ => by
        subst e
        have hk : k < 64 := by
          have := (List.getElem?_eq_some_iff.mp hd).1
          rw [rngD, List.length_map, List.length_range] at this
          exact this
        have ed : d = .int k := by
          rw [rngD, List.getElem?_map, List.getElem?_range hk] at hd
          have := Option.some.inj hd
          rw [← this]
          show PyData.int (0 + (k : Int)) = _
          rw [Int.zero_add]
        subst ed
        have f2 := isV_free h2
        refine ⟨[some (.v (.int c)), some (.v (.int (nm c k))), some (.v (.int k)), x3], _, (), ?_, mix_step hk (nm_bd c k).1 (nm_small c (by omega)) x2 x3 h3, ⟨_, _, rfl, rfl, rfl⟩⟩
        simp [f2]) 64 0 () [some (.v (.int c)), some (.v (.int 0)), none, none] rfl ⟨none, none, rfl, rfl, rfl⟩
    obtain ⟨δ', _, h1, ⟨x2, x3, rfl, _, _⟩⟩ := body
    have len : (rngD 0 64).length = 64 := by rw [rngD, List.length_map, List.length_range]
    rw [List.drop_zero, len] at h1
    refine run_rt (g := g__law_pot) (δ := [some (.v (.int c)), some (.v (.int (nm c 64))), x2, x3]) ?_ rfl
    show g__law_pot [some (.v (.int c)), none, none, none] = _
    have i6 : i62 64 = true := i62_small (by decide) (by decide)
    have q1 : (gIf (fT (f2 oGe (fVar 0) (f2 oPow (fC (.int 10)) (fC (.int 18))))) (gRet (fLst (aCons (f2 oSub (fVar 0) (f2 oPow (fC (.int 10)) (fC (.int 18)))) aNil))) gNx) [some (.v (.int c)), none, none, none] = .ok (.nx, [some (.v (.int c)), none, none, none]) := by simp [pow1018, hc]
    have q2 : (gSet 1 (fC (.int 0))) [some (.v (.int c)), none, none, none] = .ok (.nx, [some (.v (.int c)), some (.v (.int 0)), none, none]) := by simp
    unfold g__law_pot potD
    rw [ev_seq, q1]
    simp only [Rs.bind_ok, Fl.on_nx]
    rw [ev_seq, q2]
    simp only [Rs.bind_ok, Fl.on_nx]
    rw [ev_seq, ev_for, ev_rng1]
    simp only [ev_c, Rs.bind_ok, onI_int, i6, if_true]
    rw [show (64 : Int).toNat = 64 from rfl, h1]
    generalize nm c 64 = n at *
    simp [PySem.sizeLine_eq]
end Kc

set_option maxRecDepth 100000
set_option maxHeartbeats 3900000
/-! ## M14. a drawn web: names -/
namespace Kc
open PySem L2 Pw Gr
theorem erase_map {α β : Type} (f : α → β) : ∀ (l : List α) (i : Nat), (l.map f).eraseIdx i = (l.eraseIdx i).map f
  | [], i => by simp
  | a :: r, 0 => by simp
  | a :: r, i + 1 => by
    have ih := erase_map f r i
    simp [ih]
theorem erase_perm {α : Type} : ∀ {l : List α} {i : Nat} (h : i < l.length), (l[i] :: l.eraseIdx i).Perm l
  | a :: r, 0, _ => .refl _
  | a :: r, i + 1, h => by
    have h' : i < r.length := by simpa using h
    have ih := erase_perm (l := r) (i := i) h'
    show (r[i] :: a :: r.eraseIdx i).Perm (a :: r)
    exact (List.Perm.swap a r[i] _).trans (List.Perm.cons a ih)
/-- a draw from the pot -/
theorem tk_eq {fx : Dv → Rs (PyData × Dv)} {n f : Int} {r : Dv} (hx : fx (some (.a (potD n)) :: r) = .ok (.int f, some (.a (potD n)) :: r)) (h0 : 0 < f) (h1 : f ≤ 1000000) : fCallM S__law_take 0 (aCons fx aNil) (some (.a (potD n)) :: r) = .ok (.int (n % f), some (.a (potD (n / f))) :: r) := by
  have lz : f.natAbs.log2 < 9000 := by
    have := log_small (n := f) (k := 21) (by omega) (by
      have e : ((2 : Int) ^ 21) = 2097152 := by decide
      rw [e]; omega) (by decide)
    omega
  have t := take_eq n f h0 lz
  unfold potD at *
  simp [hx, t]
/-- the state while the places are called -/
def cst (n : Int) (left : List Int) (a1 a2 a3 a4 a5 : PyData) : Dv := [some (.a (potD n)), some (.v a1), some (.v a2), some (.v a3), some (.v a4), some (.v a5), some (.a (.list (left.map .int))), none, none, none, none, none, none, none]
theorem called_loop (a1 a2 a3 a4 a5 : PyData) : ∀ (ds : List PyData) (left : List Int) (n : Int), left.length = ds.length → ds.length ≤ 1000 → 0 ≤ n →
    ∃ (cs : List Int) (n' : Int), cs.Perm left ∧ 0 ≤ n' ∧ compN [10] (bName 10) tYesD (fMt 6 mPopAt (aCons (fCallM S__law_take 0 (aCons (f1 oLen (fBar 6)) aNil)) aNil)) ds (cst n left a1 a2 a3 a4 a5) = .ok (cs.map .int, cst n' [] a1 a2 a3 a4 a5)
  | [], left, n, hl, _, hn => by
    have e : left = [] := List.length_eq_zero_iff.mp hl
    subst e
    exact ⟨[], n, .nil, hn, rfl⟩
  | d :: ds, left, n, hl, hz, hn => by
    rw [List.length_cons] at hl hz
    have kp : (0 : Int) < left.length := by omega
    have r0 : 0 ≤ n % (left.length : Int) := Int.emod_nonneg _ (by omega)
    have r1 : n % (left.length : Int) < left.length := Int.emod_lt_of_pos _ kp
    obtain ⟨i, hi⟩ : ∃ i : Nat, n % (left.length : Int) = i := ⟨(n % (left.length : Int)).toNat, by omega⟩
    have il : i < left.length := by omega
    obtain ⟨cs, n', h1, h2, h3⟩ := called_loop a1 a2 a3 a4 a5 ds (left.eraseIdx i) (n / left.length) (by rw [List.length_eraseIdx, if_pos il]; omega) (by omega) (Int.ediv_nonneg hn (by omega))
    refine ⟨left[i] :: cs, n', (List.Perm.cons _ h1).trans (erase_perm il), h2, ?_⟩
    have draw := tk_eq (n := n) (f := left.length) (fx := f1 oLen (fBar 6)) (r := [some (.v a1), some (.v a2), some (.v a3), some (.v a4), some (.v a5), some (.a (.list (left.map .int))), none, none, none, some (.v d), none, none, none]) (by simp) kp (by omega)
    rw [hi] at draw
    have pop : mPopAt (left.map PyData.int) [.int (i : Int)] = some (.int left[i], (left.eraseIdx i).map PyData.int) := by
      have i6 : i62 (i : Int) = true := i62_small (by omega) (by omega)
      have ix : ixN (left.map PyData.int).length (i : Int) = some i := by
        rw [List.length_map]
        exact Evl.ixN_nat il
      simp only [mPopAt, i6, if_true, ix, Option.bind_some, List.getElem?_map, List.getElem?_eq_getElem il, Option.map_some, erase_map]
    have elt : fMt 6 mPopAt (aCons (fCallM S__law_take 0 (aCons (f1 oLen (fBar 6)) aNil)) aNil) [some (.a (potD n)), some (.v a1), some (.v a2), some (.v a3), some (.v a4), some (.v a5), some (.a (.list (left.map .int))), none, none, none, some (.v d), none, none, none] =
        .ok (.int left[i], [some (.a (potD (n / left.length))), some (.v a1), some (.v a2), some (.v a3), some (.v a4), some (.v a5), some (.a (.list ((left.eraseIdx i).map .int))), none, none, none, some (.v d), none, none, none]) := by
      rw [ev_mt]
      rw [if_pos (by rfl), ev_cons, draw]
      simp only [Rs.bind_ok, ev_nil]
      simp [pop]
    rw [compN]
    have b1 : bName 10 d (cst n left a1 a2 a3 a4 a5) = some [some (.a (potD n)), some (.v a1), some (.v a2), some (.v a3), some (.v a4), some (.v a5), some (.a (.list (left.map .int))), none, none, none, some (.v d), none, none, none] := by
      unfold cst
      simp
    rw [b1]
    simp only [tYesD, noErr_ok, Rs.bind_ok, if_true, elt]
    have w1 : wipeD [some (.a (potD (n / left.length))), some (.v a1), some (.v a2), some (.v a3), some (.v a4), some (.v a5), some (.a (.list ((left.eraseIdx i).map .int))), none, none, none, some (.v d), none, none, none] [10] = cst (n / left.length) (left.eraseIdx i) a1 a2 a3 a4 a5 := rfl
    rw [w1, if_pos (by rfl), h3]
    rfl
end Kc

set_option maxRecDepth 100000
set_option maxHeartbeats 3900000
/-! ## M15. a drawn web: raw ties -/
namespace Kc
open PySem L2 Pw Gr
/-- the state while ties are drawn -/
def tSt (n : Int) (ps : Ts) (a1 a2 a3 a4 a5 a6 a7 : PyData) (δ : Dv) : Prop := ∃ x9 x10 x11 x12 x13, δ = [some (.a (potD n)), some (.v a1), some (.v a2), some (.v a3), some (.v a4), some (.v a5), some (.m a6), some (.v a7), some (.m (.list (ps.map pairD))), x9, x10, x11, x12, x13] ∧ isV x9 = true ∧ isV x10 = true ∧ isV x11 = true ∧ isV x12 = true ∧ isV x13 = true
/-- the first k ties: each place is tied to one ahead -/
def TreeR (ps : Ts) : Prop := ∀ (i : Nat) (p : Int × Int), ps[i]? = some p → p.2 = i + 1 ∧ 0 ≤ p.1 ∧ p.1 < p.2
theorem TreeR.snoc {ps : Ts} {x : Int} (h : TreeR ps) (h0 : 0 ≤ x) (h1 : x < ps.length + 1) : TreeR (ps ++ [(x, (ps.length : Int) + 1)]) := fun i p hp => by
  by_cases hi : i < ps.length
  · rw [List.getElem?_append_left hi] at hp
    exact h i p hp
  · rw [List.getElem?_append_right (by omega)] at hp
    have e : i - ps.length = 0 := by
      by_cases z : i - ps.length = 0
      · exact z
      · rw [List.getElem?_eq_none (by rw [List.length_singleton]; omega)] at hp
        cases hp
    rw [e] at hp
    cases hp
    have : i = ps.length := by omega
    subst this
    exact ⟨rfl, h0, h1⟩
abbrev gTie : Dv → Rs (Fl × Dv) := (gSeq (gSet 11 (fCallM S__law_take 0 (aCons (fVar 9) aNil))) (gDrop (fMt 8 mApp (aCons (fTup (aCons (f2 oIx (fLst (aCons (f2 oSub (fVar 9) (fC (.int 1))) (aCons (fVar 11) (aCons (fVar 11) (aCons (fC (.int 0)) aNil))))) (fVar 4)) (aCons (fVar 9) aNil))) aNil))))
theorem tie_step {n : Int} {ps : Ts} {sh : Nat} {a1 a2 a3 a5 a6 a7 : PyData} {δ : Dv} (hs : sh < 4) (hn : 0 ≤ n) (hz : ps.length ≤ 1000) (h : tSt n ps a1 a2 a3 (.int sh) a5 a6 a7 δ) : ∃ (δ1 δ2 : Dv) (x n' : Int), bName 9 (.int ((ps.length : Int) + 1)) δ = some δ1 ∧ gTie δ1 = .ok (.nx, δ2) ∧ 0 ≤ x ∧ x < ps.length + 1 ∧ 0 ≤ n' ∧ tSt n' (ps ++ [(x, (ps.length : Int) + 1)]) a1 a2 a3 (.int sh) a5 a6 a7 δ2 := by
  obtain ⟨x9, x10, x11, x12, x13, rfl, v9, v10, v11, v12, v13⟩ := h
  have j0 : (0 : Int) < (ps.length : Int) + 1 := by omega
  have r0 : 0 ≤ n % ((ps.length : Int) + 1) := Int.emod_nonneg _ (by omega)
  have r1 : n % ((ps.length : Int) + 1) < (ps.length : Int) + 1 := Int.emod_lt_of_pos _ j0
  have draw := tk_eq (n := n) (f := (ps.length : Int) + 1) (fx := fVar 9) (r := [some (.v a1), some (.v a2), some (.v a3), some (.v (.int sh)), some (.v a5), some (.m a6), some (.v a7), some (.m (.list (ps.map pairD))), some (.v (.int ((ps.length : Int) + 1))), x10, x11, x12, x13]) (by simp) j0 (by omega)
  have f9 := isV_free v9
  have f11 := isV_free v11
  generalize hr : n % ((ps.length : Int) + 1) = r at *
  have pick : ∃ x, oIx (.list [.int ((ps.length : Int) + 1 - 1), .int r, .int r, .int 0]) (.int sh) = some (.int x) ∧ 0 ≤ x ∧ x < (ps.length : Int) + 1 := by
    match sh, hs with
    | 0, _ => exact ⟨(ps.length : Int) + 1 - 1, rfl, by omega, by omega⟩
    | 1, _ => exact ⟨r, rfl, r0, r1⟩
    | 2, _ => exact ⟨r, rfl, r0, r1⟩
    | 3, _ => exact ⟨0, rfl, by omega, j0⟩
  obtain ⟨x, hx, x0, x1⟩ := pick
  have app : mApp (ps.map pairD) [.tuple [.int x, .int ((ps.length : Int) + 1)]] = some (.none, (ps ++ [(x, (ps.length : Int) + 1)]).map pairD) := by
    simp only [mApp, List.length_map]
    rw [if_pos (by rw [PySem.sizeLine_eq]; omega), List.map_append]
    rfl
  refine ⟨[some (.a (potD n)), some (.v a1), some (.v a2), some (.v a3), some (.v (.int sh)), some (.v a5), some (.m a6), some (.v a7), some (.m (.list (ps.map pairD))), some (.v (.int ((ps.length : Int) + 1))), x10, x11, x12, x13],
    [some (.a (potD (n / ((ps.length : Int) + 1)))), some (.v a1), some (.v a2), some (.v a3), some (.v (.int sh)), some (.v a5), some (.m a6), some (.v a7), some (.m (.list ((ps ++ [(x, (ps.length : Int) + 1)]).map pairD))), some (.v (.int ((ps.length : Int) + 1))), x10, some (.v (.int r)), x12, x13], x, n / ((ps.length : Int) + 1), by simp [f9], ?_, x0, x1, Int.ediv_nonneg hn (by omega), _, _, _, _, _, rfl, rfl, v10, rfl, v12, v13⟩
  have s1 : (gSet 11 (fCallM S__law_take 0 (aCons (fVar 9) aNil))) [some (.a (potD n)), some (.v a1), some (.v a2), some (.v a3), some (.v (.int sh)), some (.v a5), some (.m a6), some (.v a7), some (.m (.list (ps.map pairD))), some (.v (.int ((ps.length : Int) + 1))), x10, x11, x12, x13] =
      .ok (.nx, [some (.a (potD (n / ((ps.length : Int) + 1)))), some (.v a1), some (.v a2), some (.v a3), some (.v (.int sh)), some (.v a5), some (.m a6), some (.v a7), some (.m (.list (ps.map pairD))), some (.v (.int ((ps.length : Int) + 1))), x10, some (.v (.int r)), x12, x13]) := by
    rw [ev_set, draw]
    simp [f11]
  unfold gTie
  rw [ev_seq, s1]
  generalize ps.map pairD = ts at *
  generalize (ps ++ [(x, (ps.length : Int) + 1)]).map pairD = ts2 at *
  generalize (ps.length : Int) + 1 = j at *
  generalize (sh : Int) = sI at *
  simp [-oIx_int, hx, app, PySem.sizeLine_eq]
theorem rngD_cons (a : Int) (k : Nat) : rngD a (k + 1) = .int a :: rngD (a + 1) k := by
  unfold rngD
  (rw [List.range_succ_eq_map, List.map_cons, List.map_map])
  refine congr (congrArg _ (by simp)) (List.map_congr_left fun i _ => ?_)
  show PyData.int (a + ((i + 1 : Nat) : Int)) = PyData.int (a + 1 + (i : Int))
  congr 1
  omega
theorem tie_loop {sh : Nat} {a1 a2 a3 a5 a6 a7 : PyData} (hs : sh < 4) : ∀ (k : Nat) (n : Int) (ps : Ts) (δ : Dv), 0 ≤ n → ps.length + k ≤ 1000 → TreeR ps → tSt n ps a1 a2 a3 (.int sh) a5 a6 a7 δ →
    ∃ (δ' : Dv) (n' : Int) (qs : Ts), forN (bName 9) gTie (rngD ((ps.length : Int) + 1) k) δ = .ok (.nx, δ') ∧ 0 ≤ n' ∧ qs.length = ps.length + k ∧ TreeR qs ∧ tSt n' qs a1 a2 a3 (.int sh) a5 a6 a7 δ'
  | 0, n, ps, δ, hn, hz, ht, h => ⟨δ, n, ps, rfl, hn, rfl, ht, h⟩
  | k + 1, n, ps, δ, hn, hz, ht, h => by
    obtain ⟨δ1, δ2, x, n1, h1, h2, x0, x1, hn1, h3⟩ := tie_step hs hn (by omega) h
    obtain ⟨δ', n', qs, h4, h5, h6, h7, h8⟩ := tie_loop hs k n1 _ δ2 hn1 (by rw [List.length_append, List.length_singleton]; omega) (ht.snoc x0 x1) h3
    refine ⟨δ', n', qs, ?_, h5, by rw [h6, List.length_append, List.length_singleton]; omega, h7, h8⟩
    rw [rngD_cons, forN, h1]
    simp only [h2, Rs.bind_ok]
    have e : (((ps ++ [(x, (ps.length : Int) + 1)]).length : Nat) : Int) + 1 = (ps.length : Int) + 1 + 1 := by
      (rw [List.length_append, List.length_singleton])
      omega
    rw [e] at h4
    exact h4
abbrev gEx : Dv → Rs (Fl × Dv) := (gSeq (gSet 12 (fCallM S__law_take 0 (aCons (fVar 3) aNil))) (gSeq (gSet 13 (fCallM S__law_take 0 (aCons (fVar 3) aNil))) (gIf (fT (f2 oNe (fVar 12) (fVar 13))) (gDrop (fMt 8 mApp (aCons (fTup (aCons (fVar 12) (aCons (fVar 13) aNil))) aNil))) gNx)))
/-- a tie more, or none -/
theorem ex_step {n : Int} {ps : Ts} {m : Nat} {d a1 a2 a4 a5 a6 a7 : PyData} {δ : Dv} (hm : 1 ≤ m) (hm2 : m ≤ 1000) (hn : 0 ≤ n) (hz : ps.length ≤ 1000) (h : tSt n ps a1 a2 (.int m) a4 a5 a6 a7 δ) : ∃ (δ1 δ2 : Dv) (qs : Ts) (n' : Int), bName 10 d δ = some δ1 ∧ gEx δ1 = .ok (.nx, δ2) ∧ 0 ≤ n' ∧ qs.length ≤ 1 ∧ (∀ p ∈ qs, 0 ≤ p.1 ∧ p.1 < m ∧ 0 ≤ p.2 ∧ p.2 < m ∧ p.1 ≠ p.2) ∧ tSt n' (ps ++ qs) a1 a2 (.int m) a4 a5 a6 a7 δ2 := by
  obtain ⟨x9, x10, x11, x12, x13, rfl, v9, v10, v11, v12, v13⟩ := h
  have m0 : (0 : Int) < m := by omega
  have draw1 := tk_eq (n := n) (f := m) (fx := fVar 3) (r := [some (.v a1), some (.v a2), some (.v (.int m)), some (.v a4), some (.v a5), some (.m a6), some (.v a7), some (.m (.list (ps.map pairD))), x9, some (.v d), x11, x12, x13]) (by simp) m0 (by omega)
  have r0 : 0 ≤ n % (m : Int) := Int.emod_nonneg _ (by omega)
  have r1 : n % (m : Int) < m := Int.emod_lt_of_pos _ m0
  have hn1 : 0 ≤ n / (m : Int) := Int.ediv_nonneg hn (by omega)
  generalize n % (m : Int) = r at *
  generalize n / (m : Int) = n1 at *
  have draw2 := tk_eq (n := n1) (f := m) (fx := fVar 3) (r := [some (.v a1), some (.v a2), some (.v (.int m)), some (.v a4), some (.v a5), some (.m a6), some (.v a7), some (.m (.list (ps.map pairD))), x9, some (.v d), x11, some (.v (.int r)), x13]) (by simp) m0 (by omega)
  have s0 : 0 ≤ n1 % (m : Int) := Int.emod_nonneg _ (by omega)
  have s1 : n1 % (m : Int) < m := Int.emod_lt_of_pos _ m0
  have hn2 : 0 ≤ n1 / (m : Int) := Int.ediv_nonneg hn1 (by omega)
  generalize n1 % (m : Int) = s at *
  generalize n1 / (m : Int) = n2 at *
  have f10 := isV_free v10
  have f12 := isV_free v12
  have f13 := isV_free v13
  have e1 : (gSet 12 (fCallM S__law_take 0 (aCons (fVar 3) aNil))) [some (.a (potD n)), some (.v a1), some (.v a2), some (.v (.int m)), some (.v a4), some (.v a5), some (.m a6), some (.v a7), some (.m (.list (ps.map pairD))), x9, some (.v d), x11, x12, x13] =
      .ok (.nx, [some (.a (potD n1)), some (.v a1), some (.v a2), some (.v (.int m)), some (.v a4), some (.v a5), some (.m a6), some (.v a7), some (.m (.list (ps.map pairD))), x9, some (.v d), x11, some (.v (.int r)), x13]) := by
    rw [ev_set, draw1]
    simp [f12]
  have e2 : (gSet 13 (fCallM S__law_take 0 (aCons (fVar 3) aNil))) [some (.a (potD n1)), some (.v a1), some (.v a2), some (.v (.int m)), some (.v a4), some (.v a5), some (.m a6), some (.v a7), some (.m (.list (ps.map pairD))), x9, some (.v d), x11, some (.v (.int r)), x13] =
      .ok (.nx, [some (.a (potD n2)), some (.v a1), some (.v a2), some (.v (.int m)), some (.v a4), some (.v a5), some (.m a6), some (.v a7), some (.m (.list (ps.map pairD))), x9, some (.v d), x11, some (.v (.int r)), some (.v (.int s))]) := by
    rw [ev_set, draw2]
    simp [f13]
  have bn : bName 10 d [some (.a (potD n)), some (.v a1), some (.v a2), some (.v (.int m)), some (.v a4), some (.v a5), some (.m a6), some (.v a7), some (.m (.list (ps.map pairD))), x9, x10, x11, x12, x13] = some [some (.a (potD n)), some (.v a1), some (.v a2), some (.v (.int m)), some (.v a4), some (.v a5), some (.m a6), some (.v a7), some (.m (.list (ps.map pairD))), x9, some (.v d), x11, x12, x13] := by
    simp [f10]
  by_cases hrs : r = s
  · refine ⟨_, [some (.a (potD n2)), some (.v a1), some (.v a2), some (.v (.int m)), some (.v a4), some (.v a5), some (.m a6), some (.v a7), some (.m (.list (ps.map pairD))), x9, some (.v d), x11, some (.v (.int r)), some (.v (.int s))], [], n2, bn, ?_, hn2, Nat.zero_le _, fun p hp => absurd hp List.not_mem_nil, by rw [List.append_nil]; exact ⟨_, _, _, _, _, rfl, v9, rfl, v11, rfl, rfl⟩⟩
    unfold gEx
    rw [ev_seq, e1]
    simp only [Rs.bind_ok, Fl.on_nx]
    rw [ev_seq, e2]
    have ne : oNe (.int r) (.int s) = some (.bool false) := by rw [oNe_int, hrs]; simp
    simp [ne]
  · have app : mApp (ps.map pairD) [.tuple [.int r, .int s]] = some (.none, (ps ++ [(r, s)]).map pairD) := by
      simp only [mApp, List.length_map]
      rw [if_pos (by rw [PySem.sizeLine_eq]; omega), List.map_append]
      rfl
    refine ⟨_, [some (.a (potD n2)), some (.v a1), some (.v a2), some (.v (.int m)), some (.v a4), some (.v a5), some (.m a6), some (.v a7), some (.m (.list ((ps ++ [(r, s)]).map pairD))), x9, some (.v d), x11, some (.v (.int r)), some (.v (.int s))], [(r, s)], n2, bn, ?_, hn2, Nat.le_refl _, fun p hp => by rw [List.mem_singleton.mp hp]; exact ⟨r0, r1, s0, s1, hrs⟩, ⟨_, _, _, _, _, rfl, v9, rfl, v11, rfl, rfl⟩⟩
    unfold gEx
    rw [ev_seq, e1]
    simp only [Rs.bind_ok, Fl.on_nx]
    rw [ev_seq, e2]
    generalize ps.map pairD = ts at *
    generalize (ps ++ [(r, s)]).map pairD = ts2 at *
    have ne : oNe (.int r) (.int s) = some (.bool true) := by rw [oNe_int]; simp [hrs]
    simp [ne, app, PySem.sizeLine_eq]
theorem ex_loop {m : Nat} {a1 a2 a4 a5 a6 a7 : PyData} (hm : 1 ≤ m) (hm2 : m ≤ 1000) : ∀ (ds : List PyData) (n : Int) (ps : Ts) (δ : Dv), 0 ≤ n → ps.length + ds.length ≤ 1000 → tSt n ps a1 a2 (.int m) a4 a5 a6 a7 δ →
    ∃ (δ' : Dv) (n' : Int) (qs : Ts), forN (bName 10) gEx ds δ = .ok (.nx, δ') ∧ 0 ≤ n' ∧ qs.length ≤ ds.length ∧ (∀ p ∈ qs, 0 ≤ p.1 ∧ p.1 < m ∧ 0 ≤ p.2 ∧ p.2 < m ∧ p.1 ≠ p.2) ∧ tSt n' (ps ++ qs) a1 a2 (.int m) a4 a5 a6 a7 δ'
  | [], n, ps, δ, hn, _, h => ⟨δ, n, [], rfl, hn, Nat.le_refl _, fun p hp => absurd hp List.not_mem_nil, by rw [List.append_nil]; exact h⟩
  | d :: ds, n, ps, δ, hn, hz, h => by
    rw [List.length_cons] at hz
    obtain ⟨δ1, δ2, q1, n1, h1, h2, hn1, l1, b1, h3⟩ := ex_step (d := d) hm hm2 hn (by omega) h
    obtain ⟨δ', n', qs, h4, h5, h6, h7, h8⟩ := ex_loop hm hm2 ds n1 _ δ2 hn1 (by rw [List.length_append]; omega) h3
    refine ⟨δ', n', q1 ++ qs, ?_, h5, by rw [List.length_append, List.length_cons]; omega, fun p hp => (List.mem_append.mp hp).elim (b1 p) (h7 p), by rw [← List.append_assoc]; exact h8⟩
    rw [forN, h1]
    simp only [h2, Rs.bind_ok]
    exact h4
end Kc

set_option maxRecDepth 100000
set_option maxHeartbeats 3900000
/-! ## M16. the ties called anew make a web -/
namespace Gr
open PySem L2 Pw
theorem Adj.symm {ps : Ts} {a b : Int} (h : Adj ps a b) : Adj ps b a := h.elim .inr .inl
theorem Rch.trans {ps : Ts} {a b c : Int} (h : Rch ps a b) (k : Rch ps b c) : Rch ps a c := by
  induction k with
  | base => exact h
  | step _ e ih => exact ih.step e
theorem Rch.symm {ps : Ts} {a b : Int} (h : Rch ps a b) : Rch ps b a := by
  induction h with
  | base => exact .base
  | step _ e ih => exact (Rch.step .base e.symm).trans ih
theorem Rch.mono {ps qs : Ts} (hs : ∀ p ∈ ps, p ∈ qs) {a b : Int} (h : Rch ps a b) : Rch qs a b := by
  induction h with
  | base => exact .base
  | step _ e ih => exact ih.step (e.elim (fun z => .inl (hs _ z)) fun z => .inr (hs _ z))
end Gr
namespace Kc
open PySem L2 Pw Gr
def nmI (cs : List Int) (i : Int) : Int := cs.getD i.toNat 0
def rnP (cs : List Int) (p : Int × Int) : Int × Int := (gMin (nmI cs p.1) (nmI cs p.2), gMax (nmI cs p.1) (nmI cs p.2))
theorem nm_mem {cs : List Int} {i : Int} (h0 : 0 ≤ i) (h1 : i < cs.length) : nmI cs i ∈ cs := by
  unfold nmI
  have : i.toNat < cs.length := by omega
  rw [List.getD_eq_getElem?_getD, List.getElem?_eq_getElem this]
  exact List.getElem_mem _
theorem nm_inj {cs : List Int} (hn : cs.Nodup) {i j : Int} (h0 : 0 ≤ i) (h1 : i < cs.length) (h2 : 0 ≤ j) (h3 : j < cs.length) (h : nmI cs i = nmI cs j) : i = j := by
  unfold nmI at h
  have hi : i.toNat < cs.length := by omega
  have hj : j.toNat < cs.length := by omega
  rw [List.getD_eq_getElem?_getD, List.getElem?_eq_getElem hi, List.getD_eq_getElem?_getD, List.getElem?_eq_getElem hj] at h
  have := (List.getElem_inj hn).mp h
  omega
theorem rn_adj {cs : List Int} {ts : Ts} {p : Int × Int} (h : rnP cs p ∈ ts) : Adj ts (nmI cs p.1) (nmI cs p.2) := by
  unfold rnP gMin gMax at h
  unfold Adj
  by_cases a : nmI cs p.2 < nmI cs p.1
  · rw [if_pos a] at h
    rw [if_neg (by omega)] at h
    exact .inr h
  · rw [if_neg a] at h
    by_cases b : nmI cs p.2 > nmI cs p.1
    · rw [if_pos b] at h
      exact .inl h
    · rw [if_neg b] at h
      have e : nmI cs p.1 = nmI cs p.2 := by omega
      rw [e] at h ⊢
      exact .inl h
theorem rn_bd {m : Nat} {cs : List Int} (hc : cs.Perm (Gr.upTo m)) {p : Int × Int} (h0 : 0 ≤ p.1) (h1 : p.1 < m) (h2 : 0 ≤ p.2) (h3 : p.2 < m) (hne : p.1 ≠ p.2) : 0 ≤ (rnP cs p).1 ∧ (rnP cs p).1 < (rnP cs p).2 ∧ (rnP cs p).2 < m := by
  have hl : cs.length = m := by rw [hc.length_eq]; unfold Gr.upTo; rw [List.length_map, List.length_range]
  have a := Gr.mem_upTo.mp (hc.mem_iff.mp (nm_mem (cs := cs) h0 (by omega)))
  have b := Gr.mem_upTo.mp (hc.mem_iff.mp (nm_mem (cs := cs) h2 (by omega)))
  have ne : nmI cs p.1 ≠ nmI cs p.2 := fun z => hne (nm_inj (hc.nodup_iff.mpr (Gr.nodup_upTo m)) h0 (by omega) h2 (by omega) z)
  generalize hx : nmI cs p.1 = x at *
  generalize hy : nmI cs p.2 = y at *
  have e : rnP cs p = (gMin x y, gMax x y) := by rw [← hx, ← hy]; rfl
  rw [e]
  simp only [gMin, gMax]
  split <;> split <;> omega
theorem tree_all {m : Nat} {cs : List Int} (hc : cs.Perm (Gr.upTo m)) {ps : Ts} {ts : Ts} (ht : TreeR ps) (hp : ps.length + 1 = m) (hs : ∀ p ∈ ps, rnP cs p ∈ ts) : ∀ x : Int, 0 ≤ x ∧ x < m → Rch ts 0 x := by
  have hl : cs.length = m := by rw [hc.length_eq]; unfold Gr.upTo; rw [List.length_map, List.length_range]
  have up : ∀ (k i : Nat), i < k → i < m → Rch ts (nmI cs 0) (nmI cs i) := by
    intro k
    induction k with
    | zero => intro i hi; omega
    | succ k ih =>
      intro i hi him
      cases i with
      | zero => exact .base
      | succ j =>
        have hj : j < ps.length := by omega
        obtain ⟨h1, h2, h3⟩ := ht j ps[j] (List.getElem?_eq_getElem hj)
        have e := rn_adj (hs _ (List.getElem_mem hj))
        rw [h1] at e h3
        obtain ⟨a, ha⟩ : ∃ a : Nat, (ps[j]).1 = a := ⟨(ps[j]).1.toNat, by omega⟩
        rw [ha] at e
        have r := ih a (by omega) (by omega)
        have cst : ((j + 1 : Nat) : Int) = (j : Int) + 1 := by omega
        rw [cst]
        exact r.step e
  have from0 : ∀ x : Int, 0 ≤ x ∧ x < m → Rch ts (nmI cs 0) x := fun x hx => by
    have hm := hc.mem_iff.mpr (Gr.mem_upTo.mpr hx)
    obtain ⟨i, hi, e⟩ := List.mem_iff_getElem.mp hm
    have r := up m i (by omega) (by omega)
    unfold nmI at r
    have cst : ((i : Nat) : Int).toNat = i := by omega
    rw [cst, List.getD_eq_getElem?_getD, List.getD_eq_getElem?_getD, List.getElem?_eq_getElem hi] at r
    unfold nmI
    (rw [List.getD_eq_getElem?_getD])
    exact e ▸ r
  intro x hx
  have z := from0 0 ⟨by omega, by omega⟩
  exact z.symm.trans (from0 x hx)
theorem mem_sd {l : Ts} {p : Int × Int} : p ∈ srtP (dd l) ↔ p ∈ l := (isrt_perm (dd l)).mem_iff.trans mem_dd
theorem dd_len : ∀ l : Ts, (dd l).length ≤ l.length
  | [] => Nat.le_refl _
  | x :: xs => by
    unfold dd
    have := dd_len xs
    split
    · rw [List.length_cons]; omega
    · rw [List.length_cons, List.length_cons]; omega
theorem sd_len (l : Ts) : (srtP (dd l)).length ≤ l.length := by
  unfold srtP
  rw [(isrt_perm (dd l)).length_eq]
  exact dd_len l
theorem adj_sd (l : Ts) : adjB (srtP (dd l)) = true := by
  rw [adj_iff]
  have nd : (srtP (dd l)).Nodup := (isrt_perm (dd l)).nodup_iff.mpr (nodup_dd l)
  have s : (srtP (dd l)).Pairwise fun p q => leP p q = true := isrt_sorted leP_tot leP_tr _
  have both := List.pairwise_and_iff.mpr ⟨nd, s⟩
  refine both.imp fun {a b} z => ?_
  obtain ⟨z1, z2⟩ := z
  obtain ⟨a1, a2⟩ := a
  obtain ⟨b1, b2⟩ := b
  simp only [Pw.ltP, leP, decide_eq_true_eq, ne_eq, Prod.mk.injEq] at *
  omega
theorem drawn_ok {m : Nat} {cs : List Int} {ps qs : Ts} (h2 : 2 ≤ m) (h8 : m ≤ 8) (hc : cs.Perm (Gr.upTo m)) (ht : TreeR ps) (hp : ps.length + 1 = m) (hq : ∀ p ∈ qs, 0 ≤ p.1 ∧ p.1 < m ∧ 0 ≤ p.2 ∧ p.2 < m ∧ p.1 ≠ p.2) :
    (∀ p ∈ ps ++ qs, 0 ≤ p.1 ∧ p.1 < m ∧ 0 ≤ p.2 ∧ p.2 < m ∧ p.1 ≠ p.2) ∧ WebOk m (srtP (dd ((ps ++ qs).map (rnP cs)))) := by
  have hb : ∀ p ∈ ps ++ qs, 0 ≤ p.1 ∧ p.1 < m ∧ 0 ≤ p.2 ∧ p.2 < m ∧ p.1 ≠ p.2 := fun p h => by
    (rcases List.mem_append.mp h with h | h)
    · obtain ⟨i, hi, e⟩ := List.mem_iff_getElem.mp h
      obtain ⟨a, b, c⟩ := ht i p (by rw [List.getElem?_eq_getElem hi, e])
      omega
    · exact hq p h
  refine ⟨hb, h2, h8, fun p h => ?_, adj_sd _, ?_⟩
  · obtain ⟨q, hq, rfl⟩ := List.mem_map.mp (mem_sd.mp h)
    obtain ⟨a, b, c, d, e⟩ := hb q hq
    exact rn_bd hc a b c d e
  · exact tree_all hc ht hp fun p h => mem_sd.mpr (List.mem_map.mpr ⟨p, List.mem_append.mpr (.inl h), rfl⟩)
end Kc

set_option maxRecDepth 100000
set_option maxHeartbeats 3900000
/-! ## M17. the whole of _law_web -/
namespace Kc
open PySem L2 Pw Gr
abbrev gRn : Dv → Rs (PyData × Dv) := (fLc [12, 13] (wSeq (fVar 8)) (bTup [(bName 12), (bName 13)]) tYesD (fTup (aCons (fB2 gMin (fIxv 7 (fVar 12)) (fIxv 7 (fVar 13))) (aCons (fB2 gMax (fIxv 7 (fVar 12)) (fIxv 7 (fVar 13))) aNil))))
theorem at_nm {cs : List Int} {i : Int} (h0 : 0 ≤ i) (h1 : i < cs.length) : atI (cs.map PyData.int) i = some (.int (nmI cs i)) := by
  have h : i.toNat < cs.length := by omega
  have ix : ixN (cs.map PyData.int).length i = some i.toNat := by
    rw [List.length_map]
    have := Evl.ixN_nat h
    rwa [show ((i.toNat : Nat) : Int) = i by omega] at this
  rw [List.length_map] at ix
  unfold nmI atI
  simp [ix, h]
theorem rn_lc {cs : List Int} {ts : Ts} {pd a1 a2 a3 a4 a5 a6 : PyData} {x9 x10 x11 x12 x13 : Option SV} (v9 : isV x9 = true) (v10 : isV x10 = true) (v11 : isV x11 = true) (hb : ∀ p ∈ ts, 0 ≤ p.1 ∧ p.1 < cs.length ∧ 0 ≤ p.2 ∧ p.2 < cs.length) (hz : ts.length ≤ 1000) :
    gRn [some (.a pd), some (.v a1), some (.v a2), some (.v a3), some (.v a4), some (.v a5), some (.m a6), some (.v (.list (cs.map .int))), some (.m (.list (ts.map pairD))), x9, x10, x11, x12, x13] =
      .ok (.list ((ts.map (rnP cs)).map pairD), [some (.a pd), some (.v a1), some (.v a2), some (.v a3), some (.v a4), some (.v a5), some (.m a6), some (.v (.list (cs.map .int))), some (.v (.list (ts.map pairD))), x9, x10, x11, x12, x13]) := by
  have z := lc_pure (own := [12, 13]) (w := wSeq (fVar 8)) (b := bTup [(bName 12), (bName 13)]) (t := tYesD) (f := (fTup (aCons (fB2 gMin (fIxv 7 (fVar 12)) (fIxv 7 (fVar 13))) (aCons (fB2 gMax (fIxv 7 (fVar 12)) (fIxv 7 (fVar 13))) aNil))))
    (δ := [some (.a pd), some (.v a1), some (.v a2), some (.v a3), some (.v a4), some (.v a5), some (.m a6), some (.v (.list (cs.map .int))), some (.m (.list (ts.map pairD))), x9, x10, x11, x12, x13])
    (x := (ts.map pairD, [some (.a pd), some (.v a1), some (.v a2), some (.v a3), some (.v a4), some (.v a5), some (.m a6), some (.v (.list (cs.map .int))), some (.v (.list (ts.map pairD))), x9, x10, x11, x12, x13])) (p := fun _ => true) (e := fun d => pairD (rnP cs (prOf d)))
    (by generalize ts.map pairD = tt; generalize cs.map PyData.int = cc; simp) (by rw [List.length_map, PySem.sizeLine_eq]; omega) fun d hd => ?_
  · unfold gRn
    rw [z, List.filter_eq_self.mpr fun _ _ => rfl, List.map_map, List.map_map]
    rfl
  · obtain ⟨q, hq, rfl⟩ := List.mem_map.mp hd
    obtain ⟨b1, b2, b3, b4⟩ := hb q hq
    have n1 := at_nm (cs := cs) b1 b2
    have n2 := at_nm (cs := cs) b3 b4
    have e9 := isV_anch v9
    have e10 := isV_anch v10
    have e11 := isV_anch v11
    refine ⟨[some (.a pd), some (.v a1), some (.v a2), some (.v a3), some (.v a4), some (.v a5), some (.a a6), some (.v (.list (cs.map .int))), some (.v (.list (ts.map pairD))), x9, x10, x11, some (.v (.int q.1)), some (.v (.int q.2))], ?_, rfl, fun _ => ?_, ?_⟩
    · unfold pairD
      generalize (ts.map _) = tt
      generalize cs.map PyData.int = cc
      simp [anchD, wipeD, anch1, e9, e10, e11]
    · rw [prOf_pair]
      generalize ts.map pairD = tt
      generalize cs.map PyData.int = cc at *
      simp [n1, n2, rnP, pairD, PySem.sizeLine_eq]
    · generalize ts.map pairD = tt
      generalize cs.map PyData.int = cc at *
      simp [anchD, wipeD, anch1, e9, e10, e11]
end Kc

set_option maxRecDepth 100000
set_option maxHeartbeats 3900000
/-! ## M18. a drawn web -/
namespace Kc
open PySem L2 Pw Gr
theorem sq {g1 g2 : Dv → Rs (Fl × Dv)} {δ δ1 : Dv} {r : Rs (Fl × Dv)} (h : g1 δ = .ok (.nx, δ1)) (k : g2 δ1 = r) : gSeq g1 g2 δ = r := by
  rw [ev_seq, h]
  exact k
abbrev DvW (n : Int) (a1 a2 : PyData) (x3 x4 x5 x6 x7 x8 : Option SV) : Dv := [some (.a (potD n)), some (.v a1), some (.v a2), x3, x4, x5, x6, x7, x8, none, none, none, none, none]
theorem web_full {n : Int} {most thick : Nat} (hn : 0 ≤ n) (h1 : 2 ≤ most) (h2 : most ≤ 8) (h3 : thick ≤ 4) : ∃ (m : Nat) (ps : Ts) (n' : Int), WebOk m ps ∧ m ≤ most ∧ ps ≠ [] ∧ ps.length ≤ 60 ∧ ps.length + 1 ≤ m + 12 * thick ∧ 0 ≤ n' ∧ S__law_web [potD n, .int most, .int thick] = .ok (webD m ps, some (potD n')) := by
  -- so many places
  have m0 : (0 : Int) < (most : Int) - 1 := by omega
  have d1 := tk_eq (n := n) (f := (most : Int) - 1) (fx := f2 oSub (fVar 1) (fC (.int 1))) (r := [some (.v (.int most)), some (.v (.int thick)), none, none, none, none, none, none, none, none, none, none, none]) (by simp) m0 (by omega)
  have r0 : 0 ≤ n % ((most : Int) - 1) := Int.emod_nonneg _ (by omega)
  have r1 : n % ((most : Int) - 1) < (most : Int) - 1 := Int.emod_lt_of_pos _ m0
  have hn1 : 0 ≤ n / ((most : Int) - 1) := Int.ediv_nonneg hn (by omega)
  obtain ⟨m, hm⟩ : ∃ m : Nat, 2 + n % ((most : Int) - 1) = m := ⟨(2 + n % ((most : Int) - 1)).toNat, by omega⟩
  generalize n % ((most : Int) - 1) = r at *
  generalize n / ((most : Int) - 1) = n1 at *
  -- the shape
  have d2 := tk_eq (n := n1) (f := 4) (fx := fC (.int 4)) (r := [some (.v (.int most)), some (.v (.int thick)), some (.v (.int m)), none, none, none, none, none, none, none, none, none, none]) (by simp) (by omega) (by omega)
  have s0 : 0 ≤ n1 % 4 := Int.emod_nonneg _ (by omega)
  have s1 : n1 % 4 < 4 := Int.emod_lt_of_pos _ (by omega)
  have hn2 : 0 ≤ n1 / 4 := Int.ediv_nonneg hn1 (by omega)
  obtain ⟨sh, hsh⟩ : ∃ k : Nat, n1 % 4 = k := ⟨(n1 % 4).toNat, by omega⟩
  generalize n1 / 4 = n2 at *
  rw [hsh] at d2 s0 s1
  have d3 := tk_eq (n := n2) (f := 4) (fx := fC (.int 4)) (r := [some (.v (.int most)), some (.v (.int thick)), some (.v (.int m)), some (.v (.int sh)), none, none, none, none, none, none, none, none, none]) (by simp) (by omega) (by omega)
  have t0 : 0 ≤ n2 % 4 := Int.emod_nonneg _ (by omega)
  have t1 : n2 % 4 < 4 := Int.emod_lt_of_pos _ (by omega)
  have hn3 : 0 ≤ n2 / 4 := Int.ediv_nonneg hn2 (by omega)
  obtain ⟨k3, hk3⟩ : ∃ k : Nat, n2 % 4 = k := ⟨(n2 % 4).toNat, by omega⟩
  generalize n2 / 4 = n3 at *
  rw [hk3] at d3 t0 t1
  have pick : ∃ x : Nat, oIx (.list [.int 0, .int 1, .int 2, .int 12]) (.int k3) = some (.int x) ∧ x ≤ 12 := by
    match k3, t1 with
    | 0, _ => exact ⟨0, rfl, by omega⟩
    | 1, _ => exact ⟨1, rfl, by omega⟩
    | 2, _ => exact ⟨2, rfl, by omega⟩
    | 3, _ => exact ⟨12, rfl, by omega⟩
  obtain ⟨x, hx, hx12⟩ := pick
  have hz48 : x * thick ≤ 48 := Nat.mul_le_mul hx12 h3
  have hz12 : x * thick ≤ 12 * thick := Nat.mul_le_mul hx12 (Nat.le_refl _)
  have hmul : oMul (.int (x : Int)) (.int (thick : Int)) = some (.int ((x * thick : Nat) : Int)) := by
    rw [mul_ok (small_pow (by omega) (by omega)) (small_pow (by omega) (by omega)), Int.natCast_mul]
  generalize x * thick = z at *
  have rg : rgOk 0 (m : Int) = true := by
    unfold rgOk
    rw [i62_small (by omega) (by omega), i62_small (by omega) (by omega)]
    simp only [Bool.and_self, Bool.true_and, decide_eq_true_eq]
    omega
  have im : i62 (m : Int) = true := i62_small (by omega) (by omega)
  have i1 : i62 1 = true := i62_small (by omega) (by omega)
  have iz : i62 (z : Int) = true := i62_small (by omega) (by omega)
  -- the names of the places
  have lm : (Gr.upTo m).length = m := by unfold Gr.upTo; rw [List.length_map, List.length_range]
  obtain ⟨cs, n4, pc, hn4, hcl⟩ := called_loop (.int most) (.int thick) (.int m) (.int sh) (.int z) (rngD 0 m) (Gr.upTo m) n3 (by rw [lm, rngD, List.length_map, List.length_range]) (by rw [rngD, List.length_map, List.length_range]; omega) hn3
  have lc7 : (fLc [10] (wRng1 (fVar 3)) (bName 10) tYesD (fMt 6 mPopAt (aCons (fCallM S__law_take 0 (aCons (f1 oLen (fBar 6)) aNil)) aNil))) [some (.a (potD n3)), some (.v (.int most)), some (.v (.int thick)), some (.v (.int m)), some (.v (.int sh)), some (.v (.int z)), some (.m (.list (rngD 0 m))), none, none, none, none, none, none, none] =
      .ok (.list (cs.map .int), [some (.a (potD n4)), some (.v (.int most)), some (.v (.int thick)), some (.v (.int m)), some (.v (.int sh)), some (.v (.int z)), some (.m (.list [])), none, none, none, none, none, none, none]) := by
    unfold fLc
    rw [ev_rng1, ev_var]
    simp only [List.getElem?_cons_zero, List.getElem?_cons_succ, varR_v, Rs.bind_ok, onI_int, im, if_true]
    rw [if_pos (by rw [rngD, List.length_map, List.length_range, PySem.sizeLine_eq]; omega)]
    have st : anchD (wipeD [some (.a (potD n3)), some (.v (.int most)), some (.v (.int thick)), some (.v (.int m)), some (.v (.int sh)), some (.v (.int z)), some (.m (.list (rngD 0 m))), none, none, none, none, none, none, none] [10]) = cst n3 (Gr.upTo m) (.int most) (.int thick) (.int m) (.int sh) (.int z) := by
      rw [rngD_up]
      rfl
    rw [Int.toNat_natCast, st, hcl]
    rfl
  -- the ties
  obtain ⟨δ1, n5, ps, t1', hn5, lps, trr, T1⟩ := tie_loop (sh := sh) (a1 := .int most) (a2 := .int thick) (a3 := .int m) (a5 := .int z) (a6 := .list []) (a7 := .list (cs.map .int)) (by omega) (m - 1) n4 []
    [some (.a (potD n4)), some (.v (.int most)), some (.v (.int thick)), some (.v (.int m)), some (.v (.int sh)), some (.v (.int z)), some (.m (.list [])), some (.v (.list (cs.map .int))), some (.m (.list [])), none, none, none, none, none] hn4 (by rw [List.length_nil]; omega) (fun i p h => by simp at h) ⟨none, none, none, none, none, rfl, rfl, rfl, rfl, rfl, rfl⟩
  obtain ⟨δ2, n6, qs, t2', hn6, lqs, bq, T2⟩ := ex_loop (m := m) (by omega) (by omega) (rngD 0 z) n5 ps δ1 hn5 (by rw [rngD, List.length_map, List.length_range, lps, List.length_nil]; omega) T1
  rw [rngD, List.length_map, List.length_range] at lqs
  rw [List.length_nil] at lps t1'
  obtain ⟨hb, wok⟩ := drawn_ok (cs := cs) (by omega) (by omega) pc trr (by omega) bq
  have lcs : cs.length = m := by rw [pc.length_eq, lm]
  obtain ⟨x9, x10, x11, x12, x13, rfl, v9, v10, v11, v12, v13⟩ := T2
  obtain ⟨y9, y10, y11, y12, y13, rfl, -⟩ := T1
  have rn := rn_lc (cs := cs) (ts := ps ++ qs) (pd := potD n6) (a1 := .int most) (a2 := .int thick) (a3 := .int m) (a4 := .int sh) (a5 := .int z) (a6 := .list []) (x9 := x9) (x10 := x10) (x11 := x11) (x12 := x12) (x13 := x13) v9 v10 v11 (fun p hp => by
    have := hb p hp
    rw [lcs]
    omega) (by rw [List.length_append]; omega)
  have ll : ((ps ++ qs).map (rnP cs)).length ≤ 60 := by rw [List.length_map, List.length_append]; omega
  have okp : ((ps ++ qs).map (rnP cs)).all okP = true := by
    rw [List.all_eq_true]
    intro p hp
    (obtain ⟨q, hq, rfl⟩ := List.mem_map.mp hp)
    obtain ⟨a, b, c, d, e⟩ := hb q hq
    have := rn_bd pc a b c d e
    unfold okP
    rw [decide_eq_true_eq]
    omega
  have ss := srt_setL ((ps ++ qs).map (rnP cs)) (by omega) okp
  have sl := sd_len ((ps ++ qs).map (rnP cs))
  have nz : srtP (dd ((ps ++ qs).map (rnP cs))) ≠ [] := fun e => by
    have hp : ps ≠ [] := fun e => by rw [e, List.length_nil] at lps; omega
    obtain ⟨p, r, rfl⟩ := List.exists_cons_of_ne_nil hp
    have : rnP cs p ∈ srtP (dd (((p :: r) ++ qs).map (rnP cs))) := mem_sd.mpr (List.mem_map.mpr ⟨p, by simp, rfl⟩)
    rw [e] at this
    cases this
  refine ⟨m, srtP (dd ((ps ++ qs).map (rnP cs))), n6, wok, by omega, nz, by omega, ?_, hn6, run_rt (g := g__law_web) (δ := [some (.a (potD n6)), some (.v (.int most)), some (.v (.int thick)), some (.v (.int m)), some (.v (.int sh)), some (.v (.int z)), some (.m (.list [])), some (.v (.list (cs.map .int))), some (.m (.list (((ps ++ qs).map (rnP cs)).map pairD))), x9, x10, x11, x12, x13]) ?_ rfl⟩
  · have l2 : ((ps ++ qs).map (rnP cs)).length = ps.length + qs.length := by rw [List.length_map, List.length_append]
    omega
  show g__law_web [some (.a (potD n)), some (.v (.int most)), some (.v (.int thick)), none, none, none, none, none, none, none, none, none, none, none] = _
  have f7 : ((m : Int) - 1).toNat = m - 1 := by omega
  unfold g__law_web webD
  refine sq (δ1 := [some (.a (potD n1)), some (.v (.int most)), some (.v (.int thick)), some (.v (.int m)), none, none, none, none, none, none, none, none, none, none]) (by simp [-ev_callM, d1, hm]) ?_
  refine sq (δ1 := [some (.a (potD n2)), some (.v (.int most)), some (.v (.int thick)), some (.v (.int m)), some (.v (.int sh)), none, none, none, none, none, none, none, none, none]) (by simp [-ev_callM, d2]) ?_
  refine sq (δ1 := [some (.a (potD n3)), some (.v (.int most)), some (.v (.int thick)), some (.v (.int m)), some (.v (.int sh)), some (.v (.int z)), none, none, none, none, none, none, none, none]) (by simp [-ev_callM, -oIx_int, -oMul_int, d3, hx, hmul, PySem.sizeLine_eq]) ?_
  refine sq (δ1 := [some (.a (potD n3)), some (.v (.int most)), some (.v (.int thick)), some (.v (.int m)), some (.v (.int sh)), some (.v (.int z)), some (.m (.list (rngD 0 m))), none, none, none, none, none, none, none]) (by simp [rg]) ?_
  refine sq (δ1 := [some (.a (potD n4)), some (.v (.int most)), some (.v (.int thick)), some (.v (.int m)), some (.v (.int sh)), some (.v (.int z)), some (.m (.list [])), some (.v (.list (cs.map .int))), none, none, none, none, none, none]) (by rw [ev_set, lc7]; rfl) ?_
  refine sq (δ1 := [some (.a (potD n4)), some (.v (.int most)), some (.v (.int thick)), some (.v (.int m)), some (.v (.int sh)), some (.v (.int z)), some (.m (.list [])), some (.v (.list (cs.map .int))), some (.m (.list [])), none, none, none, none, none]) (by generalize cs.map PyData.int = cc; simp [PySem.sizeLine_eq]) ?_
  refine sq (δ1 := [some (.a (potD n5)), some (.v (.int most)), some (.v (.int thick)), some (.v (.int m)), some (.v (.int sh)), some (.v (.int z)), some (.m (.list [])), some (.v (.list (cs.map .int))), some (.m (.list (ps.map pairD))), y9, y10, y11, y12, y13]) ?_ ?_
  · rw [ev_for, ev_rng2]
    simp only [ev_c, ev_var, List.getElem?_cons_zero, List.getElem?_cons_succ, varR_v, Rs.bind_ok, onI_int, im, i1, Bool.and_self, if_true]
    rw [f7]
    exact t1'
  refine sq (δ1 := [some (.a (potD n6)), some (.v (.int most)), some (.v (.int thick)), some (.v (.int m)), some (.v (.int sh)), some (.v (.int z)), some (.m (.list [])), some (.v (.list (cs.map .int))), some (.m (.list ((ps ++ qs).map pairD))), x9, x10, x11, x12, x13]) ?_ ?_
  · rw [ev_for, ev_rng1]
    simp only [ev_var, List.getElem?_cons_zero, List.getElem?_cons_succ, varR_v, Rs.bind_ok, onI_int, iz, if_true, Int.toNat_natCast]
    exact t2'
  refine sq (δ1 := [some (.a (potD n6)), some (.v (.int most)), some (.v (.int thick)), some (.v (.int m)), some (.v (.int sh)), some (.v (.int z)), some (.m (.list [])), some (.v (.list (cs.map .int))), some (.m (.list (((ps ++ qs).map (rnP cs)).map pairD))), x9, x10, x11, x12, x13]) ?_ ?_
  · rw [ev_setO]
    rw [show fLc _ _ _ _ _ _ = _ from rn]
    rfl
  generalize (ps ++ qs).map (rnP cs) = us at *
  generalize (srtP (dd us)).map pairD = t3 at *
  generalize us.map pairD = t4 at *
  generalize cs.map PyData.int = cc at *
  simp [ss, PySem.sizeLine_eq]
theorem web_eq {n : Int} {most thick : Nat} (hn : 0 ≤ n) (h1 : 2 ≤ most) (h2 : most ≤ 8) (h3 : thick ≤ 4) : ∃ (m : Nat) (ps : Ts) (n' : Int), WebOk m ps ∧ m ≤ most ∧ ps ≠ [] ∧ ps.length ≤ 60 ∧ 0 ≤ n' ∧ S__law_web [potD n, .int most, .int thick] = .ok (webD m ps, some (potD n')) := by
  obtain ⟨m, ps, n', a, b, c, d, _, e, f⟩ := web_full (most := most) (thick := thick) hn h1 h2 h3
  exact ⟨m, ps, n', a, b, c, d, e, f⟩
end Kc

set_option maxRecDepth 100000
set_option maxHeartbeats 3900000
/-! ## M19. what is drawn beside a web -/
namespace Pw
open PySem L2
theorem ix_mem {ds : List PyData} {k : Int} (h0 : 0 ≤ k) (h1 : k < ds.length) : ∃ d ∈ ds, oIx (.list ds) (.int k) = some d := by
  obtain ⟨i, rfl⟩ : ∃ i : Nat, k = i := ⟨k.toNat, by omega⟩
  have il : i < ds.length := by omega
  refine ⟨ds[i], List.getElem_mem il, ?_⟩
  rw [oIx_int, ixD_list]
  unfold atI
  rw [Evl.ixN_nat il]
  simp [il]
theorem pow1029 : oPow (.int 10) (.int 29) = some (.int 100000000000000000000000000000) := by rfl
@[simp] theorem oNeg_int (i : Int) : oNeg (.int i) = some (.int (-i)) := (rfl)
theorem cut_to (ds : List PyData) (k : Nat) : oCut (.tuple ds) none (some (k : Int)) = some (.tuple (ds.take k)) := by
  have e : cutD ds none (some (k : Int)) = ds.take k := by
    unfold cutD
    rw [HT.sIx_nat, HT.sIx_none]
    by_cases h : k ≤ ds.length
    · rw [Nat.min_eq_left h, List.drop_zero, Nat.sub_zero]
    · rw [Nat.min_eq_right (by omega), List.drop_zero, Nat.sub_zero, List.take_length, List.take_of_length_le (by omega)]
  show some (PyData.tuple (cutD ds none (some (k : Int)))) = _
  rw [e]
@[simp] theorem ev_cut {fa : Dv → Rs (PyData × Dv)} {lo hi : Dpt} {δ : Dv} : fCut fa lo hi δ = (fa δ).bind fun x => (ptR lo x.2).bind fun l => (ptR hi l.2).bind fun h => lift (oCut x.1 l.1 h.1) h.2 := (rfl)
@[simp] theorem ptR_no {δ : Dv} : ptR none δ = .ok (none, δ) := (rfl)
@[simp] theorem ptR_so {f : Dv → Rs (PyData × Dv)} {δ : Dv} : ptR (some f) δ = (f δ).bind fun x => onI x.1 fun i => .ok (some i, x.2) := (rfl)
@[simp] theorem oTurnT_t (ds : List PyData) : oTurnT (.tuple ds) = some (.tuple ds.reverse) := (rfl)
end Pw
namespace Kc
open PySem L2 Pw Gr
theorem sml_i {i : Int} (h : i.natAbs < 10 ^ 39 := by decide) : Sml 0 131 (.int i) := Sml.int h
theorem sml_lf {d : PyData} (h : shD d = true ∧ d.showable = true ∧ d.leavesShort 60 = true ∧ d.depth = 0 ∧ d.weight ≤ 131 := by decide +kernel) : Sml 0 131 d := Sml.leaf h.1 h.2.1 h.2.2.1 h.2.2.2.1 h.2.2.2.2
/-- of small worth -/
theorem sml_bit {d : PyData} (h : Sml 0 131 d) : Sml 1 264 d := h.mono (by decide) (by decide)
theorem sml_one {d : PyData} (h : Sml 0 131 d) : Sml 1 264 (.tuple [d]) := (Sml.tuple (k := 0) (w := 131) (ds := [d]) fun x hx => by rw [List.mem_singleton.mp hx]; exact h).mono (by decide) (by show 1 * (131 + 1) ≤ 264; decide)
theorem sml_oneL {d : PyData} (h : Sml 0 131 d) : Sml 1 264 (.list [d]) := (Sml.list (k := 0) (w := 131) (ds := [d]) fun x hx => by rw [List.mem_singleton.mp hx]; exact h).mono (by decide) (by show 1 * (131 + 1) ≤ 264; decide)
theorem no_place_full {n : Int} {m : Nat} {ps : Ts} (hn : 0 ≤ n) (hm : m ≤ 8) : ∃ (d : PyData) (n' : Int), 0 ≤ n' ∧ Sml 1 264 d ∧ (∀ i : Int, d = .int i → ¬ (0 ≤ i ∧ i < m)) ∧ S__law_no_place [potD n, webD m ps] = .ok (d, some (potD n')) := by
  have d1 := tk_eq (n := n) (f := 10) (fx := fC (.int 10)) (r := [some (.v (webD m ps))]) (by simp) (by omega) (by omega)
  have r0 : 0 ≤ n % 10 := Int.emod_nonneg _ (by omega)
  have r1 : n % 10 < 10 := Int.emod_lt_of_pos _ (by omega)
  obtain ⟨d, hd, hx⟩ := ix_mem (ds := [.int m, .int (-1), .bool true, .bool false, .none, .str "0", .tuple [.int 0], .list [.int 1], .int 8, .int 100000000000000000000000000000]) r0 r1
  refine ⟨d, n / 10, Int.ediv_nonneg hn (by omega), ?_, ?_, run_rt (g := g__law_no_place) (δ := [some (.a (potD (n / 10))), some (.v (webD m ps))]) ?_ rfl⟩
  · have b : (100 : Nat) < 10 ^ 39 := by decide
    simp only [List.mem_cons, List.not_mem_nil, or_false] at hd
    rcases hd with rfl | rfl | rfl | rfl | rfl | rfl | rfl | rfl | rfl | rfl
    · exact sml_bit (sml_i (by omega))
    · exact sml_bit sml_i
    · exact sml_bit sml_lf
    · exact sml_bit sml_lf
    · exact sml_bit sml_lf
    · exact sml_bit sml_lf
    · exact sml_one sml_i
    · exact sml_oneL sml_i
    · exact sml_bit sml_i
    · exact sml_bit sml_i
  · intro i e
    subst e
    simp only [List.mem_cons, List.not_mem_nil, or_false, PyData.int.injEq, reduceCtorEq, false_or] at hd
    omega
  · show g__law_no_place [some (.a (potD n)), some (.v (webD m ps))] = _
    unfold g__law_no_place
    have a0 : oIx (webD m ps) (.int 0) = some (.int m) := atW0 m ps
    unfold webD at *
    generalize ps.map pairD = ts at *
    simp [-ev_callM, -oIx_int, d1, hx, a0, pow1029, PySem.sizeLine_eq]
theorem no_place_eq {n : Int} {m : Nat} {ps : Ts} (hn : 0 ≤ n) (hm : m ≤ 8) : ∃ (d : PyData) (n' : Int), 0 ≤ n' ∧ Sml 1 264 d ∧ S__law_no_place [potD n, webD m ps] = .ok (d, some (potD n')) := by
  obtain ⟨d, n', h1, h2, _, h3⟩ := no_place_full (ps := ps) hn hm
  exact ⟨d, n', h1, h2, h3⟩
theorem two_eq {n : Int} {m : Nat} {ps : Ts} (hn : 0 ≤ n) (h2 : 2 ≤ m) (hm : m ≤ 8) : ∃ (a b : Nat) (n' : Int), 0 ≤ n' ∧ a < m ∧ b < m ∧ a ≠ b ∧ S__law_two [potD n, webD m ps] = .ok (.tuple [.int a, .int b], some (potD n')) := by
  have a0 := atW0 m ps
  have q0 : ∀ (k : Int) (x : Option SV), fIxv 1 (fC (.int 0)) [some (.a (potD k)), some (.v (webD m ps)), x] = .ok (.int m, [some (.a (potD k)), some (.v (webD m ps)), x]) := fun k x => by
    unfold webD at *
    generalize ps.map pairD = ts at *
    simp [a0]
  have d1 := tk_eq (n := n) (f := m) (fx := fIxv 1 (fC (.int 0))) (r := [some (.v (webD m ps)), none]) (q0 _ _) (by omega) (by omega)
  have r0 : 0 ≤ n % (m : Int) := Int.emod_nonneg _ (by omega)
  have r1 : n % (m : Int) < m := Int.emod_lt_of_pos _ (by omega)
  have hn1 : 0 ≤ n / (m : Int) := Int.ediv_nonneg hn (by omega)
  obtain ⟨a, ha⟩ : ∃ a : Nat, n % (m : Int) = a := ⟨(n % (m : Int)).toNat, by omega⟩
  rw [ha] at d1 r0 r1
  generalize n / (m : Int) = n1 at *
  have d2 := tk_eq (n := n1) (f := (m : Int) - 1) (fx := f2 oSub (fIxv 1 (fC (.int 0))) (fC (.int 1))) (r := [some (.v (webD m ps)), some (.v (.int a))]) (by rw [ev_f2, q0]; rfl) (by omega) (by omega)
  have t0 : 0 ≤ n1 % ((m : Int) - 1) := Int.emod_nonneg _ (by omega)
  have t1 : n1 % ((m : Int) - 1) < (m : Int) - 1 := Int.emod_lt_of_pos _ (by omega)
  have hn2 : 0 ≤ n1 / ((m : Int) - 1) := Int.ediv_nonneg hn1 (by omega)
  generalize n1 % ((m : Int) - 1) = t at *
  generalize n1 / ((m : Int) - 1) = n2 at *
  have b0 : 0 ≤ ((a : Int) + 1 + t) % m := Int.emod_nonneg _ (by omega)
  have b1 : ((a : Int) + 1 + t) % m < m := Int.emod_lt_of_pos _ (by omega)
  have bne : ((a : Int) + 1 + t) % m ≠ a := fun e => by
    by_cases hlt : (a : Int) + 1 + t < m
    · rw [Int.emod_eq_of_lt (by omega) hlt] at e
      omega
    · have e2 : ((a : Int) + 1 + t) % m = ((a : Int) + 1 + t - m) % m := by
        rw [Int.sub_emod_right]
      rw [e2, Int.emod_eq_of_lt (by omega) (by omega)] at e
      omega
  obtain ⟨b, hb⟩ : ∃ b : Nat, ((a : Int) + 1 + t) % m = b := ⟨(((a : Int) + 1 + t) % m).toNat, by omega⟩
  rw [hb] at b0 b1 bne
  refine ⟨a, b, n2, hn2, by omega, by omega, by omega, run_rt (g := g__law_two) (δ := [some (.a (potD n2)), some (.v (webD m ps)), some (.v (.int a))]) ?_ rfl⟩
  show g__law_two [some (.a (potD n)), some (.v (webD m ps)), none] = _
  unfold g__law_two
  refine sq (δ1 := [some (.a (potD n1)), some (.v (webD m ps)), some (.v (.int a))]) (by rw [ev_set, d1]; rfl) ?_
  have mp : (0 : Int) < m := by omega
  rw [ev_ret, ev_tup, ev_cons, ev_var]
  simp only [List.getElem?_cons_zero, List.getElem?_cons_succ, varR_v, Rs.bind_ok]
  rw [ev_cons, ev_f2, ev_f2, ev_f2, ev_var]
  simp only [List.getElem?_cons_zero, List.getElem?_cons_succ, varR_v, Rs.bind_ok, ev_c, oAdd_int, lift_some, d2, q0, oMod_int, mp, if_true, hb, ev_nil]
  rw [if_pos (by rw [PySem.sizeLine_eq]; show 2 ≤ 16777216; decide)]
  rfl
end Kc

set_option maxRecDepth 100000
set_option maxHeartbeats 3900000
/-! ## M20. a web with one thing put otherwise -/
namespace Kc
open PySem L2 Pw Gr
/-- small, and not too long where it looks like a web -/
structure Fine (d : PyData) : Prop where
  sml : Sml 4 98000 d
  lim : ∀ a ts, d = .tuple [a, .tuple ts] → ts.length < 64
structure Rows (r : List PyData) : Prop where
  sml : ∀ d ∈ r, Sml 2 530 d
  len : r.length ≤ 61
theorem Rows.tup {r : List PyData} (h : Rows r) : Sml 3 32391 (.tuple r) := by
  refine (Sml.tuple h.sml).mono (Nat.le_refl _) ?_
  have := h.len
  omega
theorem Rows.lst {r : List PyData} (h : Rows r) : Sml 3 32391 (.list r) := by
  refine (Sml.list h.sml).mono (Nat.le_refl _) ?_
  have := h.len
  omega
theorem Fine.web {x : PyData} {r : List PyData} (hx : Sml 2 530 x) (h : Rows r) : Fine (.tuple [x, .tuple r]) := by
  refine ⟨(Sml.tuple (k := 3) (w := 32391) fun d hd => ?_).mono (Nat.le_refl _) (by simp only [List.length_cons, List.length_nil]; omega), fun a ts e => ?_⟩
  · simp only [List.mem_cons, List.not_mem_nil, or_false] at hd
    rcases hd with rfl | rfl
    · exact hx.mono (by decide) (by decide)
    · exact h.tup
  · cases e
    have := h.len
    omega
theorem Fine.webL {x : PyData} {r : List PyData} (hx : Sml 2 530 x) (h : Rows r) : Fine (.tuple [x, .list r]) := by
  refine ⟨(Sml.tuple (k := 3) (w := 32391) fun d hd => ?_).mono (Nat.le_refl _) (by simp only [List.length_cons, List.length_nil]; omega), fun a ts e => by cases e⟩
  simp only [List.mem_cons, List.not_mem_nil, or_false] at hd
  rcases hd with rfl | rfl
  · exact hx.mono (by decide) (by decide)
  · exact h.lst
theorem Fine.lst {x : PyData} {r : List PyData} (hx : Sml 2 530 x) (h : Rows r) : Fine (.list [x, .tuple r]) := by
  refine ⟨(Sml.list (k := 3) (w := 32391) fun d hd => ?_).mono (Nat.le_refl _) (by simp only [List.length_cons, List.length_nil]; omega), fun a ts e => by cases e⟩
  simp only [List.mem_cons, List.not_mem_nil, or_false] at hd
  rcases hd with rfl | rfl
  · exact hx.mono (by decide) (by decide)
  · exact h.tup
theorem sml_nilT : Sml 1 131 (.tuple []) := (Sml.tuple (k := 0) (w := 0) (ds := []) fun d hd => by cases hd).mono (Nat.le_refl _) (by simp only [List.length_nil]; omega)
theorem Fine.three {x : PyData} {r : List PyData} (hx : Sml 2 530 x) (h : Rows r) : Fine (.tuple [x, .tuple r, .tuple []]) := by
  refine ⟨(Sml.tuple (k := 3) (w := 32391) fun d hd => ?_).mono (Nat.le_refl _) (by simp only [List.length_cons, List.length_nil]; omega), fun a ts e => by cases e⟩
  simp only [List.mem_cons, List.not_mem_nil, or_false] at hd
  rcases hd with rfl | rfl | rfl
  · exact hx.mono (by decide) (by decide)
  · exact h.tup
  · exact sml_nilT.mono (by decide) (by decide)
theorem Fine.of {d : PyData} (h : Sml 2 530 d) (no : ∀ a ts, d ≠ .tuple [a, .tuple ts]) : Fine d := ⟨h.mono (by decide) (by decide), fun a ts e => absurd e (no a ts)⟩
theorem Fine.rows {ps : Ts} (h : Rows (ps.map pairD)) : Fine (.tuple (ps.map pairD)) := ⟨h.tup.mono (by decide) (by decide), fun a ts e => by
  match ps, e with
  | [], e => cases e
  | [_], e => cases e
  | [p, q], e =>
    cases e
    show 2 < 64
    decide
  | _ :: _ :: _ :: _, e => cases e⟩
theorem Rows.app {r s : List PyData} (hr : ∀ d ∈ r, Sml 2 530 d) (hs : ∀ d ∈ s, Sml 2 530 d) (hl : r.length + s.length ≤ 61) : Rows (r ++ s) := ⟨fun d hd => (List.mem_append.mp hd).elim (hr d) (hs d), by rw [List.length_append]; exact hl⟩
theorem sml_two {a b : PyData} (ha : Sml 1 264 a) (hb : Sml 1 264 b) : Sml 2 530 (.tuple [a, b]) := (Sml.tuple (k := 1) (w := 264) fun d hd => by
  simp only [List.mem_cons, List.not_mem_nil, or_false] at hd
  rcases hd with rfl | rfl
  · exact ha
  · exact hb).mono (by decide) (by simp only [List.length_cons, List.length_nil]; omega)
theorem pr (p1 p2 : Int) (pb : p1.natAbs < 10 ^ 39 ∧ p2.natAbs < 10 ^ 39) : ∀ d ∈ [PyData.int p1, PyData.int p2], Sml 0 131 d := fun d hd => by
  simp only [List.mem_cons, List.not_mem_nil, or_false] at hd
  rcases hd with rfl | rfl
  · exact sml_i pb.1
  · exact sml_i pb.2
theorem bent_eq {n : Int} {m : Nat} {ps : Ts} (hn : 0 ≤ n) (w : WebOk m ps) (hp : ps ≠ []) (hz : ps.length ≤ 60) : ∃ (d : PyData) (n' : Int), 0 ≤ n' ∧ Fine d ∧ S__law_bent [potD n, webD m ps] = .ok (d, some (potD n')) := by
  have lp : 0 < ps.length := List.length_pos_iff.mpr hp
  have b39 : (100 : Nat) < 10 ^ 39 := by decide
  have hm := w.hi
  have hm2 := w.lo
  -- the draws
  have d1 := tk_eq (n := n) (f := (ps.map pairD).length) (fx := f1 oLen (fBar 11)) (r := [some (.v (webD m ps)), none, none, none, none, none, none, none, none, some (.v (.int m)), some (.v (.tuple (ps.map pairD)))]) (by generalize ps.map pairD = ts; simp) (by rw [List.length_map]; omega) (by rw [List.length_map]; omega)
  rw [List.length_map] at d1
  have r0 : 0 ≤ n % (ps.length : Int) := Int.emod_nonneg _ (by omega)
  have r1 : n % (ps.length : Int) < ps.length := Int.emod_lt_of_pos _ (by omega)
  have hn1 : 0 ≤ n / (ps.length : Int) := Int.ediv_nonneg hn (by omega)
  obtain ⟨k, hk⟩ : ∃ k : Nat, n % (ps.length : Int) = k := ⟨(n % (ps.length : Int)).toNat, by omega⟩
  rw [hk] at d1 r0 r1
  generalize n / (ps.length : Int) = n1 at *
  have kl : k < ps.length := by omega
  have d2 := tk_eq (n := n1) (f := 2) (fx := fC (.int 2)) (r := [some (.v (webD m ps)), some (.v (.int k)), none, none, none, none, none, none, none, some (.v (.int m)), some (.v (.tuple (ps.map pairD)))]) (by generalize ps.map pairD = ts; simp) (by omega) (by omega)
  have s0 : 0 ≤ n1 % 2 := Int.emod_nonneg _ (by omega)
  have s1 : n1 % 2 < 2 := Int.emod_lt_of_pos _ (by omega)
  have hn2 : 0 ≤ n1 / 2 := Int.ediv_nonneg hn1 (by omega)
  generalize n1 / 2 = n2 at *
  generalize n1 % 2 = wh at *
  have d3 := tk_eq (n := n2) (f := 10) (fx := fC (.int 10)) (r := [some (.v (webD m ps)), some (.v (.int k)), some (.v (.int wh)), none, none, none, none, none, none, some (.v (.int m)), some (.v (.tuple (ps.map pairD)))]) (by generalize ps.map pairD = ts; simp) (by omega) (by omega)
  obtain ⟨odd, hodd, ho⟩ := ix_mem (ds := [.int 8, .int m, .int (-1), .bool true, .bool false, .none, .str "1", .tuple [.int 1], .int 100000000000000000000000000000, .int 0]) (k := n2 % 10) (Int.emod_nonneg _ (by omega)) (Int.emod_lt_of_pos _ (by omega))
  have so : Sml 1 264 odd ∧ ∀ a ts, odd ≠ .tuple [a, .tuple ts] := by
    simp only [List.mem_cons, List.not_mem_nil, or_false] at hodd
    rcases hodd with rfl | rfl | rfl | rfl | rfl | rfl | rfl | rfl | rfl | rfl
    · exact ⟨sml_bit sml_i, fun a ts e => by cases e⟩
    · exact ⟨sml_bit (sml_i (by omega)), fun a ts e => by cases e⟩
    · exact ⟨sml_bit sml_i, fun a ts e => by cases e⟩
    · exact ⟨sml_bit sml_lf, fun a ts e => by cases e⟩
    · exact ⟨sml_bit sml_lf, fun a ts e => by cases e⟩
    · exact ⟨sml_bit sml_lf, fun a ts e => by cases e⟩
    · exact ⟨sml_bit sml_lf, fun a ts e => by cases e⟩
    · exact ⟨sml_one sml_i, fun a ts e => by cases e⟩
    · exact ⟨sml_bit sml_i, fun a ts e => by cases e⟩
    · exact ⟨sml_bit sml_i, fun a ts e => by cases e⟩
  obtain ⟨so, no⟩ := so
  have hn3 : 0 ≤ n2 / 10 := Int.ediv_nonneg hn2 (by omega)
  generalize n2 / 10 = n3 at *
  generalize n2 % 10 = w3 at *
  have d4 := tk_eq (n := n3) (f := 9) (fx := fC (.int 9)) (r := [some (.v (webD m ps)), some (.v (.int k)), some (.v (.int wh)), some (.v odd), none, none, none, none, none, some (.v (.int m)), some (.v (.tuple (ps.map pairD)))]) (by generalize ps.map pairD = ts; simp) (by omega) (by omega)
  have t0 : 0 ≤ n3 % 9 := Int.emod_nonneg _ (by omega)
  have t1 : n3 % 9 < 9 := Int.emod_lt_of_pos _ (by omega)
  have hn4 : 0 ≤ n3 / 9 := Int.ediv_nonneg hn3 (by omega)
  generalize n3 / 9 = n4 at *
  generalize n3 % 9 = o1 at *
  have d5 := tk_eq (n := n4) (f := 9) (fx := fC (.int 9)) (r := [some (.v (webD m ps)), some (.v (.int k)), some (.v (.int wh)), some (.v odd), some (.v (.int o1)), none, none, none, none, some (.v (.int m)), some (.v (.tuple (ps.map pairD)))]) (by generalize ps.map pairD = ts; simp) (by omega) (by omega)
  have u0 : 0 ≤ n4 % 9 := Int.emod_nonneg _ (by omega)
  have u1 : n4 % 9 < 9 := Int.emod_lt_of_pos _ (by omega)
  have hn5 : 0 ≤ n4 / 9 := Int.ediv_nonneg hn4 (by omega)
  generalize n4 / 9 = n5 at *
  generalize n4 % 9 = o2 at *
  -- the tie
  have tb : ∀ p ∈ ps, p.1.natAbs < 10 ^ 39 ∧ p.2.natAbs < 10 ^ 39 := fun p hp => by
    have := w.tie p hp
    omega
  obtain ⟨p1, p2, hpp, pb⟩ : ∃ p1 p2 : Int, (ps.map pairD)[k]? = some (.tuple [.int p1, .int p2]) ∧ p1.natAbs < 10 ^ 39 ∧ p2.natAbs < 10 ^ 39 := ⟨ps[k].1, ps[k].2, by rw [List.getElem?_map, List.getElem?_eq_getElem kl]; rfl, tb _ (List.getElem_mem kl)⟩
  have at1 : atI (ps.map pairD) (k : Int) = some (.tuple [.int p1, .int p2]) := by
    unfold atI
    rw [Evl.ixN_nat (by rw [List.length_map]; exact kl)]
    simpa using hpp
  have bt : ∃ bt : PyData, Sml 2 530 bt ∧ ∀ (x8 x9 : Option SV), (f2 oAdd (f2 oAdd (fCut (fVar 7) none (some (fVar 3))) (fTup (aCons (fVar 4) aNil))) (fCut (fVar 7) (some (f2 oAdd (fVar 3) (fC (.int 1)))) none)) [some (.a (potD n5)), some (.v (webD m ps)), some (.v (.int k)), some (.v (.int wh)), some (.v odd), some (.v (.int o1)), some (.v (.int o2)), some (.v (.tuple [.int p1, .int p2])), x8, x9, some (.v (.int m)), some (.v (.tuple (ps.map pairD)))] = .ok (bt, [some (.a (potD n5)), some (.v (webD m ps)), some (.v (.int k)), some (.v (.int wh)), some (.v odd), some (.v (.int o1)), some (.v (.int o2)), some (.v (.tuple [.int p1, .int p2])), x8, x9, some (.v (.int m)), some (.v (.tuple (ps.map pairD)))]) := by
    rcases (show wh = 0 ∨ wh = 1 by omega) with rfl | rfl
    · refine ⟨.tuple [odd, .int p2], sml_two so (sml_bit (sml_i pb.2)), fun x8 x9 => ?_⟩
      have q1 := cut_to [.int p1, .int p2] 0
      have q2 := cut_from [.int p1, .int p2] 1
      generalize ps.map pairD = ts
      simp at q1 q2
      simp [q1, q2, PySem.sizeLine_eq]
    · refine ⟨.tuple [.int p1, odd], sml_two (sml_bit (sml_i pb.1)) so, fun x8 x9 => ?_⟩
      have q1 := cut_to [.int p1, .int p2] 1
      have q2 := cut_from [.int p1, .int p2] 2
      generalize ps.map pairD = ts
      simp at q1 q2
      simp [q1, q2, PySem.sizeLine_eq]
  obtain ⟨bt, sbt, hbt⟩ := bt
  -- the ties and one more, in order
  have sr := sort_pairsT (ps ++ [(o1, o2)])
  have rs : Rows ((srtP (ps ++ [(o1, o2)])).map pairD) := by
    have pm := isrt_perm (le := leP) (ps ++ [(o1, o2)])
    refine ⟨fun d hd => ?_, ?_⟩
    · obtain ⟨p, hp, rfl⟩ := List.mem_map.mp hd
      refine (Sml.pair (p := p) ?_ ?_).mono (by decide) (by decide) <;>
      · rcases List.mem_append.mp (pm.mem_iff.mp hp) with h | h
        · have := tb p h
          omega
        · rw [List.mem_singleton.mp h]
          simp only
          omega
    · rw [List.length_map]
      have := pm.length_eq
      rw [List.length_append, List.length_singleton] at this
      show (isrt leP (ps ++ [(o1, o2)])).length ≤ 61
      omega
  have sr2 : oSortA (.tuple (ps.map pairD ++ [.tuple [.int o1, .int o2]])) = some (.list ((srtP (ps ++ [(o1, o2)])).map pairD)) := by
    rw [← sr, List.map_append]
    rfl
  clear sr
  have rt : Rows (ps.map pairD) := ⟨fun d hd => by
    obtain ⟨p, hp, rfl⟩ := List.mem_map.mp hd
    exact (Sml.pair (tb p hp).1 (tb p hp).2).mono (by decide) (by decide), by rw [List.length_map]; omega⟩
  have ft := Fine.rows rt
  have lt : (ps.map pairD).length ≤ 60 := by rw [List.length_map]; exact hz
  have lk : k < (ps.map pairD).length := by rw [List.length_map]; exact kl
  generalize (srtP (ps ++ [(o1, o2)])).map pairD = ss at *
  have d6 := fun x9 : Option SV => tk_eq (n := n5) (f := 20) (fx := fC (.int 20)) (r := [some (.v (webD m ps)), some (.v (.int k)), some (.v (.int wh)), some (.v odd), some (.v (.int o1)), some (.v (.int o2)), some (.v (.tuple [.int p1, .int p2])), some (.v (.tuple [bt])), x9, some (.v (.int m)), some (.v (.tuple (ps.map pairD)))]) (by generalize ps.map pairD = ts; simp) (by omega) (by omega)
  have v0 : 0 ≤ n5 % 20 := Int.emod_nonneg _ (by omega)
  have v1 : n5 % 20 < 20 := Int.emod_lt_of_pos _ (by omega)
  have hn6 : 0 ≤ n5 / 20 := Int.ediv_nonneg hn5 (by omega)
  generalize n5 / 20 = n6 at *
  generalize n5 % 20 = w6 at *
  have unp : ∀ x : Int, (gAsg (fVar 1) (bTup [(bName 10), (bName 11)])) [some (.a (potD x)), some (.v (webD m ps)), none, none, none, none, none, none, none, none, none, none] = .ok (.nx, [some (.a (potD x)), some (.v (webD m ps)), none, none, none, none, none, none, none, none, some (.v (.int m)), some (.v (.tuple (ps.map pairD)))]) := fun x => by
    unfold webD
    generalize ps.map pairD = ts
    simp
  generalize webD m ps = wb at *
  generalize ps.map pairD = ts at *
  have st := rt.sml
  have c1 := cut_to ts k
  have c2 : oCut (.tuple ts) (some ((k : Int) + 1)) none = some (.tuple (ts.drop (k + 1))) := cut_from ts (k + 1)
  have c3 : oCut (.tuple ts) none (some ((k : Int) + 1)) = some (.tuple (ts.take (k + 1))) := cut_to ts (k + 1)
  have c4 := cut_from ts k
  have c5 : oCut (.tuple [.int p1, .int p2]) none (some 1) = some (.tuple [.int p1]) := cut_to [.int p1, .int p2] 1
  have sa : ∀ d ∈ ts.take k, Sml 2 530 d := fun d hd => st d (List.mem_of_mem_take hd)
  have sz : ∀ d ∈ ts.drop (k + 1), Sml 2 530 d := fun d hd => st d (List.mem_of_mem_drop hd)
  have sa2 : ∀ d ∈ ts.take (k + 1), Sml 2 530 d := fun d hd => st d (List.mem_of_mem_take hd)
  have sz2 : ∀ d ∈ ts.drop k, Sml 2 530 d := fun d hd => st d (List.mem_of_mem_drop hd)
  have la : (ts.take k).length = k := by rw [List.length_take]; omega
  have lz : (ts.drop (k + 1)).length = ts.length - (k + 1) := by rw [List.length_drop]
  have la2 : (ts.take (k + 1)).length = k + 1 := by rw [List.length_take]; omega
  have lz2 : (ts.drop k).length = ts.length - k := by rw [List.length_drop]
  generalize ts.take k = ta at *
  generalize ts.drop (k + 1) = tz at *
  generalize ts.take (k + 1) = ta2 at *
  generalize ts.drop k = tz2 at *
  have addT : ∀ x y : List PyData, x.length + y.length ≤ 1000 → oAdd (.tuple x) (.tuple y) = some (.tuple (x ++ y)) := fun x y h => by
    rw [oAdd_tuple, if_pos (by rw [PySem.sizeLine_eq]; omega)]
  have e1 : ∀ e : PyData, oAdd (.tuple ta) (.tuple [e]) = some (.tuple (ta ++ [e])) := fun e => addT _ _ (by rw [List.length_singleton]; omega)
  have e2 : ∀ e : PyData, oAdd (.tuple (ta ++ [e])) (.tuple tz) = some (.tuple (ta ++ e :: tz)) := fun e => by
    rw [addT _ _ (by rw [List.length_append, List.length_singleton]; omega), List.append_assoc]
    rfl
  have e3 : oAdd (.tuple ta) (.tuple tz) = some (.tuple (ta ++ tz)) := addT _ _ (by omega)
  have e4 : oAdd (.tuple ta2) (.tuple tz2) = some (.tuple (ta2 ++ tz2)) := addT _ _ (by omega)
  have e5 : ∀ e : PyData, oAdd (.tuple ts) (.tuple [e]) = some (.tuple (ts ++ [e])) := fun e => addT _ _ (by rw [List.length_singleton]; omega)
  have e6 : oAdd (.tuple [.int p1, .int p2]) (.tuple [.int 0]) = some (.tuple [.int p1, .int p2, .int 0]) := addT [.int p1, .int p2] [.int 0] (by show 3 ≤ 1000; decide)
  have rmid : ∀ e : PyData, Sml 2 530 e → Rows (ta ++ e :: tz) := fun e he => Rows.app sa (fun d hd => (List.mem_cons.mp hd).elim (fun z => z ▸ he) (sz d)) (by rw [List.length_cons]; omega)
  have sm : Sml 2 530 (.int m) := (sml_i (by omega)).mono (by decide) (by decide)
  obtain ⟨d, hd, hx⟩ := ix_mem (ds := [.tuple [.int m, .tuple (ta ++ bt :: tz)], .tuple [.int m, .tuple (ta ++ tz)], .tuple [.int m, .list ts], .list [.int m, .tuple ts], .tuple [.int m, .tuple (ta ++ .list [.int p1, .int p2] :: tz)], .tuple [.int m, .tuple (ta ++ .tuple [.int p2, .int p1] :: tz)], .tuple [.int m, .tuple (ta2 ++ tz2)], .tuple [.int m, .tuple ts.reverse], .tuple [.int ((m : Int) + 1), .tuple ts], .tuple [.int ((m : Int) - 1), .tuple ts], .tuple [odd, .tuple ts], .tuple [.int m, .tuple ss], .tuple [.int m, .tuple ts, .tuple []], .tuple [.int m], .tuple ts, .int m, odd, .tuple [], .tuple [.int m, .tuple (ta ++ .tuple [.int p1, .int p2, .int 0] :: tz)], .tuple [.int m, .tuple (ta ++ .tuple [.int p1] :: tz)]]) (k := w6) v0 (by simp only [List.length_cons, List.length_nil]; omega)
  refine ⟨d, n6, hn6, ?_, run_rt (g := g__law_bent) (δ := [some (.a (potD n6)), some (.v wb), some (.v (.int k)), some (.v (.int wh)), some (.v odd), some (.v (.int o1)), some (.v (.int o2)), some (.v (.tuple [.int p1, .int p2])), some (.v (.tuple [bt])), some (.v (.list [.tuple [.int m, .tuple (ta ++ bt :: tz)], .tuple [.int m, .tuple (ta ++ tz)], .tuple [.int m, .list ts], .list [.int m, .tuple ts], .tuple [.int m, .tuple (ta ++ .list [.int p1, .int p2] :: tz)], .tuple [.int m, .tuple (ta ++ .tuple [.int p2, .int p1] :: tz)], .tuple [.int m, .tuple (ta2 ++ tz2)], .tuple [.int m, .tuple ts.reverse], .tuple [.int ((m : Int) + 1), .tuple ts], .tuple [.int ((m : Int) - 1), .tuple ts], .tuple [odd, .tuple ts], .tuple [.int m, .tuple ss], .tuple [.int m, .tuple ts, .tuple []], .tuple [.int m], .tuple ts, .int m, odd, .tuple [], .tuple [.int m, .tuple (ta ++ .tuple [.int p1, .int p2, .int 0] :: tz)], .tuple [.int m, .tuple (ta ++ .tuple [.int p1] :: tz)]])), some (.v (.int m)), some (.v (.tuple ts))]) ?_ rfl⟩
  · simp only [List.mem_cons, List.not_mem_nil, or_false] at hd
    rcases hd with rfl | rfl | rfl | rfl | rfl | rfl | rfl | rfl | rfl | rfl | rfl | rfl | rfl | rfl | rfl | rfl | rfl | rfl | rfl | rfl
    · exact Fine.web sm (rmid _ sbt)
    · exact Fine.web sm (Rows.app sa sz (by omega))
    · exact Fine.webL sm rt
    · exact Fine.lst sm rt
    · exact Fine.web sm (rmid _ (Sml.mono (Sml.list (k := 0) (w := 131) (ds := [.int p1, .int p2]) (pr p1 p2 pb)) (by decide) (by show 2 * (131 + 1) ≤ 530; decide)))
    · exact Fine.web sm (rmid _ (sml_two (sml_bit (sml_i pb.2)) (sml_bit (sml_i pb.1))))
    · exact Fine.web sm (Rows.app sa2 sz2 (by omega))
    · exact Fine.web sm ⟨fun d hd => st d (List.mem_reverse.mp hd), by rw [List.length_reverse]; omega⟩
    · exact Fine.web ((sml_i (by omega)).mono (by decide) (by decide)) rt
    · exact Fine.web ((sml_i (by omega)).mono (by decide) (by decide)) rt
    · exact Fine.web (so.mono (by decide) (by decide)) rt
    · exact Fine.web sm rs
    · exact Fine.three sm rt
    · exact Fine.of ((sml_one (sml_i (by omega))).mono (by decide) (by decide)) (fun a ts e => by cases e)
    · exact ft
    · exact Fine.of sm (fun a ts e => by cases e)
    · exact Fine.of (so.mono (by decide) (by decide)) no
    · exact Fine.of (sml_nilT.mono (by decide) (by decide)) (fun a ts e => by cases e)
    · exact Fine.web sm (rmid _ (Sml.mono (Sml.tuple (k := 0) (w := 131) (ds := [.int p1, .int p2, .int 0]) (fun d hd => by
        simp only [List.mem_cons, List.not_mem_nil, or_false] at hd
        rcases hd with rfl | rfl | rfl
        · exact sml_i pb.1
        · exact sml_i pb.2
        · exact sml_i)) (by decide) (by show 3 * (131 + 1) ≤ 530; decide)))
    · exact Fine.web sm (rmid _ ((sml_one (sml_i pb.1)).mono (by decide) (by decide)))
  show g__law_bent [some (.a (potD n)), some (.v wb), none, none, none, none, none, none, none, none, none, none] = _
  unfold g__law_bent
  refine sq (δ1 := [some (.a (potD n)), some (.v wb), none, none, none, none, none, none, none, none, some (.v (.int m)), some (.v (.tuple ts))]) (unp n) ?_
  refine sq (δ1 := [some (.a (potD n1)), some (.v wb), some (.v (.int k)), none, none, none, none, none, none, none, some (.v (.int m)), some (.v (.tuple ts))]) (by simp [-ev_callM, d1]) ?_
  refine sq (δ1 := [some (.a (potD n2)), some (.v wb), some (.v (.int k)), some (.v (.int wh)), none, none, none, none, none, none, some (.v (.int m)), some (.v (.tuple ts))]) (by simp [-ev_callM, d2]) ?_
  refine sq (δ1 := [some (.a (potD n3)), some (.v wb), some (.v (.int k)), some (.v (.int wh)), some (.v odd), none, none, none, none, none, some (.v (.int m)), some (.v (.tuple ts))]) (by simp [-ev_callM, -oIx_int, d3, ho, pow1029, PySem.sizeLine_eq]) ?_
  refine sq (δ1 := [some (.a (potD n4)), some (.v wb), some (.v (.int k)), some (.v (.int wh)), some (.v odd), some (.v (.int o1)), none, none, none, none, some (.v (.int m)), some (.v (.tuple ts))]) (by simp [-ev_callM, d4]) ?_
  refine sq (δ1 := [some (.a (potD n5)), some (.v wb), some (.v (.int k)), some (.v (.int wh)), some (.v odd), some (.v (.int o1)), some (.v (.int o2)), none, none, none, some (.v (.int m)), some (.v (.tuple ts))]) (by simp [-ev_callM, d5]) ?_
  refine sq (δ1 := [some (.a (potD n5)), some (.v wb), some (.v (.int k)), some (.v (.int wh)), some (.v odd), some (.v (.int o1)), some (.v (.int o2)), some (.v (.tuple [.int p1, .int p2])), none, none, some (.v (.int m)), some (.v (.tuple ts))]) (by simp [at1]) ?_
  refine sq (δ1 := [some (.a (potD n5)), some (.v wb), some (.v (.int k)), some (.v (.int wh)), some (.v odd), some (.v (.int o1)), some (.v (.int o2)), some (.v (.tuple [.int p1, .int p2])), some (.v (.tuple [bt])), none, some (.v (.int m)), some (.v (.tuple ts))]) (by rw [ev_set, ev_tup, ev_cons, hbt]; simp [PySem.sizeLine_eq]) ?_
  refine sq (δ1 := [some (.a (potD n5)), some (.v wb), some (.v (.int k)), some (.v (.int wh)), some (.v odd), some (.v (.int o1)), some (.v (.int o2)), some (.v (.tuple [.int p1, .int p2])), some (.v (.tuple [bt])), some (.v (.list [.tuple [.int m, .tuple (ta ++ bt :: tz)], .tuple [.int m, .tuple (ta ++ tz)]])), some (.v (.int m)), some (.v (.tuple ts))]) (by simp [-oAdd_tuple, c1, c2, c3, c4, c5, e1, e2, e3, e4, e5, e6, sr2, PySem.sizeLine_eq]) ?_
  refine sq (δ1 := [some (.a (potD n5)), some (.v wb), some (.v (.int k)), some (.v (.int wh)), some (.v odd), some (.v (.int o1)), some (.v (.int o2)), some (.v (.tuple [.int p1, .int p2])), some (.v (.tuple [bt])), some (.v (.list [.tuple [.int m, .tuple (ta ++ bt :: tz)], .tuple [.int m, .tuple (ta ++ tz)], .tuple [.int m, .list ts], .list [.int m, .tuple ts]])), some (.v (.int m)), some (.v (.tuple ts))]) (by simp [-oAdd_tuple, c1, c2, c3, c4, c5, e1, e2, e3, e4, e5, e6, sr2, PySem.sizeLine_eq]) ?_
  refine sq (δ1 := [some (.a (potD n5)), some (.v wb), some (.v (.int k)), some (.v (.int wh)), some (.v odd), some (.v (.int o1)), some (.v (.int o2)), some (.v (.tuple [.int p1, .int p2])), some (.v (.tuple [bt])), some (.v (.list [.tuple [.int m, .tuple (ta ++ bt :: tz)], .tuple [.int m, .tuple (ta ++ tz)], .tuple [.int m, .list ts], .list [.int m, .tuple ts], .tuple [.int m, .tuple (ta ++ .list [.int p1, .int p2] :: tz)], .tuple [.int m, .tuple (ta ++ .tuple [.int p2, .int p1] :: tz)]])), some (.v (.int m)), some (.v (.tuple ts))]) (by simp [-oAdd_tuple, c1, c2, c3, c4, c5, e1, e2, e3, e4, e5, e6, sr2, PySem.sizeLine_eq]) ?_
  refine sq (δ1 := [some (.a (potD n5)), some (.v wb), some (.v (.int k)), some (.v (.int wh)), some (.v odd), some (.v (.int o1)), some (.v (.int o2)), some (.v (.tuple [.int p1, .int p2])), some (.v (.tuple [bt])), some (.v (.list [.tuple [.int m, .tuple (ta ++ bt :: tz)], .tuple [.int m, .tuple (ta ++ tz)], .tuple [.int m, .list ts], .list [.int m, .tuple ts], .tuple [.int m, .tuple (ta ++ .list [.int p1, .int p2] :: tz)], .tuple [.int m, .tuple (ta ++ .tuple [.int p2, .int p1] :: tz)], .tuple [.int m, .tuple (ta2 ++ tz2)], .tuple [.int m, .tuple ts.reverse], .tuple [.int ((m : Int) + 1), .tuple ts]])), some (.v (.int m)), some (.v (.tuple ts))]) (by simp [-oAdd_tuple, c1, c2, c3, c4, c5, e1, e2, e3, e4, e5, e6, sr2, PySem.sizeLine_eq]) ?_
  refine sq (δ1 := [some (.a (potD n5)), some (.v wb), some (.v (.int k)), some (.v (.int wh)), some (.v odd), some (.v (.int o1)), some (.v (.int o2)), some (.v (.tuple [.int p1, .int p2])), some (.v (.tuple [bt])), some (.v (.list [.tuple [.int m, .tuple (ta ++ bt :: tz)], .tuple [.int m, .tuple (ta ++ tz)], .tuple [.int m, .list ts], .list [.int m, .tuple ts], .tuple [.int m, .tuple (ta ++ .list [.int p1, .int p2] :: tz)], .tuple [.int m, .tuple (ta ++ .tuple [.int p2, .int p1] :: tz)], .tuple [.int m, .tuple (ta2 ++ tz2)], .tuple [.int m, .tuple ts.reverse], .tuple [.int ((m : Int) + 1), .tuple ts], .tuple [.int ((m : Int) - 1), .tuple ts], .tuple [odd, .tuple ts]])), some (.v (.int m)), some (.v (.tuple ts))]) (by simp [-oAdd_tuple, c1, c2, c3, c4, c5, e1, e2, e3, e4, e5, e6, sr2, PySem.sizeLine_eq]) ?_
  refine sq (δ1 := [some (.a (potD n5)), some (.v wb), some (.v (.int k)), some (.v (.int wh)), some (.v odd), some (.v (.int o1)), some (.v (.int o2)), some (.v (.tuple [.int p1, .int p2])), some (.v (.tuple [bt])), some (.v (.list [.tuple [.int m, .tuple (ta ++ bt :: tz)], .tuple [.int m, .tuple (ta ++ tz)], .tuple [.int m, .list ts], .list [.int m, .tuple ts], .tuple [.int m, .tuple (ta ++ .list [.int p1, .int p2] :: tz)], .tuple [.int m, .tuple (ta ++ .tuple [.int p2, .int p1] :: tz)], .tuple [.int m, .tuple (ta2 ++ tz2)], .tuple [.int m, .tuple ts.reverse], .tuple [.int ((m : Int) + 1), .tuple ts], .tuple [.int ((m : Int) - 1), .tuple ts], .tuple [odd, .tuple ts], .tuple [.int m, .tuple ss], .tuple [.int m, .tuple ts, .tuple []], .tuple [.int m], .tuple ts, .int m, odd, .tuple []])), some (.v (.int m)), some (.v (.tuple ts))]) (by simp [-oAdd_tuple, c1, c2, c3, c4, c5, e1, e2, e3, e4, e5, e6, sr2, PySem.sizeLine_eq]) ?_
  refine sq (δ1 := [some (.a (potD n5)), some (.v wb), some (.v (.int k)), some (.v (.int wh)), some (.v odd), some (.v (.int o1)), some (.v (.int o2)), some (.v (.tuple [.int p1, .int p2])), some (.v (.tuple [bt])), some (.v (.list [.tuple [.int m, .tuple (ta ++ bt :: tz)], .tuple [.int m, .tuple (ta ++ tz)], .tuple [.int m, .list ts], .list [.int m, .tuple ts], .tuple [.int m, .tuple (ta ++ .list [.int p1, .int p2] :: tz)], .tuple [.int m, .tuple (ta ++ .tuple [.int p2, .int p1] :: tz)], .tuple [.int m, .tuple (ta2 ++ tz2)], .tuple [.int m, .tuple ts.reverse], .tuple [.int ((m : Int) + 1), .tuple ts], .tuple [.int ((m : Int) - 1), .tuple ts], .tuple [odd, .tuple ts], .tuple [.int m, .tuple ss], .tuple [.int m, .tuple ts, .tuple []], .tuple [.int m], .tuple ts, .int m, odd, .tuple [], .tuple [.int m, .tuple (ta ++ .tuple [.int p1, .int p2, .int 0] :: tz)], .tuple [.int m, .tuple (ta ++ .tuple [.int p1] :: tz)]])), some (.v (.int m)), some (.v (.tuple ts))]) (by simp [-oAdd_tuple, c1, c2, c3, c4, c5, e1, e2, e3, e4, e5, e6, sr2, PySem.sizeLine_eq]) ?_
  rw [ev_ret, ev_ixv]
  rw [if_pos (by rfl), d6]
  simp only [Rs.bind_ok, List.getElem?_cons_zero, List.getElem?_cons_succ, ixR_s, data_v, hx, lift_some]
end Kc

set_option maxRecDepth 100000
set_option maxHeartbeats 3900000
/-! ## M21. neighbours -/
namespace Kc
open PySem L2 Pw Gr
def tdP (a o : Int) : Int × Int := (gMin a o, gMax a o)
def nbB (ps : Ts) (a o : Int) : Bool := decide (tdP a o ∈ ps)
/-- the neighbours, rising -/
def nb (m : Nat) (ps : Ts) (a : Int) : List Int := (Gr.upTo m).filter (nbB ps a)
theorem nbB_adj {m : Nat} {ps : Ts} (w : WebOk m ps) (a o : Int) : nbB ps a o = true ↔ Adj ps a o := by
  unfold nbB tdP gMin gMax Adj
  rw [decide_eq_true_eq]
  by_cases h : o < a
  · rw [if_pos h, if_neg (by omega)]
    refine ⟨.inr, fun z => z.elim (fun q => ?_) id⟩
    have := w.tie _ q
    omega
  · rw [if_neg h]
    by_cases h2 : o > a
    · rw [if_pos h2]
      refine ⟨.inl, fun z => z.elim id (fun q => ?_)⟩
      have := w.tie _ q
      omega
    · have e : o = a := by omega
      subst e
      rw [if_neg h2]
      exact ⟨.inl, fun z => z.elim id id⟩
theorem adj_bd {m : Nat} {ps : Ts} (w : WebOk m ps) {a o : Int} (h : Adj ps a o) : (0 ≤ a ∧ a < m) ∧ (0 ≤ o ∧ o < m) ∧ a ≠ o := by
  rcases h with h | h
  · have := w.tie _ h; omega
  · have := w.tie _ h; omega
theorem mem_nb {m : Nat} {ps : Ts} (w : WebOk m ps) {a o : Int} : o ∈ nb m ps a ↔ Adj ps a o := by
  unfold nb
  rw [List.mem_filter, nbB_adj w, Gr.mem_upTo]
  exact ⟨fun h => h.2, fun h => ⟨(adj_bd w h).2.1, h⟩⟩
theorem in_tdP (a o : Int) (ps : Ts) : oIn (.tuple [.int (gMin a o), .int (gMax a o)]) (.tuple (ps.map pairD)) = some (.bool (nbB ps a o)) := in_pairs (tdP a o) ps
theorem are_tied_eq {m : Nat} {ps : Ts} (a o : Int) : S_are_tied [webD m ps, .int a, .int o] = .ok (.bool (nbB ps a o), none) := by
  refine run_rt (g := g_are_tied) (δ := [some (.v (webD m ps)), some (.v (.int a)), some (.v (.int o))]) ?_ rfl
  show g_are_tied [some (.v (webD m ps)), some (.v (.int a)), some (.v (.int o))] = _
  unfold g_are_tied
  have a1 := atW1 m ps
  have i := in_tdP a o ps
  unfold webD
  generalize ps.map pairD = ts at *
  simp [a1, i, PySem.sizeLine_eq]
def intI : PyData → Int
  | .int i => i
  | _ => 0
theorem filter_intI (p : Int → Bool) : ∀ l : List Int, ((l.map PyData.int).filter fun d => p (intI d)).map id = (l.filter p).map .int
  | [] => rfl
  | x :: r => by
    have ih := filter_intI p r
    cases h : p x with
    | true => rw [List.map_cons, List.filter_cons_of_pos (by simp [intI, h]), List.filter_cons_of_pos h, List.map_cons, List.map_cons, ih]; rfl
    | false => rw [List.map_cons, List.filter_cons_of_neg (by simp [intI, h]), List.filter_cons_of_neg (by simp [h])]; exact ih
theorem near_lc {m : Nat} {ps : Ts} {a : Int} {t : Dv → Rs (Bool × Dv)} (hm : m ≤ 8) (ht : ∀ o : Int, t [some (.v (webD m ps)), some (.v (.int a)), some (.v (.int o))] = .ok (nbB ps a o, [some (.v (webD m ps)), some (.v (.int a)), some (.v (.int o))])) :
    fLc [2] (wRng1 (fIxv 0 (fC (.int 0)))) (bName 2) t (fVar 2) [some (.v (webD m ps)), some (.v (.int a)), none] = .ok (.list ((nb m ps a).map .int), [some (.v (webD m ps)), some (.v (.int a)), none]) := by
  unfold nb
  rw [← filter_intI]
  have im : i62 (m : Int) = true := i62_small (by omega) (by omega)
  refine lc_pure (x := ((Gr.upTo m).map .int, [some (.v (webD m ps)), some (.v (.int a)), none])) (p := fun d => nbB ps a (intI d)) (e := id) ?_ (by rw [List.length_map, PySem.sizeLine_eq]; unfold Gr.upTo; rw [List.length_map, List.length_range]; omega) fun d hd => ?_
  · have a0 := atW0 m ps
    have ru := rngD_up m
    unfold webD
    generalize ps.map pairD = ts at *
    simp [a0, im, ru]
  · obtain ⟨o, ho, rfl⟩ := List.mem_map.mp hd
    refine ⟨[some (.v (webD m ps)), some (.v (.int a)), some (.v (.int o))], ?_, ht o, fun _ => ?_, ?_⟩
    · simp [anchD, wipeD, anch1]
    · simp
    · simp [anchD, wipeD, anch1]
theorem near_eq {m : Nat} {ps : Ts} (hm : m ≤ 8) (a : Int) : S_near [webD m ps, .int a] = .ok (.tuple ((nb m ps a).map .int), none) := by
  refine run_rt (g := g_near) (δ := [some (.v (webD m ps)), some (.v (.int a)), none]) ?_ rfl
  show g_near [some (.v (webD m ps)), some (.v (.int a)), none] = _
  unfold g_near
  have z := near_lc (ps := ps) (a := a) (t := fT (fCall S_are_tied (aCons (fVar 0) (aCons (fVar 1) (aCons (fVar 2) aNil))))) hm fun o => by
    have r := are_tied_eq (m := m) (ps := ps) a o
    generalize webD m ps = wb at *
    simp [r]
  rw [ev_ret, ev_f1, z]
  rfl
theorem law_near_eq {m : Nat} {ps : Ts} (hm : m ≤ 8) (a : Int) : S__law_near [webD m ps, .int a] = .ok (.list ((nb m ps a).map .int), none) := by
  refine run_rt (g := g__law_near) (δ := [some (.v (webD m ps)), some (.v (.int a)), none]) ?_ rfl
  show g__law_near [some (.v (webD m ps)), some (.v (.int a)), none] = _
  unfold g__law_near
  have z := near_lc (ps := ps) (a := a) (t := fT (f2 oIn (fTup (aCons (fB2 gMin (fVar 1) (fVar 2)) (aCons (fB2 gMax (fVar 1) (fVar 2)) aNil))) (fIxv 0 (fC (.int 1))))) hm fun o => by
    have a1 := atW1 m ps
    have i := in_tdP a o ps
    unfold webD
    generalize ps.map pairD = ts at *
    simp [a1, i, PySem.sizeLine_eq]
  rw [ev_ret, z]
  rfl
theorem nb_len (m : Nat) (ps : Ts) (a : Int) : (nb m ps a).length ≤ m := by
  have := List.length_filter_le (nbB ps a) (Gr.upTo m)
  unfold nb
  have e : (Gr.upTo m).length = m := by unfold Gr.upTo; rw [List.length_map, List.length_range]
  omega
end Kc

set_option maxRecDepth 100000
set_option maxHeartbeats 3900000
/-! ## M22. how far places are apart: the program's laps -/
namespace Pw
open PySem L2
section
variable {fb fk fe : Dv → Rs (PyData × Dv)} {δ : Dv}
def dixR (o : Option (Option SV)) (y : PyData) (δ : Dv) : Rs (PyData × Dv) := match o with
  | some (some s) => lift (ixDct s.data y) δ
  | _ => .bad
@[simp] theorem dixR_s (s : SV) (y : PyData) (δ : Dv) : dixR (some (some s)) y δ = lift (ixDct s.data y) δ := (rfl)
@[simp] theorem ev_dixv (i : Nat) : fDixv i fb δ = if slotB δ[i]? = true then (fb δ).bind fun y => dixR y.2[i]? y.1 y.2 else .bad := by
  unfold fDixv
  cases h : δ[i]? with
  | none => rfl
  | some o =>
    cases o with
    | none => rfl
    | some s =>
      simp only [slotB, if_true]
      cases fb δ with
      | ok y =>
        simp only [Rs.bind_ok]
        cases y.2[i]? with
        | none => rfl
        | some o => cases o <;> rfl
      | _ => rfl
def stdL (o : Option (List (PyData × PyData))) (s : SV) (δ : Dv) (i : Nat) : Rs (Fl × Dv) := match o with
  | some es => .ok (.nx, δ.set i (some (s.put (.dict es))))
  | none => .bad
@[simp] theorem stdL_some (es : List (PyData × PyData)) (s : SV) (δ : Dv) (i : Nat) : stdL (some es) s δ i = .ok (.nx, δ.set i (some (s.put (.dict es)))) := (rfl)
def stdD (k v : PyData) (s : SV) (δ : Dv) (i : Nat) : PyData → Rs (Fl × Dv)
  | .dict es => if scrG es = true then .bad else stdL (dPutD es k v) s δ i
  | _ => .bad
def stdR (k v : PyData) (δ : Dv) (i : Nat) : Option (Option SV) → Rs (Fl × Dv)
  | some (some s) => if s.mut = true then stdD k v s δ i s.data else .bad
  | _ => .bad
@[simp] theorem stdR_m (k v : PyData) (δ : Dv) (i : Nat) (es : List (PyData × PyData)) : stdR k v δ i (some (some (.m (.dict es)))) = if scrG es = true then .bad else stdL (dPutD es k v) (.m (.dict es)) δ i := (rfl)
@[simp] theorem ev_stD (i : Nat) : gStD i fk fe δ = (fe δ).bind fun v => if mutB v.2[i]? = true then (fk v.2).bind fun k => stdR k.1 v.1 k.2 i k.2[i]? else .bad := by
  unfold gStD
  cases fe δ with
  | ok v =>
    simp only [Rs.bind_ok]
    cases h : v.2[i]? with
    | none => rfl
    | some o => cases o with
      | none => rfl
      | some s0 =>
        by_cases hm : s0.mut = true
        · rw [if_pos (show mutB (some (some s0)) = true from hm)]
          simp only [hm, if_true]
          cases fk v.2 with
          | ok k =>
            simp only [Rs.bind_ok]
            cases k.2[i]? with
            | none => rfl
            | some o => cases o with
              | none => rfl
              | some s =>
                unfold stdR stdD stdL
                rfl
          | _ => rfl
        · rw [if_neg (show ¬ mutB (some (some s0)) = true from hm)]
          simp only [hm, if_false]
          rfl
  | _ => rfl
end
/-! dicts of numbers -/
def enE (p : Int × Int) : PyData × PyData := (.int p.1, .int p.2)
def dcD (ln : List (Int × Int)) : PyData := .dict (ln.map enE)
theorem scrG_dc (ln : List (Int × Int)) : scrG (ln.map enE) = false := by
  match ln with
  | [] => rfl
  | [p] => rfl
  | p :: q :: r => rfl
theorem isDT_dc (ln : List (Int × Int)) : isDT (ln.map enE) = none := by
  match ln with
  | [] => rfl
  | p :: r => rfl
theorem look_dc (x : Int) : ∀ ln : List (Int × Int), lookK (ln.map enE) (.inl x) = ((ln.find? fun p => decide (p.1 = x)).map fun p => PyData.int p.2)
  | [] => rfl
  | p :: r => by
    have ih := look_dc x r
    unfold lookK at ih ⊢
    rw [List.map_cons, List.find?_cons, List.find?_cons]
    have e : decide (keyK (enE p).1 = some (.inl x)) = decide (p.1 = x) := by
      show decide (some (Sum.inl p.1 : Key) = some (.inl x)) = _
      by_cases h : p.1 = x
      · rw [h]; simp
      · rw [decide_eq_false h, decide_eq_false fun z => h (Sum.inl.inj (Option.some.inj z))]
    rw [e]
    cases decide (p.1 = x) with
    | true => rfl
    | false => exact ih
theorem get_dc (x : Int) (ln : List (Int × Int)) : dGetD (ln.map enE) (.int x) = some ((ln.find? fun p => decide (p.1 = x)).map fun p => PyData.int p.2) := by
  unfold dGetD
  rw [isDT_dc, scrG_dc]
  show some (lookK (ln.map enE) (.inl x)) = _
  rw [look_dc]
theorem find_mem {x v : Int} : ∀ {ln : List (Int × Int)}, (ln.map Prod.fst).Nodup → (x, v) ∈ ln → ln.find? (fun p => decide (p.1 = x)) = some (x, v)
  | [], _, h => (absurd h List.not_mem_nil)
  | p :: r, hn, h => by
    (rw [List.map_cons, List.nodup_cons] at hn)
    rw [List.find?_cons]
    (rcases List.mem_cons.mp h with e | h)
    · subst e
      simp
    · have hne : p.1 ≠ x := fun z => hn.1 (List.mem_map.mpr ⟨_, h, z.symm⟩)
      rw [decide_eq_false hne]
      exact find_mem hn.2 h
theorem find_no {x : Int} {ln : List (Int × Int)} (h : x ∉ ln.map Prod.fst) : ln.find? (fun p => decide (p.1 = x)) = none := by
  rw [List.find?_eq_none]
  intro p hp hd
  exact h (List.mem_map.mpr ⟨p, hp, of_decide_eq_true hd⟩)
theorem dc_get {x v : Int} {ln : List (Int × Int)} (hn : (ln.map Prod.fst).Nodup) (h : (x, v) ∈ ln) : ixDct (dcD ln) (.int x) = some (.int v) := by
  show (if scrG (ln.map enE) = true then none else (dGetD (ln.map enE) (.int x)).bind id) = _
  rw [scrG_dc, get_dc, find_mem hn h]
  rfl
theorem dc_nin (x : Int) (ln : List (Int × Int)) : oNin (.int x) (dcD ln) = some (.bool (!decide (x ∈ ln.map Prod.fst))) := by
  show (if scrG (ln.map enE) = true then none else (dGetD (ln.map enE) (.int x)).map fun o => o.isSome).map (fun b => PyData.bool (!b)) = _
  rw [scrG_dc, get_dc]
  by_cases h : x ∈ ln.map Prod.fst
  · obtain ⟨p, hp, e⟩ := List.mem_map.mp h
    have hs : (ln.find? fun p => decide (p.1 = x)).isSome = true := by
      rw [List.find?_isSome]
      exact ⟨p, hp, by simp [e]⟩
    simp [h, hs]
  · rw [find_no h]
    simp [h]
theorem putE_new {es : List (PyData × PyData)} {k v : PyData} {f : PyData → Bool} (h : ∀ p ∈ es, f p.1 = false) : putE f es k v = es ++ [(k, v)] := by
  unfold putE
  have : (es.any fun e => f e.1) = false := by
    rw [List.any_eq_false]
    intro p hp
    rw [h p hp]
    decide
  rw [this]
  rfl
theorem dc_put {x v : Int} {ln : List (Int × Int)} (h : x ∉ ln.map Prod.fst) (hz : ln.length ≤ 1000) : dPutD (ln.map enE) (.int x) (.int v) = some ((ln ++ [(x, v)]).map enE) := by
  unfold dPutD
  rw [isDT_dc, scrG_dc]
  show (if (ln.map enE).length < sizeLine then _ else _) = _
  rw [if_pos (by rw [List.length_map, PySem.sizeLine_eq]; omega), putE_new, List.map_append]
  · rfl
  · intro p hp
    (obtain ⟨q, hq, rfl⟩ := List.mem_map.mp hp)
    show decide (some (Sum.inl q.1 : Key) = some (.inl x)) = false
    exact decide_eq_false fun z => h (List.mem_map.mpr ⟨q, hq, Sum.inl.inj (Option.some.inj z)⟩)
end Pw

set_option maxRecDepth 100000
set_option maxHeartbeats 3900000
/-! ## M23. laps -/
namespace Gr
open PySem L2 Pw
/-- a walk of so many steps -/
inductive Wk (ps : Ts) (f : Int) : Nat → Int → Prop
  | base : Wk ps f 0 f
  | step {k : Nat} {x y : Int} : Wk ps f k x → Adj ps x y → Wk ps f (k + 1) y
theorem Wk.rch {ps : Ts} {f x : Int} {k : Nat} (h : Wk ps f k x) : Rch ps f x := by
  induction h with
  | base => exact .base
  | step _ a ih => exact .step ih a
theorem Rch.wk {ps : Ts} {f x : Int} (h : Rch ps f x) : ∃ k, Wk ps f k x := by
  induction h with
  | base => exact ⟨0, .base⟩
  | step _ a ih => obtain ⟨k, hk⟩ := ih; exact ⟨k + 1, .step hk a⟩
/-- so far apart -/
structure Dst (ps : Ts) (f x : Int) (k : Nat) : Prop where
  wk : Wk ps f k x
  le : ∀ j, Wk ps f j x → k ≤ j
theorem Dst.uniq {ps : Ts} {f x : Int} {k j : Nat} (h : Dst ps f x k) (g : Dst ps f x j) : k = j := Nat.le_antisymm (h.le j g.wk) (g.le k h.wk)
/-- what the program keeps as it goes -/
structure Lp (m : Nat) (ps : Ts) (f : Int) (ln : List (Int × Int)) : Prop where
  nd : (ln.map Prod.fst).Nodup
  bd : ∀ p ∈ ln, 0 ≤ p.1 ∧ p.1 < m
  wk : ∀ p ∈ ln, 0 ≤ p.2 ∧ Wk ps f p.2.toNat p.1
  hd : (f, (0 : Int)) ∈ ln
  ix : ∀ (i : Nat) (p : Int × Int), ln[i]? = some p → p.2 ≤ i
  srt : ln.Pairwise fun p q => p.2 ≤ q.2
theorem Lp.len {m : Nat} {ps : Ts} {f : Int} {ln : List (Int × Int)} (h : Lp m ps f ln) : ln.length ≤ m := by
  have := few h.nd fun x hx => by
    obtain ⟨p, hp, rfl⟩ := List.mem_map.mp hx
    exact h.bd p hp
  rwa [List.length_map] at this
theorem Lp.snoc {m : Nat} {ps : Ts} (w : ∀ {a o : Int}, Adj ps a o → 0 ≤ o ∧ o < m) {f : Int} {ln : List (Int × Int)} (h : Lp m ps f ln) {i : Nat} {a v o : Int} (hi : ln[i]? = some (a, v)) (hv : ∀ p ∈ ln, p.2 ≤ v + 1) (ha : Adj ps a o) (ho : o ∉ ln.map Prod.fst) : Lp m ps f (ln ++ [(o, v + 1)]) := by
  have hm : (a, v) ∈ ln := List.mem_of_getElem? hi
  have hl : i < ln.length := (List.getElem?_eq_some_iff.mp hi).1
  have hiv := h.ix i _ hi
  obtain ⟨v0, wv⟩ := h.wk _ hm
  refine ⟨?_, fun p hp => ?_, fun p hp => ?_, List.mem_append_left _ h.hd, fun j p hj => ?_, ?_⟩
  · (rw [List.map_append, List.nodup_append])
    refine ⟨h.nd, by simp, fun x hx y hy => ?_⟩
    rw [List.map_cons, List.map_nil, List.mem_singleton] at hy
    rw [hy]
    intro z
    rw [show x = o from z] at hx
    exact ho hx
  · (rcases List.mem_append.mp hp with hp | hp)
    · exact h.bd p hp
    · (rw [List.mem_singleton.mp hp])
      exact w ha
  · (rcases List.mem_append.mp hp with hp | hp)
    · exact h.wk p hp
    · (rw [List.mem_singleton.mp hp])
      refine ⟨by show 0 ≤ v + 1; omega, ?_⟩
      have e : (v + 1).toNat = v.toNat + 1 := by omega
      show Wk ps f (v + 1).toNat o
      rw [e]
      exact .step wv ha
  · by_cases hjl : j < ln.length
    · rw [List.getElem?_append_left hjl] at hj
      exact h.ix j p hj
    · rw [List.getElem?_append_right (by omega)] at hj
      have hj0 : j - ln.length = 0 := by
        by_cases z : j - ln.length = 0
        · exact z
        · rw [List.getElem?_eq_none (by rw [List.length_singleton]; omega)] at hj; cases hj
      rw [hj0] at hj
      cases hj
      show v + 1 ≤ (j : Int)
      have : v ≤ (i : Int) := hiv
      omega
  · rw [List.pairwise_append]
    refine ⟨h.srt, by simp, fun p hp q hq => ?_⟩
    rw [List.mem_singleton.mp hq]
    exact hv p hp
/-- closed under neighbours -/
def Clo (ps : Ts) (ln : List (Int × Int)) (at_ : Nat) : Prop := ∀ (i : Nat) (a v : Int), i < at_ → ln[i]? = some (a, v) → ∀ o, Adj ps a o → ∃ w, (o, w) ∈ ln ∧ w ≤ v + 1
structure Done (m : Nat) (ps : Ts) (f : Int) (ln : List (Int × Int)) : Prop extends Lp m ps f ln where
  clo : ∀ a v, (a, v) ∈ ln → ∀ o, Adj ps a o → ∃ w, (o, w) ∈ ln ∧ w ≤ v + 1
theorem Lp.val {m : Nat} {ps : Ts} {f : Int} {ln : List (Int × Int)} (h : Lp m ps f ln) {x v w : Int} (h1 : (x, v) ∈ ln) (h2 : (x, w) ∈ ln) : v = w := by
  have e1 := find_mem h.nd h1
  have e2 := find_mem h.nd h2
  rw [e1] at e2
  exact congrArg Prod.snd (Option.some.inj e2)
theorem Done.reach {m : Nat} {ps : Ts} {f : Int} {ln : List (Int × Int)} (h : Done m ps f ln) {x : Int} {k : Nat} (hw : Wk ps f k x) : ∃ w, (x, w) ∈ ln ∧ w ≤ k := by
  induction hw with
  | base => exact ⟨0, h.hd, by omega⟩
  | step _ a ih =>
    obtain ⟨v, hv, hk⟩ := ih
    obtain ⟨w, hw, hle⟩ := h.clo _ _ hv _ a
    exact ⟨w, hw, by omega⟩
theorem Done.dst {m : Nat} {ps : Ts} {f : Int} {ln : List (Int × Int)} (h : Done m ps f ln) {x v : Int} (hx : (x, v) ∈ ln) : Dst ps f x v.toNat := by
  obtain ⟨v0, wv⟩ := h.wk _ hx
  refine ⟨wv, fun j hj => ?_⟩
  obtain ⟨w, hw, hle⟩ := h.reach hj
  have := h.val hx hw
  omega
theorem Done.lt {m : Nat} {ps : Ts} {f : Int} {ln : List (Int × Int)} (h : Done m ps f ln) {x v : Int} (hx : (x, v) ∈ ln) : 0 ≤ v ∧ v < m := by
  obtain ⟨i, hi, e⟩ := List.mem_iff_getElem.mp hx
  have := h.ix i _ (by rw [List.getElem?_eq_getElem hi, e])
  have := h.len
  have := (h.wk _ hx).1
  simp only at *
  omega
end Gr
namespace Kc
open PySem L2 Pw Gr
/-- the state: places found with how far, so many looked at -/
def laD (m : Nat) (ps : Ts) (f : Int) (ln : List (Int × Int)) (k : Nat) (x5 : Option SV) : Dv := [some (.v (webD m ps)), some (.v (.int f)), some (.m (dcD ln)), some (.m (.list ((ln.map Prod.fst).map .int))), some (.v (.int k)), x5]
abbrev gLap : Dv → Rs (Fl × Dv) := (gIf (fT (f2 oNin (fVar 5) (fBar 2))) (gSeq (gStD 2 (fVar 5) (f2 oAdd (fDixv 2 (fIxv 3 (fVar 4))) (fC (.int 1)))) (gDrop (fMt 3 mApp (aCons (fVar 5) aNil)))) gNx)
theorem app_ints (l : List Int) (o : Int) (hz : l.length ≤ 1000) : mApp (l.map PyData.int) [.int o] = some (.none, (l ++ [o]).map PyData.int) := by
  show (if (l.map PyData.int).length < sizeLine then some (PyData.none, l.map PyData.int ++ [.int o]) else none) = _
  rw [if_pos (by rw [List.length_map, PySem.sizeLine_eq]; omega), List.map_append]
  rfl
theorem lap_step {m : Nat} {ps : Ts} {f a v o : Int} {ln : List (Int × Int)} {k : Nat} {x5 : Option SV} (hk : ln[k]? = some (a, v)) (hn : (ln.map Prod.fst).Nodup) (hz : ln.length ≤ 1000) :
    gLap (laD m ps f ln k (some (.v (.int o)))) = .ok (.nx, laD m ps f (if o ∈ ln.map Prod.fst then ln else ln ++ [(o, v + 1)]) k (some (.v (.int o)))) := by
  have ni := dc_nin o ln
  have at1 : atI ((ln.map Prod.fst).map PyData.int) (k : Int) = some (.int a) := atI_nat (by rw [List.getElem?_map, List.getElem?_map, hk]; rfl)
  have dg := dc_get hn (List.mem_of_getElem? hk)
  have ap := app_ints (ln.map Prod.fst) o (by rw [List.length_map]; exact hz)
  unfold laD gLap
  by_cases h : o ∈ ln.map Prod.fst
  · rw [if_pos h]
    have ni : oNin (.int o) (dcD ln) = some (.bool false) := by rw [ni]; simp [h]
    generalize webD m ps = wb
    generalize dcD ln = dc at *
    generalize (ln.map Prod.fst).map PyData.int = l3 at *
    simp [ni]
  · rw [if_neg h]
    have ni : oNin (.int o) (dcD ln) = some (.bool true) := by rw [ni]; simp [h]
    have pu := dc_put (v := v + 1) h hz
    have sg := scrG_dc ln
    have e1 : (gStD 2 (fVar 5) (f2 oAdd (fDixv 2 (fIxv 3 (fVar 4))) (fC (.int 1)))) [some (.v (webD m ps)), some (.v (.int f)), some (.m (dcD ln)), some (.m (.list ((ln.map Prod.fst).map .int))), some (.v (.int k)), some (.v (.int o))] =
        .ok (.nx, [some (.v (webD m ps)), some (.v (.int f)), some (.m (dcD (ln ++ [(o, v + 1)]))), some (.m (.list ((ln.map Prod.fst).map .int))), some (.v (.int k)), some (.v (.int o))]) := by
      unfold dcD at *
      generalize webD m ps = wb
      generalize (ln ++ [(o, v + 1)]).map enE = e2 at *
      generalize (ln.map Prod.fst).map PyData.int = l3 at *
      generalize ln.map enE = e1 at *
      simp [at1, dg, pu, sg]
    rw [ev_gif, ev_T, ev_f2]
    have e3 : (ln ++ [(o, v + 1)]).map Prod.fst = ln.map Prod.fst ++ [o] := by rw [List.map_append]; rfl
    rw [e3]
    generalize (ln.map Prod.fst ++ [o]).map PyData.int = l4 at *
    generalize dcD (ln ++ [(o, v + 1)]) = dc2 at *
    generalize (ln.map Prod.fst).map PyData.int = l3 at *
    generalize dcD ln = dc at *
    generalize webD m ps = wb at *
    simp [-ev_stD, ni, e1, ap]
end Kc

set_option maxRecDepth 100000
set_option maxHeartbeats 3900000
/-! ## M24. how far places are apart, by the program -/
namespace Kc
open PySem L2 Pw Gr
theorem lap_loop {m : Nat} {ps : Ts} (w : WebOk m ps) {f a v : Int} {k : Nat} : ∀ (xs : List Int) (ln : List (Int × Int)) (x5 : Option SV), (∀ o ∈ xs, Adj ps a o) → Lp m ps f ln → ln[k]? = some (a, v) → (∀ p ∈ ln, p.2 ≤ v + 1) → isV x5 = true →
    ∃ (ln' : List (Int × Int)) (x5' : Option SV) (t : List (Int × Int)), forN (bName 5) gLap (xs.map .int) (laD m ps f ln k x5) = .ok (.nx, laD m ps f ln' k x5') ∧ isV x5' = true ∧ Lp m ps f ln' ∧ ln' = ln ++ t ∧ (∀ p ∈ ln', p.2 ≤ v + 1) ∧ ∀ o ∈ xs, ∃ u, (o, u) ∈ ln' ∧ u ≤ v + 1
  | [], ln, x5, _, h, _, hv, v5 => ⟨ln, x5, [], rfl, v5, h, by rw [List.append_nil], hv, fun o ho => absurd ho List.not_mem_nil⟩
  | o :: xs, ln, x5, ha, h, hk, hv, v5 => by
    have hm := w.hi
    have hl := h.len
    have f5 := isV_free v5
    have st := lap_step (m := m) (ps := ps) (f := f) (o := o) (x5 := x5) hk h.nd (by omega)
    have b1 : bName 5 (.int o) (laD m ps f ln k x5) = some (laD m ps f ln k (some (.v (.int o)))) := by
      unfold laD
      generalize webD m ps = wb
      generalize dcD ln = dc
      generalize (ln.map Prod.fst).map PyData.int = l3
      simp [f5]
    have key : ∃ t1 : List (Int × Int), (if o ∈ ln.map Prod.fst then ln else ln ++ [(o, v + 1)]) = ln ++ t1 ∧ Lp m ps f (ln ++ t1) ∧ (∀ p ∈ ln ++ t1, p.2 ≤ v + 1) ∧ ∃ u, (o, u) ∈ ln ++ t1 ∧ u ≤ v + 1 := by
      by_cases ho : o ∈ ln.map Prod.fst
      · refine ⟨[], by rw [if_pos ho, List.append_nil], by rw [List.append_nil]; exact h, by rw [List.append_nil]; exact hv, ?_⟩
        obtain ⟨p, hp, rfl⟩ := List.mem_map.mp ho
        exact ⟨p.2, by rw [List.append_nil]; exact hp, hv p hp⟩
      · refine ⟨[(o, v + 1)], by rw [if_neg ho], h.snoc (fun ad => (adj_bd w ad).2.1) hk hv (ha o List.mem_cons_self) ho, fun p hp => ?_, v + 1, List.mem_append_right _ List.mem_cons_self, by omega⟩
        (rcases List.mem_append.mp hp with hp | hp)
        · exact hv p hp
        · (rw [List.mem_singleton.mp hp])
          show v + 1 ≤ v + 1
          omega
    obtain ⟨t1, et, h1, hv1, u, hu, hu1⟩ := key
    rw [et] at st
    have hk1 : (ln ++ t1)[k]? = some (a, v) := by
      rw [List.getElem?_append_left (List.getElem?_eq_some_iff.mp hk).1]
      exact hk
    obtain ⟨ln', x5', t, g1, g2, g3, g4, g5, g6⟩ := lap_loop w xs (ln ++ t1) (some (.v (.int o))) (fun z hz => ha z (List.mem_cons_of_mem _ hz)) h1 hk1 hv1 rfl
    refine ⟨ln', x5', t1 ++ t, ?_, g2, g3, by rw [g4, List.append_assoc], g5, fun z hz => ?_⟩
    · rw [List.map_cons, forN, b1]
      simp only [st, Rs.bind_ok]
      exact g1
    · rcases List.mem_cons.mp hz with e | hz
      · subst e
        exact ⟨u, by rw [g4]; exact List.mem_append_left _ hu, hu1⟩
      · exact g6 z hz
abbrev tLap : Dv → Rs (Bool × Dv) := fT (f2 oLtA (fVar 4) (f1 oLen (fBar 3)))
abbrev gBfs : Dv → Rs (Fl × Dv) := (gSeq (gFor (wSeq (fCall S_near (aCons (fVar 0) (aCons (fIxv 3 (fVar 4)) aNil)))) (bName 5) gLap) (gSet 4 (f2 oAdd (fVar 4) (fC (.int 1)))))
theorem bfs_loop {m : Nat} {ps : Ts} (w : WebOk m ps) {f : Int} : ∀ (n k : Nat) (ln : List (Int × Int)) (x5 : Option SV), Lp m ps f ln → Clo ps ln k → (∀ p ∈ ln, ∀ a v, ln[k]? = some (a, v) → p.2 ≤ v + 1) → k ≤ ln.length → isV x5 = true → m - k < n →
    ∃ (ln' : List (Int × Int)) (x5' : Option SV), whN tLap gBfs n (laD m ps f ln k x5) = .ok (.nx, laD m ps f ln' ln'.length x5') ∧ Done m ps f ln'
  | 0, _, _, _, _, _, _, _, _, h => absurd h (Nat.not_lt_zero _)
  | n + 1, k, ln, x5, h, hc, ht, hkl, v5, hn => by
    have hm := w.hi
    have hl := h.len
    have ts : tLap (laD m ps f ln k x5) = .ok (decide (k < ln.length), laD m ps f ln k x5) := by
      unfold laD
      generalize webD m ps = wb
      generalize dcD ln = dc
      simp
    by_cases hlt : k < ln.length
    · obtain ⟨⟨a, v⟩, hk⟩ : ∃ p, ln[k]? = some p := ⟨_, List.getElem?_eq_getElem hlt⟩
      obtain ⟨ln', x5', t, g1, g2, g3, g4, g5, g6⟩ := lap_loop w (nb m ps a) ln x5 (fun o ho => (mem_nb w).mp ho) h hk (fun p hp => ht p hp a v hk) v5
      have hk' : ln'[k]? = some (a, v) := by
        rw [g4, List.getElem?_append_left hlt]
        exact hk
      have c' : Clo ps ln' (k + 1) := fun i b u hi hb o ho => by
        by_cases e : i = k
        · subst e
          rw [hk'] at hb
          cases hb
          exact g6 o ((mem_nb w).mpr ho)
        · have hil : i < ln.length := by omega
          rw [g4, List.getElem?_append_left hil] at hb
          obtain ⟨x, hx, hx1⟩ := hc i b u (by omega) hb o ho
          exact ⟨x, by rw [g4]; exact List.mem_append_left _ hx, hx1⟩
      have t' : ∀ p ∈ ln', ∀ b u, ln'[k + 1]? = some (b, u) → p.2 ≤ u + 1 := fun p hp b u hb => by
        have h1 := g5 p hp
        have h2 : v ≤ u := by
          obtain ⟨hi1, e1⟩ := List.getElem?_eq_some_iff.mp hk'
          obtain ⟨hi2, e2⟩ := List.getElem?_eq_some_iff.mp hb
          have := List.pairwise_iff_getElem.mp g3.srt k (k + 1) hi1 hi2 (by omega)
          rw [e1, e2] at this
          exact this
        omega
      obtain ⟨ln2, x2, r1, r2⟩ := bfs_loop w n (k + 1) ln' x5' g3 c' t' (by rw [g4, List.length_append]; omega) g2 (by omega)
      refine ⟨ln2, x2, ?_, r2⟩
      have ne := near_eq (ps := ps) hm a
      have at1 : atI ((ln.map Prod.fst).map PyData.int) (k : Int) = some (.int a) := atI_nat (by rw [List.getElem?_map, List.getElem?_map, hk]; rfl)
      have bd : gBfs (laD m ps f ln k x5) = .ok (.nx, laD m ps f ln' (k + 1) x5') := by
        have e1 : (gFor (wSeq (fCall S_near (aCons (fVar 0) (aCons (fIxv 3 (fVar 4)) aNil)))) (bName 5) gLap) (laD m ps f ln k x5) = .ok (.nx, laD m ps f ln' k x5') := by
          rw [ev_for, ev_wseq]
          have e2 : fCall S_near (aCons (fVar 0) (aCons (fIxv 3 (fVar 4)) aNil)) (laD m ps f ln k x5) = .ok (.tuple ((nb m ps a).map .int), laD m ps f ln k x5) := by
            unfold laD
            generalize webD m ps = wb at *
            generalize dcD ln = dc at *
            generalize (ln.map Prod.fst).map PyData.int = l3 at *
            generalize (nb m ps a).map PyData.int = l4 at *
            simp [at1, ne]
          rw [e2]
          simp only [Rs.bind_ok, seqOf_tuple, liftL_some]
          exact g1
        refine sq e1 ?_
        unfold laD
        generalize webD m ps = wb at *
        generalize dcD ln' = dc at *
        generalize (ln'.map Prod.fst).map PyData.int = l3 at *
        simp
      rw [whN, ts, decide_eq_true hlt]
      simp only [Rs.bind_ok, if_true, bd]
      exact r1
    · have e : k = ln.length := by omega
      subst e
      refine ⟨ln, x5, ?_, { toLp := h, clo := fun a v hv o ho => ?_ }⟩
      · rw [whN, ts, decide_eq_false hlt]
        rfl
      · obtain ⟨i, hi, e⟩ := List.mem_iff_getElem.mp hv
        exact hc i a v hi (by rw [List.getElem?_eq_getElem hi, e]) o ho
theorem apart_from_eq {m : Nat} {ps : Ts} (w : WebOk m ps) {f : Int} (h0 : 0 ≤ f) (h1 : f < m) : ∃ ln, Done m ps f ln ∧ S_apart_from [webD m ps, .int f] = .ok (dcD ln, none) := by
  have hm := w.hi
  have start : Lp m ps f [(f, 0)] := ⟨by simp, fun p hp => by rw [List.mem_singleton.mp hp]; exact ⟨h0, h1⟩, fun p hp => by rw [List.mem_singleton.mp hp]; exact ⟨Int.le_refl 0, .base⟩, List.mem_cons_self, fun i p hp => by
    have hl := (List.getElem?_eq_some_iff.mp hp).1
    rw [List.length_singleton] at hl
    have : i = 0 := by omega
    subst this
    cases hp
    exact Int.le_refl 0, by simp⟩
  obtain ⟨ln, x5, r1, r2⟩ := bfs_loop w 40 0 [(f, 0)] none start (fun i a v hi => by omega) (fun p hp a v hv => by
    rw [List.mem_singleton.mp hp]
    cases hv
    show (0 : Int) ≤ 0 + 1
    decide) (Nat.zero_le _) rfl (by omega)
  refine ⟨ln, r2, run_rt (g := g_apart_from) (δ := [some (.v (webD m ps)), some (.v (.int f)), some (.v (dcD ln)), some (.m (.list ((ln.map Prod.fst).map .int))), some (.v (.int ln.length)), x5]) ?_ rfl⟩
  show g_apart_from [some (.v (webD m ps)), some (.v (.int f)), none, none, none, none] = _
  unfold g_apart_from
  refine sq (δ1 := [some (.v (webD m ps)), some (.v (.int f)), some (.m (dcD [(f, 0)])), none, none, none]) ?_ ?_
  · generalize webD m ps = wb
    rfl
  refine sq (δ1 := [some (.v (webD m ps)), some (.v (.int f)), some (.m (dcD [(f, 0)])), some (.m (.list [.int f])), none, none]) ?_ ?_
  · generalize webD m ps = wb
    generalize dcD [(f, 0)] = dc
    simp [PySem.sizeLine_eq]
  refine sq (δ1 := laD m ps f [(f, 0)] 0 none) ?_ ?_
  · unfold laD
    generalize webD m ps = wb
    generalize dcD [(f, 0)] = dc
    simp
  refine sq r1 ?_
  unfold laD
  generalize webD m ps = wb
  generalize dcD ln = dc
  generalize (ln.map Prod.fst).map PyData.int = l3
  simp
end Kc

set_option maxRecDepth 100000
set_option maxHeartbeats 3900000
/-! ## M25. how far places are apart, by the law -/
namespace Kc
open PySem L2 Pw Gr
theorem apart_of_eq {m : Nat} {ps : Ts} (w : WebOk m ps) {a b : Int} (a0 : 0 ≤ a) (a1 : a < m) (b0 : 0 ≤ b) (b1 : b < m) : ∃ v : Nat, Dst ps a b v ∧ v < m ∧ S_apart_of [webD m ps, .int a, .int b] = .ok (.int v, none) := by
  obtain ⟨ln, d, hs⟩ := apart_from_eq w a0 a1
  have hr : Rch ps a b := (Rch.symm (w.all a ⟨a0, a1⟩)).trans (w.all b ⟨b0, b1⟩)
  obtain ⟨k, hk⟩ := hr.wk
  obtain ⟨u, hu, _⟩ := d.reach hk
  obtain ⟨u0, u1⟩ := d.lt hu
  obtain ⟨v, rfl⟩ : ∃ v : Nat, u = v := ⟨u.toNat, by omega⟩
  have dg := dc_get d.nd hu
  refine ⟨v, by simpa using d.dst hu, by omega, run_rt (g := g_apart_of) (δ := [some (.v (webD m ps)), some (.v (.int a)), some (.v (.int b))]) ?_ rfl⟩
  show g_apart_of [some (.v (webD m ps)), some (.v (.int a)), some (.v (.int b))] = _
  unfold g_apart_of
  generalize webD m ps = wb at *
  generalize dcD ln = dc at *
  simp [hs, dg]
def opD : Option Int → PyData
  | none => .none
  | some i => .int i
def fnD (m : Nat) (fn : Int → Option Int) : List PyData := (Gr.upTo m).map fun i => opD (fn i)
def updF (fn : Int → Option Int) (k : Int) (v : Option Int) : Int → Option Int := fun j => if j = k then v else fn j
theorem upTo_get {m i : Nat} (h : i < m) : (Gr.upTo m)[i]? = some (i : Int) := by
  unfold Gr.upTo
  rw [List.getElem?_map, List.getElem?_range h]
  rfl
theorem upTo_len (m : Nat) : (Gr.upTo m).length = m := by unfold Gr.upTo; rw [List.length_map, List.length_range]
theorem fn_at {m : Nat} (fn : Int → Option Int) {k : Int} (h0 : 0 ≤ k) (h1 : k < m) : atI (fnD m fn) k = some (opD (fn k)) := by
  obtain ⟨i, rfl⟩ : ∃ i : Nat, k = i := ⟨k.toNat, by omega⟩
  refine atI_nat ?_
  unfold fnD
  rw [List.getElem?_map, upTo_get (by omega)]
  rfl
theorem fn_set {m : Nat} (fn : Int → Option Int) {k : Int} (h0 : 0 ≤ k) (h1 : k < m) (v : Option Int) : setD (.list (fnD m fn)) (.int k) (opD v) = some (.list (fnD m (updF fn k v))) := by
  obtain ⟨i, rfl⟩ : ∃ i : Nat, k = i := ⟨k.toNat, by omega⟩
  have il : i < m := by omega
  have ix : ixN (fnD m fn).length (i : Int) = some i := Evl.ixN_nat (by unfold fnD; rw [List.length_map, upTo_len]; exact il)
  rw [setD_int, ix]
  show some (PyData.list ((fnD m fn).set i (opD v))) = _
  congr 2
  (refine List.ext_getElem? fun j => ?_)
  unfold fnD
  rw [List.getElem?_set, List.getElem?_map, List.getElem?_map, List.length_map, upTo_len]
  by_cases hj : i = j
  · subst hj
    rw [if_pos rfl, if_pos il, upTo_get il]
    simp [updF]
  · rw [if_neg hj]
    by_cases hjl : j < m
    · rw [upTo_get hjl]
      simp only [Option.map_some, updF]
      rw [if_neg (by omega)]
    · rw [List.getElem?_eq_none (by rw [upTo_len]; omega)]
      rfl
/-- what has been marked by the lap k -/
structure Mk (ps : Ts) (f : Int) (k : Int) (fn : Int → Option Int) : Prop where
  st : fn f = some 0
  val : ∀ x v, fn x = some v → 0 ≤ v ∧ v ≤ k + 1 ∧ Wk ps f v.toNat x
structure Ext (k : Int) (fn gn : Int → Option Int) : Prop where
  fw : ∀ x v, fn x = some v → gn x = some v
  bk : ∀ x v, gn x = some v → v ≤ k → fn x = some v
theorem Ext.refl (k : Int) (fn : Int → Option Int) : Ext k fn fn := ⟨fun _ _ h => h, fun _ _ h _ => h⟩
theorem Ext.trans {k : Int} {f g h : Int → Option Int} (a : Ext k f g) (b : Ext k g h) : Ext k f h := ⟨fun x v e => b.fw x v (a.fw x v e), fun x v e l => a.bk x v (b.bk x v e l) l⟩
def mark (k : Int) (fn : Int → Option Int) (o : Int) : Int → Option Int := if fn o = none then updF fn o (some (k + 1)) else fn
theorem mark_ok {ps : Ts} {f k p o : Int} {fn : Int → Option Int} (h : Mk ps f k fn) (k0 : 0 ≤ k) (hp : fn p = some k) (ha : Adj ps p o) : Mk ps f k (mark k fn o) ∧ Ext k fn (mark k fn o) ∧ ∃ u, mark k fn o o = some u ∧ u ≤ k + 1 := by
  unfold mark
  by_cases hn : fn o = none
  · rw [if_pos hn]
    refine ⟨⟨?_, fun x v hx => ?_⟩, ⟨fun x v hx => ?_, fun x v hx hl => ?_⟩, k + 1, by simp [updF], by omega⟩
    · unfold updF
      by_cases e : f = o
      · rw [← e, h.st] at hn; cases hn
      · rw [if_neg e]; exact h.st
    · unfold updF at hx
      by_cases e : x = o
      · rw [if_pos e] at hx
        cases hx
        refine ⟨by omega, by omega, ?_⟩
        have e2 : (k + 1).toNat = k.toNat + 1 := by omega
        rw [e2, e]
        exact .step (h.val p k hp).2.2 ha
      · rw [if_neg e] at hx
        exact h.val x v hx
    · unfold updF
      by_cases e : x = o
      · rw [e, hn] at hx; cases hx
      · rw [if_neg e]; exact hx
    · unfold updF at hx
      by_cases e : x = o
      · rw [if_pos e] at hx
        cases hx
        omega
      · rw [if_neg e] at hx; exact hx
  · rw [if_neg hn]
    refine ⟨h, Ext.refl k fn, ?_⟩
    cases hf : fn o with
    | none => exact absurd hf hn
    | some u => exact ⟨u, rfl, (h.val o u hf).2.1⟩
/-- the slots -/
def faD (m : Nat) (ps : Ts) (f : Int) (fn : Int → Option Int) (x3 x4 x5 : Option SV) : Dv := [some (.v (webD m ps)), some (.v (.int f)), some (.m (.list (fnD m fn))), x3, x4, x5]
abbrev gMk : Dv → Rs (Fl × Dv) := (gStL 2 (fVar 5) (fIf (fT (f2 oIsN (fIxv 2 (fVar 5)) (fC .none))) (f2 oAdd (fVar 3) (fC (.int 1))) (fIxv 2 (fVar 5))))
theorem upd_same' {fn : Int → Option Int} {o : Int} : updF fn o (fn o) = fn := funext fun j => by
  unfold updF
  by_cases h : j = o
  · rw [if_pos h, h]
  · rw [if_neg h]
theorem mk_step {m : Nat} {ps : Ts} {f k o : Int} {fn : Int → Option Int} {x4 : Option SV} (h0 : 0 ≤ o) (h1 : o < m) : gMk (faD m ps f fn (some (.v (.int k))) x4 (some (.v (.int o)))) = .ok (.nx, faD m ps f (mark k fn o) (some (.v (.int k))) x4 (some (.v (.int o)))) := by
  have a := fn_at (m := m) fn h0 h1
  have s1 := fn_set (m := m) fn h0 h1 (some (k + 1))
  have s2 := fn_set (m := m) fn h0 h1 (fn o)
  rw [upd_same'] at s2
  unfold faD mark
  cases hf : fn o with
  | none =>
    rw [hf] at a
    rw [if_pos rfl]
    have n1 : oIsN (opD none) .none = some (.bool true) := rfl
    have e1 : opD (some (k + 1)) = .int (k + 1) := rfl
    rw [e1] at s1
    generalize webD m ps = wb
    generalize fnD m (updF fn o (some (k + 1))) = l2 at *
    generalize fnD m fn = l1 at *
    simp [-setD_int, a, n1, s1]
  | some u =>
    rw [hf] at a s2
    rw [if_neg (by exact nofun)]
    have n1 : oIsN (opD (some u)) .none = some (.bool false) := rfl
    generalize webD m ps = wb
    generalize opD (some u) = du at *
    generalize fnD m fn = l1 at *
    simp [-setD_int, a, n1, s2]
end Kc

set_option maxRecDepth 100000
set_option maxHeartbeats 3900000
/-! ## M26. the law's laps -/
namespace Kc
open PySem L2 Pw Gr
theorem mk_loop {m : Nat} {ps : Ts} (w : WebOk m ps) {f k p : Int} (k0 : 0 ≤ k) : ∀ (xs : List Int) (fn : Int → Option Int) (x4 x5 : Option SV), (∀ o ∈ xs, Adj ps p o) → Mk ps f k fn → fn p = some k → isV x5 = true →
    ∃ (gn : Int → Option Int) (x5' : Option SV), forN (bName 5) gMk (xs.map .int) (faD m ps f fn (some (.v (.int k))) x4 x5) = .ok (.nx, faD m ps f gn (some (.v (.int k))) x4 x5') ∧ isV x5' = true ∧ Mk ps f k gn ∧ Ext k fn gn ∧ ∀ o ∈ xs, ∃ u, gn o = some u ∧ u ≤ k + 1
  | [], fn, x4, x5, _, h, _, v5 => ⟨fn, x5, rfl, v5, h, Ext.refl k fn, fun o ho => absurd ho List.not_mem_nil⟩
  | o :: xs, fn, x4, x5, ha, h, hp, v5 => by
    have f5 := isV_free v5
    have ad := ha o List.mem_cons_self
    have ob := (adj_bd w ad).2.1
    have st := mk_step (m := m) (ps := ps) (f := f) (k := k) (fn := fn) (x4 := x4) ob.1 ob.2
    obtain ⟨h1, e1, u, hu, hu1⟩ := mark_ok h k0 hp ad
    have b1 : bName 5 (.int o) (faD m ps f fn (some (.v (.int k))) x4 x5) = some (faD m ps f fn (some (.v (.int k))) x4 (some (.v (.int o)))) := by
      unfold faD
      generalize webD m ps = wb
      generalize fnD m fn = l1
      simp [f5]
    obtain ⟨gn, x5', g1, g2, g3, g4, g5⟩ := mk_loop w k0 xs (mark k fn o) x4 (some (.v (.int o))) (fun z hz => ha z (List.mem_cons_of_mem _ hz)) h1 (e1.fw p k hp) rfl
    refine ⟨gn, x5', ?_, g2, g3, e1.trans g4, fun z hz => ?_⟩
    · rw [List.map_cons, forN, b1]
      simp only [st, Rs.bind_ok]
      exact g1
    · rcases List.mem_cons.mp hz with e | hz
      · subst e
        exact ⟨u, g4.fw z u hu, hu1⟩
      · exact g5 z hz
abbrev gPl : Dv → Rs (Fl × Dv) := (gIf (fT (f2 oEq (fIxv 2 (fVar 4)) (fVar 3))) (gFor (wSeq (fCall S__law_near (aCons (fVar 0) (aCons (fVar 4) aNil)))) (bName 5) gMk) gNx)
theorem eq_op (o : Option Int) (k : Int) : oEq (opD o) (.int k) = some (.bool (decide (o = some k))) := by
  cases o with
  | none => rfl
  | some i =>
    rw [show opD (some i) = .int i from rfl, oEq_int]
    by_cases h : i = k
    · rw [h]; simp
    · rw [decide_eq_false h, decide_eq_false fun z => h (Option.some.inj z)]
theorem pl_loop {m : Nat} {ps : Ts} (w : WebOk m ps) {f k : Int} (k0 : 0 ≤ k) : ∀ (xs : List Int) (fn : Int → Option Int) (x4 x5 : Option SV), (∀ o ∈ xs, 0 ≤ o ∧ o < m) → Mk ps f k fn → isV x4 = true → isV x5 = true →
    ∃ (gn : Int → Option Int) (x4' x5' : Option SV), forN (bName 4) gPl (xs.map .int) (faD m ps f fn (some (.v (.int k))) x4 x5) = .ok (.nx, faD m ps f gn (some (.v (.int k))) x4' x5') ∧ isV x4' = true ∧ isV x5' = true ∧ Mk ps f k gn ∧ Ext k fn gn ∧ ∀ p ∈ xs, gn p = some k → ∀ o, Adj ps p o → ∃ u, gn o = some u ∧ u ≤ k + 1
  | [], fn, x4, x5, _, h, v4, v5 => ⟨fn, x4, x5, rfl, v4, v5, h, Ext.refl k fn, fun o ho => absurd ho List.not_mem_nil⟩
  | p :: xs, fn, x4, x5, hb, h, v4, v5 => by
    have hm := w.hi
    have f4 := isV_free v4
    have pb := hb p List.mem_cons_self
    have ap := fn_at (m := m) fn pb.1 pb.2
    have eo := eq_op (fn p) k
    have ln := law_near_eq (ps := ps) hm p
    have b1 : bName 4 (.int p) (faD m ps f fn (some (.v (.int k))) x4 x5) = some (faD m ps f fn (some (.v (.int k))) (some (.v (.int p))) x5) := by
      unfold faD
      generalize webD m ps = wb
      generalize fnD m fn = l1
      simp [f4]
    have tst : (fT (f2 oEq (fIxv 2 (fVar 4)) (fVar 3))) (faD m ps f fn (some (.v (.int k))) (some (.v (.int p))) x5) = .ok (decide (fn p = some k), faD m ps f fn (some (.v (.int k))) (some (.v (.int p))) x5) := by
      unfold faD
      generalize webD m ps = wb
      generalize fnD m fn = l1 at *
      generalize opD (fn p) = od at *
      simp [ap, eo]
    by_cases hp : fn p = some k
    · obtain ⟨g1n, x5a, q1, q2, q3, q4, q5⟩ := mk_loop (m := m) w k0 (nb m ps p) fn (some (.v (.int p))) x5 (fun o ho => (mem_nb w).mp ho) h hp v5
      obtain ⟨gn, x4', x5', r1, r2, r3, r4, r5, r6⟩ := pl_loop w k0 xs g1n (some (.v (.int p))) x5a (fun z hz => hb z (List.mem_cons_of_mem _ hz)) q3 rfl q2
      refine ⟨gn, x4', x5', ?_, r2, r3, r4, q4.trans r5, fun z hz hk o ho => ?_⟩
      · have e2 : fCall S__law_near (aCons (fVar 0) (aCons (fVar 4) aNil)) (faD m ps f fn (some (.v (.int k))) (some (.v (.int p))) x5) = .ok (.list ((nb m ps p).map .int), faD m ps f fn (some (.v (.int k))) (some (.v (.int p))) x5) := by
          unfold faD
          generalize webD m ps = wb at *
          generalize fnD m fn = l1 at *
          generalize (nb m ps p).map PyData.int = l4 at *
          simp [ln]
        have e3 : gPl (faD m ps f fn (some (.v (.int k))) (some (.v (.int p))) x5) = .ok (.nx, faD m ps f g1n (some (.v (.int k))) (some (.v (.int p))) x5a) := by
          unfold gPl
          rw [ev_gif, tst, decide_eq_true hp]
          simp only [Rs.bind_ok, if_true]
          rw [ev_for, ev_wseq, e2]
          simp only [Rs.bind_ok, seqOf_list, liftL_some]
          exact q1
        rw [List.map_cons, forN, b1]
        simp only [e3, Rs.bind_ok]
        exact r1
      · rcases List.mem_cons.mp hz with e | hz
        · subst e
          obtain ⟨u, hu, hu1⟩ := q5 o ((mem_nb w).mpr ho)
          exact ⟨u, r5.fw o u hu, hu1⟩
        · exact r6 z hz hk o ho
    · obtain ⟨gn, x4', x5', r1, r2, r3, r4, r5, r6⟩ := pl_loop w k0 xs fn (some (.v (.int p))) x5 (fun z hz => hb z (List.mem_cons_of_mem _ hz)) h rfl v5
      refine ⟨gn, x4', x5', ?_, r2, r3, r4, r5, fun z hz hk o ho => ?_⟩
      · have e3 : gPl (faD m ps f fn (some (.v (.int k))) (some (.v (.int p))) x5) = .ok (.nx, faD m ps f fn (some (.v (.int k))) (some (.v (.int p))) x5) := by
          unfold gPl
          rw [ev_gif, tst, decide_eq_false hp]
          rfl
        rw [List.map_cons, forN, b1]
        simp only [e3, Rs.bind_ok]
        exact r1
      · rcases List.mem_cons.mp hz with e | hz
        · subst e
          exact absurd (r5.bk z k hk (by omega)) hp
        · exact r6 z hz hk o ho
/-- behind so many laps -/
structure Al (ps : Ts) (f : Int) (k : Int) (fn : Int → Option Int) : Prop where
  st : fn f = some 0
  val : ∀ x v, fn x = some v → 0 ≤ v ∧ v ≤ k ∧ Wk ps f v.toNat x
  clo : ∀ x v, fn x = some v → v < k → ∀ o, Adj ps x o → ∃ u, fn o = some u ∧ u ≤ v + 1
abbrev gLp : Dv → Rs (Fl × Dv) := (gFor (wRng1 (fIxv 0 (fC (.int 0)))) (bName 4) gPl)
theorem lp_loop {m : Nat} {ps : Ts} (w : WebOk m ps) {f : Int} : ∀ (n k : Nat) (fn : Int → Option Int) (x3 x4 x5 : Option SV), Al ps f k fn → isV x3 = true → isV x4 = true → isV x5 = true →
    ∃ (gn : Int → Option Int) (x3' x4' x5' : Option SV), forN (bName 3) gLp (rngD k n) (faD m ps f fn x3 x4 x5) = .ok (.nx, faD m ps f gn x3' x4' x5') ∧ Al ps f ((k + n : Nat) : Int) gn
  | 0, k, fn, x3, x4, x5, h, _, _, _ => ⟨fn, x3, x4, x5, rfl, h⟩
  | n + 1, k, fn, x3, x4, x5, h, v3, v4, v5 => by
    have hm := w.hi
    have f3 := isV_free v3
    have im : i62 (m : Int) = true := i62_small (by omega) (by omega)
    have b1 : bName 3 (.int k) (faD m ps f fn x3 x4 x5) = some (faD m ps f fn (some (.v (.int k))) x4 x5) := by
      unfold faD
      generalize webD m ps = wb
      generalize fnD m fn = l1
      simp [f3]
    obtain ⟨g1, y4, y5, q1, q2, q3, q4, q5, q6⟩ := pl_loop (m := m) w (f := f) (k := k) (by omega) (Gr.upTo m) fn x4 x5 (fun o ho => Gr.mem_upTo.mp ho) ⟨h.st, fun x v hx => by have := h.val x v hx; exact ⟨this.1, by omega, this.2.2⟩⟩ v4 v5
    have al : Al ps f ((k + 1 : Nat) : Int) g1 := ⟨q4.st, fun x v hx => by have := q4.val x v hx; exact ⟨this.1, by omega, this.2.2⟩, fun x v hx hlt o ho => by
      by_cases e : v = k
      · subst e
        exact q6 x (Gr.mem_upTo.mpr (adj_bd w ho).1) hx o ho
      · obtain ⟨u, hu, hu1⟩ := h.clo x v (q5.bk x v hx (by omega)) (by omega) o ho
        exact ⟨u, q5.fw o u hu, hu1⟩⟩
    obtain ⟨gn, z3, z4, z5, r1, r2⟩ := lp_loop w n (k + 1) g1 (some (.v (.int k))) y4 y5 al rfl q2 q3
    refine ⟨gn, z3, z4, z5, ?_, by rw [show k + (n + 1) = k + 1 + n by omega]; exact r2⟩
    have ru := rngD_up m
    have e3 : gLp (faD m ps f fn (some (.v (.int k))) x4 x5) = .ok (.nx, faD m ps f g1 (some (.v (.int k))) y4 y5) := by
      have e2 : (wRng1 (fIxv 0 (fC (.int 0)))) (faD m ps f fn (some (.v (.int k))) x4 x5) = .ok ((Gr.upTo m).map .int, faD m ps f fn (some (.v (.int k))) x4 x5) := by
        have a0 := atW0 m ps
        unfold faD webD
        generalize ps.map pairD = ts at *
        generalize fnD m fn = l1 at *
        simp [a0, im, ru]
      unfold gLp
      rw [ev_for, e2]
      simp only [Rs.bind_ok]
      exact q1
    rw [rngD_cons, forN, b1]
    simp only [e3, Rs.bind_ok]
    exact r1
theorem Al.reach {ps : Ts} {f : Int} {k : Nat} {fn : Int → Option Int} (h : Al ps f k fn) {j : Nat} {x : Int} (hw : Wk ps f j x) : j ≤ k → ∃ u, fn x = some u ∧ u ≤ j := by
  induction hw with
  | base => exact fun _ => ⟨0, h.st, by omega⟩
  | step _ a ih =>
    intro hj
    obtain ⟨u, hu, hu1⟩ := ih (by omega)
    obtain ⟨z, hz, hz1⟩ := h.clo _ u hu (by omega) _ a
    exact ⟨z, hz, by omega⟩
theorem al_start (ps : Ts) (f : Int) : Al ps f ((0 : Nat) : Int) (updF (fun _ => none) f (some 0)) := by
  have key : ∀ x v, updF (fun _ => none) f (some 0) x = some v → x = f ∧ v = 0 := fun x v hx => by
    unfold updF at hx
    by_cases e : x = f
    · rw [if_pos e] at hx
      cases hx
      exact ⟨e, rfl⟩
    · rw [if_neg e] at hx
      cases hx
  refine ⟨by unfold updF; rw [if_pos rfl], fun x v hx => ?_, fun x v hx hlt o ho => ?_⟩
  · obtain ⟨rfl, rfl⟩ := key x v hx
    exact ⟨Int.le_refl 0, Int.le_refl 0, .base⟩
  · obtain ⟨rfl, rfl⟩ := key x v hx
    exact absurd hlt (by decide)
theorem law_far_eq {m : Nat} {ps : Ts} (w : WebOk m ps) {f : Int} (h0 : 0 ≤ f) (h1 : f < m) : ∃ fn : Int → Option Int, Al ps f m fn ∧ S__law_far [webD m ps, .int f] = .ok (.list (fnD m fn), none) := by
  have hm := w.hi
  have hm2 := w.lo
  have im : i62 (m : Int) = true := i62_small (by omega) (by omega)
  obtain ⟨gn, z3, z4, z5, r1, r2⟩ := lp_loop w m 0 (updF (fun _ => none) f (some 0)) none none none (al_start ps f) rfl rfl rfl
  rw [Nat.zero_add] at r2
  refine ⟨gn, r2, run_rt (g := g__law_far) (δ := [some (.v (webD m ps)), some (.v (.int f)), some (.v (.list (fnD m gn))), z3, z4, z5]) ?_ rfl⟩
  show g__law_far [some (.v (webD m ps)), some (.v (.int f)), none, none, none, none] = _
  have s0 := fn_set (m := m) (fun _ => none) h0 h1 (some 0)
  have rp : oRep (.list [.none]) (.int (m : Int)) = some (.list (fnD m fun _ => none)) := by
    simp only [oRep]
    rw [if_pos ⟨by omega, by rw [PySem.sizeLine_eq, Int.toNat_natCast, List.length_singleton]; omega⟩, Int.toNat_natCast]
    refine congrArg (fun l => some (PyData.list l)) ?_
    unfold fnD Gr.upTo
    rw [List.map_map]
    clear r1 r2 w s0 im h1 hm hm2
    induction m with
    | zero => rfl
    | succ n ih =>
      rw [List.replicate_succ', List.flatten_append, ih, List.range_succ, List.map_append]
      rfl
  unfold g__law_far
  have a0 := atW0 m ps
  refine sq (δ1 := [some (.v (webD m ps)), some (.v (.int f)), some (.m (.list (fnD m fun _ => none))), none, none, none]) ?_ ?_
  · unfold webD
    generalize ps.map pairD = ts at *
    generalize (fnD m fun _ => none) = l0 at *
    simp [a0, rp, PySem.sizeLine_eq]
  refine sq (δ1 := faD m ps f (updF (fun _ => none) f (some 0)) none none none) ?_ ?_
  · have e0 : opD (some 0) = .int 0 := rfl
    rw [e0] at s0
    unfold faD
    generalize webD m ps = wb
    generalize fnD m (updF (fun _ => none) f (some 0)) = l2 at *
    generalize (fnD m fun _ => none) = l0 at *
    simp [-setD_int, s0]
  refine sq (δ1 := faD m ps f gn z3 z4 z5) ?_ ?_
  · have e2 : (wRng1 (fIxv 0 (fC (.int 0)))) (faD m ps f (updF (fun _ => none) f (some 0)) none none none) = .ok (rngD 0 m, faD m ps f (updF (fun _ => none) f (some 0)) none none none) := by
      unfold faD webD
      generalize ps.map pairD = ts at *
      generalize fnD m (updF (fun _ => none) f (some 0)) = l1 at *
      simp [a0, im]
    rw [ev_for, e2]
    simp only [Rs.bind_ok]
    exact r1
  unfold faD
  generalize webD m ps = wb
  generalize fnD m gn = l1
  simp
end Kc

set_option maxRecDepth 100000
set_option maxHeartbeats 3900000
/-! ## M27. places looked at -/
namespace Kc
open PySem L2 Pw Gr
def plB (m : Nat) : PyData → Bool
  | .int i => decide (0 ≤ i ∧ i ≤ (m : Int) - 1)
  | _ => false
theorem plB_no {m : Nat} {d : PyData} (h : ∀ i : Int, d = .int i → ¬ (0 ≤ i ∧ i < m)) : plB m d = false := by
  cases d with
  | int i =>
    have := h i rfl
    (exact decide_eq_false (by omega))
  | _ => rfl
theorem plB_yes {m : Nat} {d : PyData} (h : plB m d = true) : ∃ i : Int, d = .int i ∧ 0 ≤ i ∧ i < m := by
  cases d with
  | int i =>
    unfold plB at h
    have := of_decide_eq_true h
    exact ⟨i, rfl, by omega, by omega⟩
  | _ => cases h
theorem plB_int {m : Nat} {i : Int} (h0 : 0 ≤ i) (h1 : i < m) : plB m (.int i) = true := by
  unfold plB
  exact decide_eq_true ⟨h0, by omega⟩
theorem up_pl {d : PyData} (h : shD d = true) (m : Nat) : S_is_upto [d, .int 0, .int ((m : Int) - 1)] = .ok (.bool (plB m d), none) := by
  rw [upto_eq h]
  cases d <;> rfl
theorem check_place_ok {m : Nat} {ps : Ts} {d : PyData} (h : shD d = true) (hp : plB m d = true) : S_check_place [webD m ps, d] = .ok (.none, none) := by
  have u := up_pl h m
  rw [hp] at u
  have a0 := atW0 m ps
  refine run_nx (g := g_check_place) (δ := [some (.v (webD m ps)), some (.v d)]) ?_ rfl
  show g_check_place [some (.v (webD m ps)), some (.v d)] = _
  unfold g_check_place webD
  generalize ps.map pairD = ts at *
  simp [a0, u]
theorem check_place_err {m : Nat} {ps : Ts} {d : PyData} (h : shD d = true) (hp : plB m d = false) : S_check_place [webD m ps, d] = .err "NoPlace" := by
  have u := up_pl h m
  rw [hp] at u
  have a0 := atW0 m ps
  refine run_err (g := g_check_place) ?_
  show g_check_place [some (.v (webD m ps)), some (.v d)] = _
  unfold g_check_place webD
  generalize ps.map pairD = ts at *
  simp [a0, u]
theorem neigh_err {D a : PyData} (h : shD D = true) (hl : ∀ a ts, D = .tuple [a, .tuple ts] → ts.length < 64) (w : ¬ Web D) : S_neighbours [D, a] = .err "NoWeb" := by
  have c := check_web_err h hl w
  refine run_err (g := g_neighbours) ?_
  show g_neighbours [some (.v D), some (.v a)] = _
  unfold g_neighbours
  simp [c]
theorem web_sh {m : Nat} {ps : Ts} : shD (webD m ps) = true := by
  have : shA (ps.map pairD) = true := by
    induction ps with
    | nil => rfl
    | cons p r ih =>
      rw [List.map_cons, shA, ih]
      rfl
  unfold webD
  simp [shD, shA, this]
theorem web_lim {m : Nat} {ps : Ts} (hz : ps.length < 64) : ∀ a ts, webD m ps = .tuple [a, .tuple ts] → ts.length < 64 := fun a ts e => by
  cases e
  rw [List.length_map]
  exact hz
theorem neigh_no {m : Nat} {ps : Ts} {a : PyData} (w : WebOk m ps) (hz : ps.length < 64) (ha : shD a = true) (hp : plB m a = false) : S_neighbours [webD m ps, a] = .err "NoPlace" := by
  have c := check_web_ok web_sh (web_lim hz) ⟨m, ps, rfl, w⟩
  have q := check_place_err (ps := ps) ha hp
  refine run_err (g := g_neighbours) ?_
  show g_neighbours [some (.v (webD m ps)), some (.v a)] = _
  unfold g_neighbours
  generalize webD m ps = wb at *
  simp [c, q]
theorem neigh_ok {m : Nat} {ps : Ts} {a : Int} (w : WebOk m ps) (hz : ps.length < 64) (h0 : 0 ≤ a) (h1 : a < m) : S_neighbours [webD m ps, .int a] = .ok (.tuple ((nb m ps a).map .int), none) := by
  have c := check_web_ok web_sh (web_lim hz) ⟨m, ps, rfl, w⟩
  have q := check_place_ok (ps := ps) (d := .int a) rfl (plB_int h0 h1)
  have ne := near_eq (ps := ps) w.hi a
  refine run_rt (g := g_neighbours) (δ := [some (.v (webD m ps)), some (.v (.int a))]) ?_ rfl
  show g_neighbours [some (.v (webD m ps)), some (.v (.int a))] = _
  unfold g_neighbours
  generalize webD m ps = wb at *
  simp [c, q, ne]
theorem places_err {D a b : PyData} (h : shD D = true) (hl : ∀ a ts, D = .tuple [a, .tuple ts] → ts.length < 64) (w : ¬ Web D) : S_check_places [D, a, b] = .err "NoWeb" := by
  have c := check_web_err h hl w
  refine run_err (g := g_check_places) ?_
  show g_check_places [some (.v D), some (.v a), some (.v b)] = _
  unfold g_check_places
  simp [c]
theorem places_no {m : Nat} {ps : Ts} {a b : PyData} (w : WebOk m ps) (hz : ps.length < 64) (ha : shD a = true) (hb : shD b = true) (hp : plB m a = false ∨ plB m b = false) : S_check_places [webD m ps, a, b] = .err "NoPlace" := by
  have c := check_web_ok web_sh (web_lim hz) ⟨m, ps, rfl, w⟩
  refine run_err (g := g_check_places) ?_
  show g_check_places [some (.v (webD m ps)), some (.v a), some (.v b)] = _
  unfold g_check_places
  cases h1 : plB m a with
  | false =>
    have q := check_place_err (ps := ps) ha h1
    generalize webD m ps = wb at *
    simp [c, q]
  | true =>
    have q := check_place_ok (ps := ps) ha h1
    have q2 := check_place_err (ps := ps) hb (hp.resolve_left (by rw [h1]; exact nofun))
    generalize webD m ps = wb at *
    simp [c, q, q2]
theorem places_ok {m : Nat} {ps : Ts} {a b : Int} (w : WebOk m ps) (hz : ps.length < 64) (h0 : 0 ≤ a) (h1 : a < m) (h2 : 0 ≤ b) (h3 : b < m) : S_check_places [webD m ps, .int a, .int b] = .ok (.none, none) := by
  have c := check_web_ok web_sh (web_lim hz) ⟨m, ps, rfl, w⟩
  have q := check_place_ok (ps := ps) (d := .int a) rfl (plB_int h0 h1)
  have q2 := check_place_ok (ps := ps) (d := .int b) rfl (plB_int h2 h3)
  refine run_nx (g := g_check_places) (δ := [some (.v (webD m ps)), some (.v (.int a)), some (.v (.int b))]) ?_ rfl
  show g_check_places [some (.v (webD m ps)), some (.v (.int a)), some (.v (.int b))] = _
  unfold g_check_places
  generalize webD m ps = wb at *
  simp [c, q, q2]
theorem apart_err {D a b : PyData} {z : Str} (h : S_check_places [D, a, b] = .err z) : S_apart [D, a, b] = .err z := by
  refine run_err (g := g_apart) ?_
  show g_apart [some (.v D), some (.v a), some (.v b)] = _
  unfold g_apart
  simp [h]
theorem apart_ok {D a b : PyData} {r : PyData} (h : S_check_places [D, a, b] = .ok (.none, none)) (k : S_apart_of [D, a, b] = .ok (r, none)) : S_apart [D, a, b] = .ok (r, none) := by
  refine run_rt (g := g_apart) (δ := [some (.v D), some (.v a), some (.v b)]) ?_ rfl
  show g_apart [some (.v D), some (.v a), some (.v b)] = _
  unfold g_apart
  simp [h, k]
end Kc

set_option maxRecDepth 100000
set_option maxHeartbeats 3900000
/-! ## M28. trees -/
namespace Gr
open PySem L2 Pw Kc
theorem nodup_sub {α : Type} [DecidableEq α] : ∀ {l ps : List α}, l.Nodup → (∀ x ∈ l, x ∈ ps) → l.length ≤ ps.length
  | [], _, _, _ => (Nat.zero_le _)
  | x :: r, ps, hn, hs => by
    rw [List.nodup_cons] at hn
    have hx := hs x List.mem_cons_self
    have ih := nodup_sub (ps := ps.erase x) hn.2 fun y hy => by
      have hne : y ≠ x := fun e => hn.1 (e ▸ hy)
      exact (List.mem_erase_of_ne hne).mpr (hs y (List.mem_cons_of_mem _ hy))
    rw [List.length_erase_of_mem hx] at ih
    have : 0 < ps.length := List.length_pos_of_mem hx
    rw [List.length_cons]
    omega
/-- how far each place is from b -/
structure Far (m : Nat) (ps : Ts) (b : Int) (D : Int → Nat) : Prop where
  dst : ∀ x : Int, 0 ≤ x → x < m → Dst ps b x (D x)
theorem Far.zero {m : Nat} {ps : Ts} {b x : Int} {D : Int → Nat} (h : Far m ps b D) (h0 : 0 ≤ x) (h1 : x < m) (e : D x = 0) : x = b := by
  have := (h.dst x h0 h1).wk
  rw [e] at this
  cases this
  rfl
theorem Far.self {m : Nat} {ps : Ts} {b : Int} {D : Int → Nat} (h : Far m ps b D) (h0 : 0 ≤ b) (h1 : b < m) : D b = 0 := by
  have := (h.dst b h0 h1).le 0 .base
  omega
theorem Far.adj {m : Nat} {ps : Ts} (w : WebOk m ps) {b x y : Int} {D : Int → Nat} (h : Far m ps b D) (a : Adj ps x y) : D y ≤ D x + 1 ∧ D x ≤ D y + 1 := by
  obtain ⟨hx, hy, _⟩ := adj_bd w a
  exact ⟨(h.dst y hy.1 hy.2).le _ (.step (h.dst x hx.1 hx.2).wk a), (h.dst x hx.1 hx.2).le _ (.step (h.dst y hy.1 hy.2).wk (Adj.symm a))⟩
theorem Far.nearer {m : Nat} {ps : Ts} (w : WebOk m ps) {b x : Int} {D : Int → Nat} (h : Far m ps b D) (h0 : 0 ≤ x) (h1 : x < m) (hb : x ≠ b) : ∃ y, Adj ps x y ∧ D y + 1 = D x := by
  have hw := (h.dst x h0 h1).wk
  generalize e : D x = k at hw
  cases hw with
  | base => exact absurd rfl hb
  | step hy a =>
    rename_i k y
    refine ⟨y, Adj.symm a, ?_⟩
    obtain ⟨hyb, _, _⟩ := adj_bd w a
    have := (h.dst y hyb.1 hyb.2).le _ hy
    have := (h.adj w a).1
    omega
theorem tdP_eq {a b c d : Int} (h : tdP a b = tdP c d) : (a = c ∧ b = d) ∨ (a = d ∧ b = c) := by
  unfold tdP gMin gMax at h
  injection h with h1 h2
  split at h1 <;> split at h1 <;> split at h2 <;> split at h2 <;> omega
theorem tdP_mem {m : Nat} {ps : Ts} (w : WebOk m ps) {a b : Int} (h : Adj ps a b) : tdP a b ∈ ps := of_decide_eq_true ((nbB_adj w a b).mpr h)
theorem upTo_ne (m : Nat) (b : Int) (h0 : 0 ≤ b) (h1 : b < m) : ((Gr.upTo m).filter fun x => decide (x ≠ b)).length + 1 = m := by
  have hb : b ∈ Gr.upTo m := Gr.mem_upTo.mpr ⟨h0, h1⟩
  have key : ∀ l : List Int, l.Nodup → b ∈ l → (l.filter fun x => decide (x ≠ b)).length + 1 = l.length := fun l => by
    induction l with
    | nil => intro _ h; cases h
    | cons x r ih =>
      intro hn hm
      rw [List.nodup_cons] at hn
      by_cases e : x = b
      · subst e
        rw [List.filter_cons_of_neg (by simp), List.length_cons]
        have : (r.filter fun y => decide (y ≠ x)) = r := List.filter_eq_self.mpr fun y hy => by
          simp only [ne_eq, decide_not, Bool.not_eq_true', decide_eq_false_iff_not]
          intro z
          exact hn.1 (z ▸ hy)
        rw [this]
      · rw [List.filter_cons_of_pos (by simp [e]), List.length_cons, List.length_cons]
        have := ih hn.2 ((List.mem_cons.mp hm).resolve_left (fun z => e z.symm))
        omega
  have := key _ (Gr.nodup_upTo m) hb
  rw [upTo_len] at this
  exact this
/-- from each place one step nearer -/
structure Nxt (m : Nat) (ps : Ts) (b : Int) (D : Int → Nat) (nx : Int → Int) : Prop where
  adj : ∀ x : Int, 0 ≤ x → x < m → x ≠ b → Adj ps x (nx x) ∧ D (nx x) + 1 = D x
theorem Far.nxt {m : Nat} {ps : Ts} (w : WebOk m ps) {b : Int} {D : Int → Nat} (h : Far m ps b D) : ∃ nx, Nxt m ps b D nx := by
  have : ∀ x : Int, ∃ y, (0 ≤ x ∧ x < m ∧ x ≠ b) → Adj ps x y ∧ D y + 1 = D x := fun x => by
    by_cases hx : 0 ≤ x ∧ x < m ∧ x ≠ b
    · obtain ⟨y, hy⟩ := h.nearer w hx.1 hx.2.1 hx.2.2
      exact ⟨y, fun _ => hy⟩
    · exact ⟨0, fun z => absurd z hx⟩
  obtain ⟨nx, hnx⟩ := Classical.axiomOfChoice this
  exact ⟨nx, ⟨fun x h0 h1 hb => hnx x ⟨h0, h1, hb⟩⟩⟩
def nxL (m : Nat) (b : Int) (nx : Int → Int) : Ts := ((Gr.upTo m).filter fun x => decide (x ≠ b)).map fun x => tdP x (nx x)
theorem nxL_mem {m : Nat} {b : Int} {nx : Int → Int} {p : Int × Int} : p ∈ nxL m b nx ↔ ∃ x : Int, (0 ≤ x ∧ x < m) ∧ x ≠ b ∧ tdP x (nx x) = p := by
  unfold nxL
  rw [List.mem_map]
  constructor
  · rintro ⟨x, hx, rfl⟩
    rw [List.mem_filter, Gr.mem_upTo] at hx
    exact ⟨x, hx.1, of_decide_eq_true hx.2, rfl⟩
  · rintro ⟨x, h1, h2, h3⟩
    exact ⟨x, List.mem_filter.mpr ⟨Gr.mem_upTo.mpr h1, decide_eq_true h2⟩, h3⟩
theorem map_nodup {α β : Type} {f : α → β} : ∀ {l : List α}, (∀ x ∈ l, ∀ y ∈ l, f x = f y → x = y) → l.Nodup → (l.map f).Nodup
  | [], _, _ => List.nodup_nil
  | x :: r, hi, hn => by
    rw [List.nodup_cons] at hn
    (rw [List.map_cons, List.nodup_cons])
    refine ⟨fun hx => ?_, map_nodup (fun a ha b hb => hi a (List.mem_cons_of_mem _ ha) b (List.mem_cons_of_mem _ hb)) hn.2⟩
    obtain ⟨y, hy, e⟩ := List.mem_map.mp hx
    have := hi y (List.mem_cons_of_mem _ hy) x List.mem_cons_self e
    exact hn.1 (this ▸ hy)
theorem nxL_nodup {m : Nat} {ps : Ts} {b : Int} {D : Int → Nat} {nx : Int → Int} (h : Nxt m ps b D nx) : (nxL m b nx).Nodup := by
  refine map_nodup (fun x hx y hy e => ?_) (List.Pairwise.filter _ (Gr.nodup_upTo m))
  rw [List.mem_filter, Gr.mem_upTo] at hx hy
  have h1 := h.adj x hx.1.1 hx.1.2 (of_decide_eq_true hx.2)
  have h2 := h.adj y hy.1.1 hy.1.2 (of_decide_eq_true hy.2)
  rcases tdP_eq e with e | e
  · exact e.1
  · have e1 := e.1
    have e2 := e.2
    rw [e2] at h1
    rw [← e1] at h2
    omega
theorem nxL_sub {m : Nat} {ps : Ts} (w : WebOk m ps) {b : Int} {D : Int → Nat} {nx : Int → Int} (h : Nxt m ps b D nx) : ∀ p ∈ nxL m b nx, p ∈ ps := fun p hp => by
  obtain ⟨x, hx, hb, rfl⟩ := nxL_mem.mp hp
  exact tdP_mem w (h.adj x hx.1 hx.2 hb).1
/-- a web has one tie less than places at least -/
theorem ties_ge {m : Nat} {ps : Ts} (w : WebOk m ps) {b : Int} (b0 : 0 ≤ b) (b1 : b < m) {D : Int → Nat} (h : Far m ps b D) : m ≤ ps.length + 1 := by
  obtain ⟨nx, hn⟩ := h.nxt w
  have l1 := nodup_sub (nxL_nodup hn) (nxL_sub w hn)
  have l2 := upTo_ne m b b0 b1
  unfold nxL at l1
  rw [List.length_map] at l1
  omega
/-- on a tree one neighbour alone is nearer -/
theorem one_nearer {m : Nat} {ps : Ts} (w : WebOk m ps) (ht : ps.length + 1 = m) {b : Int} (b0 : 0 ≤ b) (b1 : b < m) {D : Int → Nat} (h : Far m ps b D) {nx : Int → Int} (hn : Nxt m ps b D nx) {x z : Int} (x0 : 0 ≤ x) (x1 : x < m) (hx : x ≠ b) (ha : Adj ps x z) (hd : D z < D x) : z = nx x := by
  by_cases e : z = nx x
  · exact e
  exfalso
  have hz : D z + 1 = D x := by have := (h.adj w ha).2; omega
  have hnot : tdP x z ∉ nxL m b nx := fun hm => by
    obtain ⟨y, hy, hyb, ey⟩ := nxL_mem.mp hm
    have hy2 := hn.adj y hy.1 hy.2 hyb
    rcases tdP_eq ey with q | q
    · exact e (by rw [← q.2, q.1])
    · have q2 := q.2
      rw [q.1] at hy2 q2
      rw [q2] at hy2
      omega
  have l1 := nodup_sub (l := tdP x z :: nxL m b nx) (ps := ps) (List.nodup_cons.mpr ⟨hnot, nxL_nodup hn⟩) fun p hp => by
    (rcases List.mem_cons.mp hp with rfl | hp)
    · exact tdP_mem w ha
    · exact nxL_sub w hn p hp
  have l2 := upTo_ne m b b0 b1
  unfold nxL at l1
  rw [List.length_cons, List.length_map] at l1
  omega
end Gr

set_option maxRecDepth 100000
set_option maxHeartbeats 3900000
/-! ## M29. the way on a tree -/
namespace Kc
open PySem L2 Pw Gr
theorem far_both {m : Nat} {ps : Ts} (w : WebOk m ps) {b : Int} (b0 : 0 ≤ b) (b1 : b < m) : ∃ (ln : List (Int × Int)) (fn : Int → Option Int) (D : Int → Nat), Done m ps b ln ∧ S_apart_from [webD m ps, .int b] = .ok (dcD ln, none) ∧ S__law_far [webD m ps, .int b] = .ok (.list (fnD m fn), none) ∧
    Far m ps b D ∧ ∀ x : Int, 0 ≤ x → x < m → (x, (D x : Int)) ∈ ln ∧ fn x = some (D x : Int) ∧ D x < m := by
  obtain ⟨ln, d, h1⟩ := apart_from_eq w b0 b1
  obtain ⟨fn, al, h2⟩ := law_far_eq w b0 b1
  have key : ∀ x : Int, ∃ k : Nat, (0 ≤ x ∧ x < m) → (x, (k : Int)) ∈ ln ∧ fn x = some (k : Int) ∧ k < m ∧ Dst ps b x k := fun x => by
    by_cases hx : 0 ≤ x ∧ x < m
    · have hr : Rch ps b x := (Rch.symm (w.all b ⟨b0, b1⟩)).trans (w.all x hx)
      obtain ⟨k, hk⟩ := hr.wk
      obtain ⟨u, hu, _⟩ := d.reach hk
      obtain ⟨u0, u1⟩ := d.lt hu
      have ds := d.dst hu
      obtain ⟨v, rfl⟩ : ∃ v : Nat, u = v := ⟨u.toNat, by omega⟩
      rw [Int.toNat_natCast] at ds
      obtain ⟨z, hz, hz1⟩ := al.reach ds.wk (by omega)
      have h3 := al.val x z hz
      have h4 := ds.le _ h3.2.2
      have : z = v := by omega
      subst this
      exact ⟨v, fun _ => ⟨hu, hz, by omega, ds⟩⟩
    · exact ⟨0, fun z => absurd z hx⟩
  obtain ⟨D, hD⟩ := Classical.axiomOfChoice key
  exact ⟨ln, fn, D, d, h1, h2, ⟨fun x x0 x1 => (hD x ⟨x0, x1⟩).2.2.2⟩, fun x x0 x1 => ⟨(hD x ⟨x0, x1⟩).1, (hD x ⟨x0, x1⟩).2.1, (hD x ⟨x0, x1⟩).2.2.1⟩⟩
/-- the way, by steps nearer -/
def pth (nx : Int → Int) : Nat → Int → List Int
  | 0, x => [x]
  | k + 1, x => x :: pth nx k (nx x)
theorem pth_len (nx : Int → Int) : ∀ (k : Nat) (x : Int), (pth nx k x).length = k + 1
  | 0, _ => rfl
  | k + 1, x => by rw [pth, List.length_cons, pth_len nx k]
def nrF (m : Nat) (ps : Ts) (D : Int → Nat) (x : Int) : List Int := (nb m ps x).filter fun y => decide (D y < D x)
theorem nodup_one {l : List Int} {y : Int} (hn : l.Nodup) (hy : y ∈ l) (h : ∀ z ∈ l, z = y) : l = [y] := by
  match l, hn, hy, h with
  | [a], _, _, h => rw [h a List.mem_cons_self]
  | a :: c :: r, hn, _, h =>
    have e1 := h a List.mem_cons_self
    have e2 := h c (List.mem_cons_of_mem _ List.mem_cons_self)
    rw [List.nodup_cons] at hn
    exact absurd (by rw [e1, ← e2]; exact List.mem_cons_self) hn.1
theorem nrF_one {m : Nat} {ps : Ts} (w : WebOk m ps) (ht : ps.length + 1 = m) {b : Int} (b0 : 0 ≤ b) (b1 : b < m) {D : Int → Nat} (h : Far m ps b D) {nx : Int → Int} (hn : Nxt m ps b D nx) {x : Int} (x0 : 0 ≤ x) (x1 : x < m) (hx : x ≠ b) : nrF m ps D x = [nx x] := by
  have q := hn.adj x x0 x1 hx
  refine nodup_one (List.Pairwise.filter _ (List.Pairwise.filter _ (Gr.nodup_upTo m))) ?_ fun z hz => ?_
  · unfold nrF
    rw [List.mem_filter, mem_nb w]
    exact ⟨q.1, decide_eq_true (by omega)⟩
  · unfold nrF at hz
    rw [List.mem_filter, mem_nb w] at hz
    exact one_nearer w ht b0 b1 h hn x0 x1 hx hz.1 (of_decide_eq_true hz.2)
theorem at_last (l : List PyData) (d : PyData) (hz : l.length ≤ 1000) : atI (l ++ [d]) (-1) = some d := by
  have ix : ixN (l ++ [d]).length (-1) = some l.length := by
    (rw [List.length_append, List.length_singleton])
    unfold ixN
    simp
    omega
  unfold atI
  rw [ix]
  simp
theorem last_ints (l : List Int) (x : Int) (hz : l.length ≤ 1000) : atI ((l ++ [x]).map PyData.int) (-1) = some (.int x) := by
  rw [List.map_append]
  exact at_last _ _ (by rw [List.length_map]; exact hz)
/-! the program's way -/
def waD (m : Nat) (ps : Ts) (a b : Int) (ln : List (Int × Int)) (l : List Int) : Dv := [some (.v (webD m ps)), some (.v (.int a)), some (.v (.int b)), some (.v (dcD ln)), some (.m (.list (l.map .int))), none]
abbrev cNr : Dv → Rs (PyData × Dv) := fLc [5] (wSeq (fCall S_near (aCons (fVar 0) (aCons (fIxv 4 (f1 oNeg (fC (.int 1)))) aNil)))) (bName 5) (fT (f2 oLtA (fDixv 3 (fVar 5)) (fDixv 3 (fIxv 4 (f1 oNeg (fC (.int 1))))))) (fVar 5)
theorem cNr_eq {m : Nat} {ps : Ts} {a b x : Int} {ln : List (Int × Int)} {D : Int → Nat} {l : List Int} (w : WebOk m ps) (d : Done m ps b ln) (hD : ∀ x : Int, 0 ≤ x → x < m → (x, (D x : Int)) ∈ ln) (x0 : 0 ≤ x) (x1 : x < m) (hz : l.length ≤ 100) :
    cNr (waD m ps a b ln (l ++ [x])) = .ok (.list ((nrF m ps D x).map .int), waD m ps a b ln (l ++ [x])) := by
  have hm := w.hi
  have la := last_ints l x (by omega)
  have ne := near_eq (ps := ps) hm x
  have gx := dc_get d.nd (hD x x0 x1)
  unfold nrF
  rw [← filter_intI]
  refine lc_pure (x := ((nb m ps x).map .int, waD m ps a b ln (l ++ [x]))) (p := fun d => decide (D (intI d) < D x)) (e := id) ?_ ?_ fun d0 hd => ?_
  · unfold waD
    generalize webD m ps = wb at *
    generalize dcD ln = dc at *
    generalize (l ++ [x]).map PyData.int = l3 at *
    generalize (nb m ps x).map PyData.int = l4 at *
    simp [la, ne]
  · have := nb_len m ps x
    rw [List.length_map, PySem.sizeLine_eq]
    omega
  · obtain ⟨y, hy, rfl⟩ := List.mem_map.mp hd
    obtain ⟨_, yb, _⟩ := adj_bd w ((mem_nb w).mp hy)
    have gy := dc_get d.nd (hD y yb.1 yb.2)
    refine ⟨[some (.v (webD m ps)), some (.v (.int a)), some (.v (.int b)), some (.v (dcD ln)), some (.a (.list ((l ++ [x]).map .int))), some (.v (.int y))], ?_, ?_, fun _ => ?_, ?_⟩
    · unfold waD
      generalize webD m ps = wb at *
      generalize dcD ln = dc at *
      generalize (l ++ [x]).map PyData.int = l3 at *
      simp [anchD, wipeD, anch1]
    · generalize webD m ps = wb at *
      generalize dcD ln = dc at *
      generalize (l ++ [x]).map PyData.int = l3 at *
      simp [la, gx, gy, intI]
      exact decide_eq_decide.mpr Iff.rfl
    · generalize webD m ps = wb at *
      generalize dcD ln = dc at *
      generalize (l ++ [x]).map PyData.int = l3 at *
      simp
    · unfold waD
      generalize webD m ps = wb at *
      generalize dcD ln = dc at *
      generalize (l ++ [x]).map PyData.int = l3 at *
      simp [anchD, wipeD, anch1]
abbrev tWay : Dv → Rs (Bool × Dv) := fT (f2 oNe (fIxv 4 (f1 oNeg (fC (.int 1)))) (fVar 2))
abbrev gWay : Dv → Rs (Fl × Dv) := gDrop (fMt 4 mApp (aCons (f2 oIx cNr (fC (.int 0))) aNil))
theorem way_loop {m : Nat} {ps : Ts} (w : WebOk m ps) (ht : ps.length + 1 = m) {a b : Int} (b0 : 0 ≤ b) (b1 : b < m) {ln : List (Int × Int)} (d : Done m ps b ln) {D : Int → Nat} (h : Far m ps b D) (hD : ∀ x : Int, 0 ≤ x → x < m → (x, (D x : Int)) ∈ ln) {nx : Int → Int} (hn : Nxt m ps b D nx) :
    ∀ (k : Nat) (x : Int) (l : List Int) (n : Nat), D x = k → 0 ≤ x → x < m → k < n → l.length + k ≤ 50 → whN tWay gWay n (waD m ps a b ln (l ++ [x])) = .ok (.nx, waD m ps a b ln (l ++ pth nx k x)) := fun k => by
  have tst : ∀ (x : Int) (l : List Int), l.length ≤ 50 → tWay (waD m ps a b ln (l ++ [x])) = .ok (!decide (x = b), waD m ps a b ln (l ++ [x])) := fun x l hl => by
    have la := last_ints l x (by omega)
    unfold waD
    generalize webD m ps = wb
    generalize dcD ln = dc
    generalize (l ++ [x]).map PyData.int = l3 at *
    simp [la, oNe_int]
  induction k with
  | zero =>
    intro x l n hd x0 x1 hk hl
    (obtain ⟨n, rfl⟩ : ∃ n', n = n' + 1 := ⟨n - 1, by omega⟩)
    have e := h.zero x0 x1 hd
    rw [whN, tst x l (by omega), e]
    simp [pth]
  | succ k ih =>
    intro x l n hd x0 x1 hk hl
    (obtain ⟨n, rfl⟩ : ∃ n', n = n' + 1 := ⟨n - 1, by omega⟩)
    have hx : x ≠ b := fun e => by
      rw [e, h.self b0 b1] at hd
      omega
    obtain ⟨q1, q2⟩ := hn.adj x x0 x1 hx
    obtain ⟨_, yb, _⟩ := adj_bd w q1
    have one := nrF_one w ht b0 b1 h hn x0 x1 hx
    have cn := cNr_eq (a := a) (l := l) w d hD x0 x1 (by omega)
    rw [one] at cn
    have st := ih (nx x) (l ++ [x]) n (by omega) yb.1 yb.2 (by omega) (by rw [List.length_append, List.length_singleton]; omega)
    have bd : gWay (waD m ps a b ln (l ++ [x])) = .ok (.nx, waD m ps a b ln (l ++ [x] ++ [nx x])) := by
      have ap := app_ints (l ++ [x]) (nx x) (by rw [List.length_append, List.length_singleton]; omega)
      unfold gWay
      rw [ev_drop, ev_mt]
      rw [if_pos (by rfl), ev_cons, ev_f2, cn]
      unfold waD
      generalize webD m ps = wb
      generalize dcD ln = dc
      generalize (l ++ [x] ++ [nx x]).map PyData.int = l4 at *
      generalize (l ++ [x]).map PyData.int = l3 at *
      simp [ap, atI, ixN]
    rw [whN, tst x l (by omega), decide_eq_false hx]
    simp only [Bool.not_false, Rs.bind_ok, if_true, bd]
    refine st.trans ?_
    rw [pth, List.append_assoc]
    rfl
theorem way_of_eq {m : Nat} {ps : Ts} (w : WebOk m ps) (ht : ps.length + 1 = m) {a b : Int} (a0 : 0 ≤ a) (a1 : a < m) (b0 : 0 ≤ b) (b1 : b < m) {ln : List (Int × Int)} (d : Done m ps b ln) (hs : S_apart_from [webD m ps, .int b] = .ok (dcD ln, none)) {D : Int → Nat} (h : Far m ps b D) (hD : ∀ x : Int, 0 ≤ x → x < m → (x, (D x : Int)) ∈ ln ∧ D x < m) {nx : Int → Int} (hn : Nxt m ps b D nx) :
    S_way_of [webD m ps, .int a, .int b] = .ok (.tuple ((pth nx (D a) a).map .int), none) := by
  have hm := w.hi
  have da := (hD a a0 a1).2
  have lp := way_loop (a := a) w ht b0 b1 d h (fun x h0 h1 => (hD x h0 h1).1) hn (D a) a [] 40 rfl a0 a1 (by omega) (by rw [List.length_nil]; omega)
  rw [List.nil_append, List.nil_append] at lp
  refine run_rt (g := g_way_of) (δ := waD m ps a b ln (pth nx (D a) a)) ?_ rfl
  show g_way_of [some (.v (webD m ps)), some (.v (.int a)), some (.v (.int b)), none, none, none] = _
  unfold g_way_of
  refine sq (δ1 := [some (.v (webD m ps)), some (.v (.int a)), some (.v (.int b)), some (.v (dcD ln)), none, none]) (by
    generalize webD m ps = wb at *
    generalize dcD ln = dc at *
    simp [hs]) ?_
  refine sq (δ1 := waD m ps a b ln [a]) (by
    unfold waD
    generalize webD m ps = wb at *
    generalize dcD ln = dc at *
    simp [PySem.sizeLine_eq]) ?_
  refine sq lp ?_
  unfold waD
  generalize webD m ps = wb at *
  generalize dcD ln = dc at *
  generalize (pth nx (D a) a).map PyData.int = l3 at *
  simp
end Kc

set_option maxRecDepth 100000
set_option maxHeartbeats 3900000
/-! ## M30. the law's way; parts; looks at trees -/
namespace Kc
open PySem L2 Pw Gr
def wlD (m : Nat) (ps : Ts) (a b : Int) (fn : Int → Option Int) (l : List Int) : Dv := [some (.v (webD m ps)), some (.v (.int a)), some (.v (.int b)), some (.v (.list (fnD m fn))), some (.v (.tuple (l.map .int))), none]
abbrev cLn : Dv → Rs (PyData × Dv) := fLc [5] (wSeq (fCall S__law_near (aCons (fVar 0) (aCons (fIxv 4 (f1 oNeg (fC (.int 1)))) aNil)))) (bName 5) (fT (f2 oLtA (fIxv 3 (fVar 5)) (fIxv 3 (fIxv 4 (f1 oNeg (fC (.int 1))))))) (fVar 5)
theorem cLn_eq {m : Nat} {ps : Ts} {a b x : Int} {fn : Int → Option Int} {D : Int → Nat} {l : List Int} (w : WebOk m ps) (hD : ∀ x : Int, 0 ≤ x → x < m → fn x = some (D x : Int)) (x0 : 0 ≤ x) (x1 : x < m) (hz : l.length ≤ 100) :
    cLn (wlD m ps a b fn (l ++ [x])) = .ok (.list ((nrF m ps D x).map .int), wlD m ps a b fn (l ++ [x])) := by
  have hm := w.hi
  have la := last_ints l x (by omega)
  have ne := law_near_eq (ps := ps) hm x
  have gx := fn_at (m := m) fn x0 x1
  rw [hD x x0 x1] at gx
  have gx : atI (fnD m fn) x = some (.int (D x)) := gx
  unfold nrF
  rw [← filter_intI]
  refine lc_pure (x := ((nb m ps x).map .int, wlD m ps a b fn (l ++ [x]))) (p := fun d => decide (D (intI d) < D x)) (e := id) ?_ ?_ fun d0 hd => ?_
  · unfold wlD
    generalize webD m ps = wb at *
    generalize fnD m fn = dc at *
    generalize (l ++ [x]).map PyData.int = l3 at *
    generalize (nb m ps x).map PyData.int = l4 at *
    simp [la, ne]
  · have := nb_len m ps x
    rw [List.length_map, PySem.sizeLine_eq]
    omega
  · obtain ⟨y, hy, rfl⟩ := List.mem_map.mp hd
    obtain ⟨_, yb, _⟩ := adj_bd w ((mem_nb w).mp hy)
    have gy := fn_at (m := m) fn yb.1 yb.2
    rw [hD y yb.1 yb.2] at gy
    have gy : atI (fnD m fn) y = some (.int (D y)) := gy
    refine ⟨[some (.v (webD m ps)), some (.v (.int a)), some (.v (.int b)), some (.v (.list (fnD m fn))), some (.v (.tuple ((l ++ [x]).map .int))), some (.v (.int y))], ?_, ?_, fun _ => ?_, ?_⟩
    · unfold wlD
      generalize webD m ps = wb at *
      generalize fnD m fn = dc at *
      generalize (l ++ [x]).map PyData.int = l3 at *
      simp [anchD, wipeD, anch1]
    · generalize webD m ps = wb at *
      generalize fnD m fn = dc at *
      generalize (l ++ [x]).map PyData.int = l3 at *
      simp [la, gx, gy, intI]
      exact decide_eq_decide.mpr Iff.rfl
    · generalize webD m ps = wb at *
      generalize fnD m fn = dc at *
      generalize (l ++ [x]).map PyData.int = l3 at *
      simp
    · unfold wlD
      generalize webD m ps = wb at *
      generalize fnD m fn = dc at *
      generalize (l ++ [x]).map PyData.int = l3 at *
      simp [anchD, wipeD, anch1]
abbrev gWl : Dv → Rs (Fl × Dv) := gSet 4 (f2 oAdd (fVar 4) (f1 oTuple cLn))
theorem lway_loop {m : Nat} {ps : Ts} (w : WebOk m ps) (ht : ps.length + 1 = m) {a b : Int} (b0 : 0 ≤ b) (b1 : b < m) {fn : Int → Option Int} {D : Int → Nat} (h : Far m ps b D) (hD : ∀ x : Int, 0 ≤ x → x < m → fn x = some (D x : Int)) {nx : Int → Int} (hn : Nxt m ps b D nx) :
    ∀ (k : Nat) (x : Int) (l : List Int) (n : Nat), D x = k → 0 ≤ x → x < m → k < n → l.length + k ≤ 50 → whN tWay gWl n (wlD m ps a b fn (l ++ [x])) = .ok (.nx, wlD m ps a b fn (l ++ pth nx k x)) := fun k => by
  have tst : ∀ (x : Int) (l : List Int), l.length ≤ 50 → tWay (wlD m ps a b fn (l ++ [x])) = .ok (!decide (x = b), wlD m ps a b fn (l ++ [x])) := fun x l hl => by
    have la := last_ints l x (by omega)
    unfold wlD
    generalize webD m ps = wb
    generalize fnD m fn = dc
    generalize (l ++ [x]).map PyData.int = l3 at *
    simp [la, oNe_int]
  induction k with
  | zero =>
    intro x l n hd x0 x1 hk hl
    (obtain ⟨n, rfl⟩ : ∃ n', n = n' + 1 := ⟨n - 1, by omega⟩)
    have e := h.zero x0 x1 hd
    rw [whN, tst x l (by omega), e]
    simp [pth]
  | succ k ih =>
    intro x l n hd x0 x1 hk hl
    (obtain ⟨n, rfl⟩ : ∃ n', n = n' + 1 := ⟨n - 1, by omega⟩)
    have hx : x ≠ b := fun e => by
      rw [e, h.self b0 b1] at hd
      omega
    obtain ⟨q1, q2⟩ := hn.adj x x0 x1 hx
    obtain ⟨_, yb, _⟩ := adj_bd w q1
    have one := nrF_one w ht b0 b1 h hn x0 x1 hx
    have cn := cLn_eq (a := a) (b := b) (l := l) w hD x0 x1 (by omega)
    rw [one] at cn
    have st := ih (nx x) (l ++ [x]) n (by omega) yb.1 yb.2 (by omega) (by rw [List.length_append, List.length_singleton]; omega)
    have bd : gWl (wlD m ps a b fn (l ++ [x])) = .ok (.nx, wlD m ps a b fn (l ++ [x] ++ [nx x])) := by
      have ap : oAdd (.tuple ((l ++ [x]).map .int)) (.tuple ([nx x].map .int)) = some (.tuple ((l ++ [x] ++ [nx x]).map .int)) := by
        rw [oAdd_tuple, if_pos (by rw [List.length_map, List.length_map, List.length_append, List.length_singleton, List.length_singleton, PySem.sizeLine_eq]; omega), ← List.map_append]
      have e2 : (f1 oTuple cLn) (wlD m ps a b fn (l ++ [x])) = .ok (.tuple ([nx x].map .int), wlD m ps a b fn (l ++ [x])) := by
        rw [ev_f1, cn]
        rfl
      have e1 : fVar 4 (wlD m ps a b fn (l ++ [x])) = .ok (.tuple ((l ++ [x]).map .int), wlD m ps a b fn (l ++ [x])) := by
        unfold wlD
        generalize webD m ps = wb
        generalize fnD m fn = dc
        generalize (l ++ [x]).map PyData.int = l3 at *
        simp
      unfold gWl
      rw [ev_set, ev_f2, e1]
      simp only [Rs.bind_ok]
      rw [e2]
      simp only [Rs.bind_ok, ap, lift_some]
      rfl
    rw [whN, tst x l (by omega), decide_eq_false hx]
    simp only [Bool.not_false, Rs.bind_ok, if_true, bd]
    refine st.trans ?_
    rw [pth, List.append_assoc]
    rfl
theorem law_way_eq {m : Nat} {ps : Ts} (w : WebOk m ps) (ht : ps.length + 1 = m) {a b : Int} (a0 : 0 ≤ a) (a1 : a < m) (b0 : 0 ≤ b) (b1 : b < m) {fn : Int → Option Int} (hs : S__law_far [webD m ps, .int b] = .ok (.list (fnD m fn), none)) {D : Int → Nat} (h : Far m ps b D) (hD : ∀ x : Int, 0 ≤ x → x < m → fn x = some (D x : Int) ∧ D x < m) {nx : Int → Int} (hn : Nxt m ps b D nx) :
    S__law_way [webD m ps, .int a, .int b] = .ok (.tuple ((pth nx (D a) a).map .int), none) := by
  have hm := w.hi
  have da := (hD a a0 a1).2
  have lp := lway_loop (a := a) w ht b0 b1 h (fun x h0 h1 => (hD x h0 h1).1) hn (D a) a [] 40 rfl a0 a1 (by omega) (by rw [List.length_nil]; omega)
  rw [List.nil_append, List.nil_append] at lp
  refine run_rt (g := g__law_way) (δ := wlD m ps a b fn (pth nx (D a) a)) ?_ rfl
  show g__law_way [some (.v (webD m ps)), some (.v (.int a)), some (.v (.int b)), none, none, none] = _
  unfold g__law_way
  refine sq (δ1 := [some (.v (webD m ps)), some (.v (.int a)), some (.v (.int b)), some (.v (.list (fnD m fn))), none, none]) (by
    generalize webD m ps = wb at *
    generalize fnD m fn = dc at *
    simp [hs]) ?_
  refine sq (δ1 := wlD m ps a b fn [a]) (by
    unfold wlD
    generalize webD m ps = wb at *
    generalize fnD m fn = dc at *
    simp [PySem.sizeLine_eq]) ?_
  refine sq lp ?_
  unfold wlD
  generalize webD m ps = wb at *
  generalize fnD m fn = dc at *
  generalize (pth nx (D a) a).map PyData.int = l3 at *
  simp
/-- both ways -/
theorem ways_eq {m : Nat} {ps : Ts} (w : WebOk m ps) (ht : ps.length + 1 = m) {a b : Int} (a0 : 0 ≤ a) (a1 : a < m) (b0 : 0 ≤ b) (b1 : b < m) : ∃ L : List Int, L.length ≤ 8 ∧ (∀ x ∈ L, 0 ≤ x ∧ x < m) ∧ S_way_of [webD m ps, .int a, .int b] = .ok (.tuple (L.map .int), none) ∧ S__law_way [webD m ps, .int a, .int b] = .ok (.tuple (L.map .int), none) := by
  have hm := w.hi
  obtain ⟨ln, fn, D, d, h1, h2, hf, hD⟩ := far_both w b0 b1
  obtain ⟨nx, hn⟩ := hf.nxt w
  have da := (hD a a0 a1).2.2
  have bd : ∀ (k : Nat) (x : Int), D x = k → 0 ≤ x → x < m → ∀ y ∈ pth nx k x, 0 ≤ y ∧ y < m := fun k => by
    induction k with
    | zero =>
      intro x _ x0 x1 y hy
      rw [pth, List.mem_singleton] at hy
      rw [hy]
      exact ⟨x0, x1⟩
    | succ k ih =>
      intro x hd x0 x1 y hy
      have hx : x ≠ b := fun e => by
        rw [e, hf.self b0 b1] at hd
        omega
      obtain ⟨q1, q2⟩ := hn.adj x x0 x1 hx
      obtain ⟨_, yb, _⟩ := adj_bd w q1
      rw [pth] at hy
      (rcases List.mem_cons.mp hy with e | hy)
      · rw [e]; exact ⟨x0, x1⟩
      · exact ih (nx x) (by omega) yb.1 yb.2 y hy
  exact ⟨pth nx (D a) a, by rw [pth_len]; omega, bd (D a) a rfl a0 a1, way_of_eq w ht a0 a1 b0 b1 d h1 hf (fun x h0 h1 => ⟨(hD x h0 h1).1, (hD x h0 h1).2.2⟩) hn, law_way_eq w ht a0 a1 b0 b1 h2 hf (fun x h0 h1 => (hD x h0 h1).2) hn⟩
/-! the part beyond a tie -/
theorem part_lc {m : Nat} {ps : Ts} {a b : Int} (hz : ps.length ≤ 1000) : fLc [3] (wSeq (fIxv 0 (fC (.int 1)))) (bName 3) (fT (f2 oNe (fVar 3) (fTup (aCons (fB2 gMin (fVar 1) (fVar 2)) (aCons (fB2 gMax (fVar 1) (fVar 2)) aNil))))) (fVar 3) [some (.v (webD m ps)), some (.v (.int a)), some (.v (.int b)), none] =
    .ok (.list ((rest ps (tdP a b)).map pairD), [some (.v (webD m ps)), some (.v (.int a)), some (.v (.int b)), none]) := by
  rw [← filter_pairs]
  have a1 := atW1 m ps
  refine lc_pure (x := (ps.map pairD, [some (.v (webD m ps)), some (.v (.int a)), some (.v (.int b)), none])) (p := fun d => !decide (prOf d = tdP a b)) (e := id) ?_ (by rw [List.length_map, PySem.sizeLine_eq]; omega) fun d hd => ?_
  · unfold webD
    generalize ps.map pairD = ts at *
    simp [a1]
  · obtain ⟨q, hq, rfl⟩ := List.mem_map.mp hd
    have n : oNe (pairD q) (.tuple [.int (gMin a b), .int (gMax a b)]) = some (.bool (!decide (q = tdP a b))) := ne_pair q (tdP a b)
    refine ⟨[some (.v (webD m ps)), some (.v (.int a)), some (.v (.int b)), some (.v (pairD q))], ?_, ?_, fun _ => ?_, ?_⟩
    · simp [anchD, wipeD, anch1]
    · rw [prOf_pair]
      generalize pairD q = dq at *
      simp [n, PySem.sizeLine_eq]
    · simp
    · simp [anchD, wipeD, anch1]
theorem part_both {m : Nat} {ps : Ts} (w : WebOk m ps) (hz : ps.length < 64) {a b : Int} (b0 : 0 ≤ b) (b1 : b < m) : ∃ L : List Int, L.length ≤ 8 ∧ (∀ x ∈ L, 0 ≤ x ∧ x < m) ∧ S_part_of [webD m ps, .int a, .int b] = .ok (.tuple (L.map .int), none) ∧
    S__law_met [.int m, .list ((rest ps (tdP a b)).map pairD), .int b] = .ok (.list (L.map .int), none) := by
  have hm := w.hi
  have bd : Bd m (rest ps (tdP a b)) := fun q hq => by have := w.tie q (rest_sub hq); omega
  have hne : ∀ q ∈ rest ps (tdP a b), q.1 ≠ q.2 := fun q hq => by have := w.tie q (rest_sub hq); omega
  obtain ⟨l1, f1, c1, r1⟩ := reached_eq (f := b) (td := .list ((rest ps (tdP a b)).map pairD)) (ps := rest ps (tdP a b)) rfl (by omega) bd ⟨b0, b1⟩
  obtain ⟨l2, f2, c2, r2⟩ := met_eq (f := b) (td := .list ((rest ps (tdP a b)).map pairD)) (ps := rest ps (tdP a b)) rfl (by omega) bd hne ⟨b0, b1⟩
  have e : srtI l1 = srtI l2 := srt_same f1.nd f2.nd fun x => (c1 x).trans (c2 x).symm
  have b8 : ∀ x ∈ l1, 0 ≤ x ∧ x < m := fun x hx => (f1.rch x hx).bd bd ⟨b0, b1⟩
  refine ⟨srtI l1, ?_, fun x hx => b8 x ((isrt_perm l1).mem_iff.mp hx), run_rt (g := g_part_of) (δ := [some (.v (webD m ps)), some (.v (.int a)), some (.v (.int b)), none]) ?_ rfl, by rw [e]; exact r2⟩
  · have h1 : (srtI l1).length = l1.length := (isrt_perm l1).length_eq
    rw [h1]
    have := few f1.nd b8
    omega
  · show g_part_of [some (.v (webD m ps)), some (.v (.int a)), some (.v (.int b)), none] = _
    unfold g_part_of
    rw [ev_ret, ev_call, ev_cons, part_lc (by omega)]
    generalize webD m ps = wb
    generalize (rest ps (tdP a b)).map pairD = ts at *
    generalize (srtI l1).map PyData.int = l4 at *
    simp [r1]
end Kc

set_option maxRecDepth 100000
set_option maxHeartbeats 3900000
/-! ## M31. looks at trees -/
namespace Kc
open PySem L2 Pw Gr
def trB (m : Nat) (ps : Ts) : Bool := decide (ps.length + 1 = m)
theorem tr_eq (m : Nat) (ps : Ts) : oEq (.int (ps.length : Int)) (.int ((m : Int) - 1)) = some (.bool (trB m ps)) := by
  rw [oEq_int]
  congr 2
  unfold trB
  (exact decide_eq_decide.mpr (by omega))
theorem tree_like_eq {m : Nat} {ps : Ts} : S_tree_like [webD m ps] = .ok (.bool (trB m ps), none) := by
  refine run_rt (g := g_tree_like) (δ := [some (.v (webD m ps))]) ?_ rfl
  show g_tree_like [some (.v (webD m ps))] = _
  have a0 := atW0 m ps
  have a1 := atW1 m ps
  have e := tr_eq m ps
  have l : oLen (.tuple (ps.map pairD)) = some (.int (ps.length : Int)) := by rw [oLen_tuple, List.length_map]
  unfold g_tree_like webD
  generalize ps.map pairD = ts at *
  simp [-oLen_tuple, a0, a1, l, e]
theorem law_is_tree_eq {m : Nat} {ps : Ts} : S__law_is_tree [webD m ps] = .ok (.bool (trB m ps), none) := by
  refine run_rt (g := g__law_is_tree) (δ := [some (.v (webD m ps))]) ?_ rfl
  show g__law_is_tree [some (.v (webD m ps))] = _
  have a0 := atW0 m ps
  have a1 := atW1 m ps
  have e := tr_eq m ps
  have l : oLen (.tuple (ps.map pairD)) = some (.int (ps.length : Int)) := by rw [oLen_tuple, List.length_map]
  unfold g__law_is_tree webD
  generalize ps.map pairD = ts at *
  simp [-oLen_tuple, a0, a1, l, e]
section
variable {m : Nat} {ps : Ts} {D a b : PyData}
theorem web_chk (w : WebOk m ps) (hz : ps.length < 64) : S_check_web [webD m ps] = .ok (.none, none) := check_web_ok web_sh (web_lim hz) ⟨m, ps, rfl, w⟩
theorem is_tree_err (h : shD D = true) (hl : ∀ a ts, D = .tuple [a, .tuple ts] → ts.length < 64) (w : ¬ Web D) : S_is_tree [D] = .err "NoWeb" := by
  have c := check_web_err h hl w
  refine run_err (g := g_is_tree) ?_
  show g_is_tree [some (.v D)] = _
  unfold g_is_tree
  simp [c]
theorem is_tree_eq (w : WebOk m ps) (hz : ps.length < 64) : S_is_tree [webD m ps] = .ok (.bool (trB m ps), none) := by
  have c := web_chk w hz
  have t := tree_like_eq (m := m) (ps := ps)
  refine run_rt (g := g_is_tree) (δ := [some (.v (webD m ps))]) ?_ rfl
  show g_is_tree [some (.v (webD m ps))] = _
  unfold g_is_tree
  generalize webD m ps = wb at *
  simp [c, t]
theorem check_tree_web (h : shD D = true) (hl : ∀ a ts, D = .tuple [a, .tuple ts] → ts.length < 64) (w : ¬ Web D) : S_check_tree [D] = .err "NoWeb" := by
  have c := check_web_err h hl w
  refine run_err (g := g_check_tree) ?_
  show g_check_tree [some (.v D)] = _
  unfold g_check_tree
  simp [c]
theorem check_tree_no (w : WebOk m ps) (hz : ps.length < 64) (ht : trB m ps = false) : S_check_tree [webD m ps] = .err "NoTree" := by
  have c := web_chk w hz
  have t := tree_like_eq (m := m) (ps := ps)
  rw [ht] at t
  refine run_err (g := g_check_tree) ?_
  show g_check_tree [some (.v (webD m ps))] = _
  unfold g_check_tree
  generalize webD m ps = wb at *
  simp [c, t]
theorem check_tree_ok (w : WebOk m ps) (hz : ps.length < 64) (ht : trB m ps = true) : S_check_tree [webD m ps] = .ok (.none, none) := by
  have c := web_chk w hz
  have t := tree_like_eq (m := m) (ps := ps)
  rw [ht] at t
  refine run_nx (g := g_check_tree) (δ := [some (.v (webD m ps))]) ?_ rfl
  show g_check_tree [some (.v (webD m ps))] = _
  unfold g_check_tree
  generalize webD m ps = wb at *
  simp [c, t]
theorem way_err {z : Str} (h : S_check_tree [D] = .err z) : S_way [D, a, b] = .err z := by
  refine run_err (g := g_way) ?_
  show g_way [some (.v D), some (.v a), some (.v b)] = _
  unfold g_way
  simp [h]
theorem way_no {m : Nat} {ps : Ts} (h : S_check_tree [webD m ps] = .ok (.none, none)) (ha : shD a = true) (hb : shD b = true) (hp : plB m a = false ∨ plB m b = false) : S_way [webD m ps, a, b] = .err "NoPlace" := by
  refine run_err (g := g_way) ?_
  show g_way [some (.v (webD m ps)), some (.v a), some (.v b)] = _
  unfold g_way
  cases h1 : plB m a with
  | false =>
    have q := check_place_err (ps := ps) ha h1
    generalize webD m ps = wb at *
    simp [h, q]
  | true =>
    have q := check_place_ok (ps := ps) ha h1
    have q2 := check_place_err (ps := ps) hb (hp.resolve_left (by rw [h1]; exact nofun))
    generalize webD m ps = wb at *
    simp [h, q, q2]
theorem way_ok {r : PyData} (h : S_check_tree [D] = .ok (.none, none)) (ha : S_check_place [D, a] = .ok (.none, none)) (hb : S_check_place [D, b] = .ok (.none, none)) (k : S_way_of [D, a, b] = .ok (r, none)) : S_way [D, a, b] = .ok (r, none) := by
  refine run_rt (g := g_way) (δ := [some (.v D), some (.v a), some (.v b)]) ?_ rfl
  show g_way [some (.v D), some (.v a), some (.v b)] = _
  unfold g_way
  simp [h, ha, hb, k]
theorem tied_err {z : Str} (h : S_check_tree [D] = .err z) : S_check_tied [D, a, b] = .err z := by
  refine run_err (g := g_check_tied) ?_
  show g_check_tied [some (.v D), some (.v a), some (.v b)] = _
  unfold g_check_tied
  simp [h]
theorem tied_place {m : Nat} {ps : Ts} (h : S_check_tree [webD m ps] = .ok (.none, none)) (ha : shD a = true) (hb : shD b = true) (hp : plB m a = false ∨ plB m b = false) : S_check_tied [webD m ps, a, b] = .err "NoPlace" := by
  refine run_err (g := g_check_tied) ?_
  show g_check_tied [some (.v (webD m ps)), some (.v a), some (.v b)] = _
  unfold g_check_tied
  cases h1 : plB m a with
  | false =>
    have q := check_place_err (ps := ps) ha h1
    generalize webD m ps = wb at *
    simp [h, q]
  | true =>
    have q := check_place_ok (ps := ps) ha h1
    have q2 := check_place_err (ps := ps) hb (hp.resolve_left (by rw [h1]; exact nofun))
    generalize webD m ps = wb at *
    simp [h, q, q2]
theorem tied_no (h : S_check_tree [D] = .ok (.none, none)) (ha : S_check_place [D, a] = .ok (.none, none)) (hb : S_check_place [D, b] = .ok (.none, none)) (k : S_are_tied [D, a, b] = .ok (.bool false, none)) : S_check_tied [D, a, b] = .err "NoTie" := by
  refine run_err (g := g_check_tied) ?_
  show g_check_tied [some (.v D), some (.v a), some (.v b)] = _
  unfold g_check_tied
  simp [h, ha, hb, k]
theorem tied_ok (h : S_check_tree [D] = .ok (.none, none)) (ha : S_check_place [D, a] = .ok (.none, none)) (hb : S_check_place [D, b] = .ok (.none, none)) (k : S_are_tied [D, a, b] = .ok (.bool true, none)) : S_check_tied [D, a, b] = .ok (.none, none) := by
  refine run_nx (g := g_check_tied) (δ := [some (.v D), some (.v a), some (.v b)]) ?_ rfl
  show g_check_tied [some (.v D), some (.v a), some (.v b)] = _
  unfold g_check_tied
  simp [h, ha, hb, k]
theorem part_err {z : Str} (h : S_check_tied [D, a, b] = .err z) : S_part [D, a, b] = .err z := by
  refine run_err (g := g_part) ?_
  show g_part [some (.v D), some (.v a), some (.v b)] = _
  unfold g_part
  simp [h]
theorem part_ok {r : PyData} (h : S_check_tied [D, a, b] = .ok (.none, none)) (k : S_part_of [D, a, b] = .ok (r, none)) : S_part [D, a, b] = .ok (r, none) := by
  refine run_rt (g := g_part) (δ := [some (.v D), some (.v a), some (.v b)]) ?_ rfl
  show g_part [some (.v D), some (.v a), some (.v b)] = _
  unfold g_part
  simp [h, k]
end
end Kc

set_option maxRecDepth 100000
set_option maxHeartbeats 3900000
/-! ## M32. fractions -/
namespace Pw
open PySem L2
theorem gcd_wh {t : Dv → Rs (Bool × Dv)} {g : Dv → Rs (Fl × Dv)} {st : Nat → Nat → Dv} (ht : ∀ a b, t (st a b) = .ok (decide (b ≠ 0), st a b)) (hg : ∀ a b, 0 < b → g (st a b) = .ok (.nx, st b (a % b))) :
    ∀ (k a b n : Nat), b < 2 ^ k → 2 * k + 1 ≤ n → whN t g n (st a b) = .ok (.nx, st (Nat.gcd a b) 0)
  | 0, a, b, n, hb, hn => by
    (obtain ⟨n, rfl⟩ : ∃ m, n = m + 1 := ⟨n - 1, by omega⟩)
    have : b = 0 := by omega
    subst this
    rw [whN, ht, Nat.gcd_zero_right]
    rfl
  | k + 1, a, b, n, hb, hn => by
    obtain ⟨n, rfl⟩ : ∃ m, n = m + 2 := ⟨n - 2, by omega⟩
    by_cases h0 : b = 0
    · subst h0
      rw [whN, ht, Nat.gcd_zero_right]
      rfl
    · have hp : 0 < b := by omega
      rw [whN, ht, decide_eq_true h0]
      simp only [Rs.bind_ok, if_true, hg a b hp]
      have e1 : Nat.gcd a b = Nat.gcd b (a % b) := by rw [Nat.gcd_comm a b, Nat.gcd_rec b a, Nat.gcd_comm]
      by_cases h1 : a % b = 0
      · rw [e1, h1, Nat.gcd_zero_right]
        show whN t g (n + 1) (st b 0) = _
        rw [whN, ht]
        rfl
      · have hr : 0 < a % b := by omega
        have rb : a % b < b := Nat.mod_lt _ hp
        show whN t g (n + 1) (st b (a % b)) = _
        rw [whN, ht, decide_eq_true h1]
        simp only [Rs.bind_ok, if_true, hg b (a % b) hr]
        have e2 : Nat.gcd b (a % b) = Nat.gcd (a % b) (b % (a % b)) := by rw [Nat.gcd_comm b, Nat.gcd_rec (a % b) b, Nat.gcd_comm]
        rw [e1, e2]
        refine gcd_wh ht hg k _ _ n ?_ (by omega)
        have h3 : b % (a % b) < a % b := Nat.mod_lt _ hr
        have h4 : b % (a % b) + a % b ≤ b := by
          have := Nat.mod_add_div b (a % b)
          have h5 : 0 < b / (a % b) := Nat.div_pos (by omega) hr
          have h6 : a % b * 1 ≤ a % b * (b / (a % b)) := Nat.mul_le_mul (Nat.le_refl _) h5
          omega
        rw [Nat.pow_succ] at hb
        omega
theorem oGt_zero (b : Nat) : oGt (.int (b : Int)) (.int 0) = some (.bool (decide (b ≠ 0))) := by
  rw [oGt_int]
  congr 2
  (exact decide_eq_decide.mpr (by omega))
def parR (o : Option Dv) : Rs (Fl × Dv) := match o with
  | some d => .ok (.nx, d)
  | none => .bad
@[simp] theorem parR_some (d : Dv) : parR (some d) = .ok (.nx, d) := (rfl)
@[simp] theorem ev_par {is : List Nat} {ga : Dv → Rs (List PyData × Dv)} {δ : Dv} : gPar is ga δ = (ga δ).bind fun x => parR (setsN is x.1 x.2) := (rfl)
@[simp] theorem setsN_nil (δ : Dv) : setsN [] [] δ = some δ := (rfl)
@[simp] theorem setsN_cons (i : Nat) (is : List Nat) (d : PyData) (ds : List PyData) (δ : Dv) : setsN (i :: is) (d :: ds) δ = if freeB δ[i]? = true then setsN is ds (δ.set i (some (.v d))) else none := by
  show (if Free δ i then _ else none) = _
  by_cases h : freeB δ[i]? = true
  · rw [if_pos h, if_pos (free_iff.mpr h)]
  · rw [if_neg h, if_neg fun z => h (free_iff.mp z)]
theorem abs_int (i : Int) : oAbs (.int i) = some (.int (i.natAbs : Int)) := by
  show some (PyData.int (if i < 0 then -i else i)) = _
  congr 2
  split <;> omega
theorem log_nat {n k : Nat} (h : n < 2 ^ k) (hk : 1 ≤ k) : n.log2 < k := by
  by_cases h0 : n = 0
  · rw [h0]
    show 0 < k
    omega
  · (exact (Nat.log2_lt h0).mpr h)
end Pw
namespace Gr
/-- in lowest terms -/
def rd (t : Int) (n : Nat) : Int × Int := (t / (Nat.gcd t.natAbs n : Int), (n : Int) / (Nat.gcd t.natAbs n : Int))
theorem gcd_pos' {t : Int} {n : Nat} (hn : 0 < n) : 0 < Nat.gcd t.natAbs n := Nat.gcd_pos_of_pos_right _ hn
theorem dvd_top (t : Int) (n : Nat) : (Nat.gcd t.natAbs n : Int) ∣ t := Int.ofNat_dvd_left.mpr (Nat.gcd_dvd_left _ _)
theorem dvd_bot (t : Int) (n : Nat) : (Nat.gcd t.natAbs n : Int) ∣ (n : Int) := Int.natCast_dvd_natCast.mpr (Nat.gcd_dvd_right _ _)
theorem rd_top (t : Int) (n : Nat) : (rd t n).1 * (Nat.gcd t.natAbs n : Int) = t := Int.ediv_mul_cancel (dvd_top t n)
theorem rd_bot (t : Int) (n : Nat) : (rd t n).2 * (Nat.gcd t.natAbs n : Int) = n := Int.ediv_mul_cancel (dvd_bot t n)
theorem rd_pos (t : Int) {n : Nat} (hn : 0 < n) : 0 < (rd t n).2 := by
  have h1 := rd_bot t n
  have h2 : (0 : Int) < (Nat.gcd t.natAbs n : Int) := by exact_mod_cast gcd_pos' hn
  by_cases h : 0 < (rd t n).2
  · exact h
  · have : (rd t n).2 * (Nat.gcd t.natAbs n : Int) ≤ 0 := Int.mul_nonpos_of_nonpos_of_nonneg (by omega) (by omega)
    omega
theorem rd_le (t : Int) {n : Nat} (hn : 0 < n) : (rd t n).2 ≤ n := by
  have h1 := rd_bot t n
  have h2 : (1 : Int) ≤ (Nat.gcd t.natAbs n : Int) := by have := gcd_pos' (t := t) hn; omega
  have h3 := rd_pos t hn
  have : (rd t n).2 * 1 ≤ (rd t n).2 * (Nat.gcd t.natAbs n : Int) := Int.mul_le_mul_of_nonneg_left h2 (by omega)
  omega
theorem rd_abs (t : Int) {n : Nat} (hn : 0 < n) : (rd t n).1.natAbs ≤ t.natAbs := by
  have h1 := congrArg Int.natAbs (rd_top t n)
  rw [Int.natAbs_mul, Int.natAbs_natCast] at h1
  have h2 := gcd_pos' (t := t) hn
  have : (rd t n).1.natAbs * 1 ≤ (rd t n).1.natAbs * Nat.gcd t.natAbs n := Nat.mul_le_mul (Nat.le_refl _) h2
  omega
theorem rd_cross (t : Int) (n : Nat) : (rd t n).1 * (n : Int) = t * (rd t n).2 := by
  have h1 := rd_top t n
  have h2 := rd_bot t n
  have : (rd t n).1 * ((rd t n).2 * (Nat.gcd t.natAbs n : Int)) = (rd t n).1 * (Nat.gcd t.natAbs n : Int) * (rd t n).2 := by
    rw [Int.mul_assoc, Int.mul_comm (rd t n).2]
  rw [h2, h1] at this
  exact this
theorem rd_mul (t : Int) (n : Nat) {k : Nat} (hk : 0 < k) : rd (t * k) (n * k) = rd t n := by
  have e : Nat.gcd (t * (k : Int)).natAbs (n * k) = Nat.gcd t.natAbs n * k := by
    rw [Int.natAbs_mul, Int.natAbs_natCast, Nat.gcd_mul_right]
  have hk' : (0 : Int) < k := by omega
  unfold rd
  rw [e, Int.natCast_mul, Int.natCast_mul]
  refine Prod.ext ?_ ?_
  · show t * (k : Int) / ((Nat.gcd t.natAbs n : Int) * (k : Int)) = t / (Nat.gcd t.natAbs n : Int)
    exact Int.mul_ediv_mul_of_pos_left _ _ hk'
  · show (n : Int) * (k : Int) / ((Nat.gcd t.natAbs n : Int) * (k : Int)) = (n : Int) / (Nat.gcd t.natAbs n : Int)
    exact Int.mul_ediv_mul_of_pos_left _ _ hk'
theorem rd_eq {t s : Int} {n m : Nat} (hn : 0 < n) (hm : 0 < m) (h : t * m = s * n) : rd t n = rd s m := by
  rw [← rd_mul t n hm, ← rd_mul s m hn, h, Nat.mul_comm]
theorem rd_one (t : Int) : rd t 1 = (t, 1) := by
  unfold rd
  rw [Nat.gcd_one_right]
  simp
end Gr

set_option maxRecDepth 100000
set_option maxHeartbeats 3900000
/-! ## M33. what is reckoned with fractions -/
namespace Kc
open PySem L2 Pw Gr
theorem big_mul {i j : Int} {a b : Nat} (hi : i.natAbs < 2 ^ a) (hj : j.natAbs < 2 ^ b) (ha : 1 ≤ a) (hb : 1 ≤ b) (h : a + b ≤ 100000) : oMul (.int i) (.int j) = some (.int (i * j)) := by
  have := log_nat hi ha
  have := log_nat hj hb
  rw [oMul_int, oMulI_int, if_pos (by omega)]
theorem common_eq {a b : Nat} (hb : b < 2 ^ 2900) : S_common [.int a, .int b] = .ok (.int (Nat.gcd a b : Nat), none) := by
  have w := gcd_wh (t := fT (f2 oGt (fVar 1) (fC (.int 0)))) (g := gPar [0, 1] (aCons (fVar 1) (aCons (f2 oMod (fVar 0) (fVar 1)) aNil))) (st := fun a b => [some (.v (.int (a : Int))), some (.v (.int (b : Int)))]) (fun a b => by
    have := oGt_zero b
    simp [-oGt_int, this]) (fun a b hb => by
    have : (0 : Int) < (b : Int) := by omega
    simp [this, hb]) 2900 a b 6000 hb (by decide)
  refine run_rt (g := g_common) (δ := [some (.v (.int (Nat.gcd a b : Nat))), some (.v (.int ((0 : Nat) : Int)))]) ?_ rfl
  show g_common [some (.v (.int a)), some (.v (.int b))] = _
  unfold g_common
  refine sq w ?_
  simp
theorem made_eq {t : Int} {n : Nat} (hn : 0 < n) (hb : n < 2 ^ 2900) : S_made [.int t, .int n] = .ok (pairD (rd t n), none) := by
  have c := common_eq (a := t.natAbs) hb
  have gp := gcd_pos' (t := t) hn
  have gl : (Nat.gcd t.natAbs n).log2 < 9000 := by
    have h1 : Nat.gcd t.natAbs n ≤ n := Nat.gcd_le_right _ hn
    have := log_nat (n := Nat.gcd t.natAbs n) (k := 2900) (by omega) (by decide)
    omega
  have ab := abs_int t
  refine run_rt (g := g_made) (δ := [some (.v (.int t)), some (.v (.int n)), some (.v (.int (Nat.gcd t.natAbs n : Nat)))]) ?_ rfl
  show g_made [some (.v (.int t)), some (.v (.int n)), none] = _
  have n0 : ¬ ((n : Int) < 0) := by omega
  have d1 : ∀ x : Int, oDiv (.int x) (.int (Nat.gcd t.natAbs n : Nat)) = some (.int (x / (Nat.gcd t.natAbs n : Nat))) := fun x => by
    rw [oDiv_int, if_pos ⟨by omega, by rw [Int.natAbs_natCast]; exact gl⟩]
  unfold pairD rd
  generalize Nat.gcd t.natAbs n = gg at *
  generalize t.natAbs = at_ at *
  unfold g_made
  simp [-oDiv_int, n0, ab, c, d1, PySem.sizeLine_eq]
theorem lfr_eq {t : Int} {n : Nat} (hn : 0 < n) (hb : n < 2 ^ 2900) : S__law_fr [.int t, .int n] = .ok (pairD (rd t n), none) := by
  have gp := gcd_pos' (t := t) hn
  have gl : (Nat.gcd t.natAbs n).log2 < 9000 := by
    have h1 : Nat.gcd t.natAbs n ≤ n := Nat.gcd_le_right _ hn
    have := log_nat (n := Nat.gcd t.natAbs n) (k := 2900) (by omega) (by decide)
    omega
  have ab := abs_int t
  have ab2 := abs_int (n : Int)
  rw [Int.natAbs_natCast] at ab2
  have w := gcd_wh (t := fT (f2 oNe (fVar 3) (fC (.int 0)))) (g := gPar [2, 3] (aCons (fVar 3) (aCons (f2 oMod (fVar 2) (fVar 3)) aNil))) (st := fun a b => [some (.v (.int t)), some (.v (.int n)), some (.v (.int (a : Int))), some (.v (.int (b : Int)))]) (fun a b => by
    have : oNe (.int (b : Int)) (.int 0) = some (.bool (decide (b ≠ 0))) := by
      rw [oNe_int]
      congr 2
      rw [← decide_not]
      (exact decide_eq_decide.mpr (by omega))
    simp [this]) (fun a b hb => by
    have : (0 : Int) < (b : Int) := by omega
    simp [this, hb]) 2900 t.natAbs n 6000 hb (by decide)
  have n0 : ¬ ((n : Int) < 0) := by omega
  have d1 : ∀ x : Int, oDiv (.int x) (.int (Nat.gcd t.natAbs n : Nat)) = some (.int (x / (Nat.gcd t.natAbs n : Nat))) := fun x => by
    rw [oDiv_int, if_pos ⟨by omega, by rw [Int.natAbs_natCast]; exact gl⟩]
  refine run_rt (g := g__law_fr) (δ := [some (.v (.int t)), some (.v (.int n)), some (.v (.int (Nat.gcd t.natAbs n : Nat))), some (.v (.int ((0 : Nat) : Int)))]) ?_ rfl
  show g__law_fr [some (.v (.int t)), some (.v (.int n)), none, none] = _
  unfold g__law_fr
  refine sq (δ1 := [some (.v (.int t)), some (.v (.int n)), some (.v (.int (t.natAbs : Nat))), some (.v (.int (n : Nat)))]) (by
    generalize t.natAbs = at_ at *
    simp [ab, ab2]) ?_
  refine sq w ?_
  unfold pairD rd
  generalize Nat.gcd t.natAbs n = gg at *
  simp [-oDiv_int, n0, d1, PySem.sizeLine_eq]
/-- a fraction of modest size -/
structure Md (t : Int) (n : Nat) : Prop where
  pos : 0 < n
  top : t.natAbs < 2 ^ 1400
  bot : n < 2 ^ 1400
theorem Md.b {t : Int} {n : Nat} (h : Md t n) : ∃ q : Nat, (rd t n).2 = q ∧ 0 < q ∧ q ≤ n ∧ q < 2 ^ 1400 := by
  have h1 := rd_pos t h.pos
  have h2 := rd_le t h.pos
  have h3 := h.bot
  exact ⟨(rd t n).2.toNat, by omega, by omega, by omega, by omega⟩
theorem Md.a {t : Int} {n : Nat} (h : Md t n) : (rd t n).1.natAbs < 2 ^ 1400 := by
  have := rd_abs t h.pos
  have := h.top
  omega
theorem lt_mul {a b k l : Nat} (ha : a < 2 ^ k) (hb : b < 2 ^ l) : a * b < 2 ^ (k + l) := by
  rw [Nat.pow_add]
  exact Nat.mul_lt_mul'' ha hb
theorem pr_at (p : Int × Int) : atI [PyData.int p.1, .int p.2] (0 : Int) = some (.int p.1) ∧ atI [PyData.int p.1, .int p.2] (1 : Int) = some (.int p.2) := ⟨by simp [atI, ixN], by simp [atI, ixN]⟩
section
variable {t s : Int} {n m : Nat}
theorem cross_plus (t s : Int) (n m : Nat) : ((rd t n).1 * (rd s m).2 + (rd s m).1 * (rd t n).2) * ((n : Int) * m) = (t * m + s * n) * ((rd t n).2 * (rd s m).2) := by
  have c1 := rd_cross t n
  have c2 := rd_cross s m
  generalize (rd t n).1 = p at *
  generalize (rd t n).2 = q at *
  generalize (rd s m).1 = p' at *
  generalize (rd s m).2 = q' at *
  have e1 : (p * q' + p' * q) * ((n : Int) * m) = (p * n) * (q' * m) + (p' * m) * (q * n) := by
    rw [Int.add_mul]
    congr 1
    · simp only [Int.mul_assoc, Int.mul_left_comm, Int.mul_comm]
    · simp only [Int.mul_assoc, Int.mul_left_comm, Int.mul_comm]
  have e2 : (t * m + s * n) * (q * q') = (t * q) * (q' * m) + (s * q') * (q * n) := by
    rw [Int.add_mul]
    congr 1
    · simp only [Int.mul_assoc, Int.mul_left_comm, Int.mul_comm]
    · simp only [Int.mul_assoc, Int.mul_left_comm, Int.mul_comm]
  rw [e1, e2, c1, c2]
theorem plus_vals (h : Md t n) (k : Md s m) : ∃ (tp : Int) (bt : Nat), oMul (.int (rd t n).1) (.int (rd s m).2) = some (.int ((rd t n).1 * (rd s m).2)) ∧ oMul (.int (rd s m).1) (.int (rd t n).2) = some (.int ((rd s m).1 * (rd t n).2)) ∧
    oMul (.int (rd t n).2) (.int (rd s m).2) = some (.int (bt : Int)) ∧ tp = (rd t n).1 * (rd s m).2 + (rd s m).1 * (rd t n).2 ∧ 0 < bt ∧ bt < 2 ^ 2900 ∧ rd tp bt = rd (t * m + s * n) (n * m) := by
  obtain ⟨q, e1, q0, qn, ql⟩ := h.b
  obtain ⟨q', e2, q0', qm, ql'⟩ := k.b
  have a1 := h.a
  have a2 := k.a
  have bq : ((q : Int)).natAbs < 2 ^ 1400 := by rw [Int.natAbs_natCast]; exact ql
  have bq' : ((q' : Int)).natAbs < 2 ^ 1400 := by rw [Int.natAbs_natCast]; exact ql'
  have cr := cross_plus t s n m
  rw [e1, e2] at cr ⊢
  refine ⟨_, q * q', big_mul a1 bq' (by decide) (by decide) (by decide), big_mul a2 bq (by decide) (by decide) (by decide), ?_, rfl, Nat.mul_pos q0 q0', ?_, ?_⟩
  · rw [big_mul bq bq' (by decide) (by decide) (by decide), Int.natCast_mul]
  · exact Nat.lt_of_lt_of_le (lt_mul ql ql') (Nat.pow_le_pow_right (by decide) (by decide))
  · refine rd_eq (Nat.mul_pos q0 q0') (Nat.mul_pos h.pos k.pos) ?_
    rw [Int.natCast_mul, Int.natCast_mul]
    exact cr
theorem plus_eq (h : Md t n) (k : Md s m) : S_plus [pairD (rd t n), pairD (rd s m)] = .ok (pairD (rd (t * m + s * n) (n * m)), none) := by
  obtain ⟨tp, bt, m1, m2, m3, e, b0, b1, er⟩ := plus_vals h k
  have md := made_eq (t := tp) b0 b1
  rw [er, e] at md
  obtain ⟨x0, x1⟩ := pr_at (rd t n)
  obtain ⟨y0, y1⟩ := pr_at (rd s m)
  refine run_rt (g := g_plus) (δ := [some (.v (pairD (rd t n))), some (.v (pairD (rd s m)))]) ?_ rfl
  show g_plus [some (.v (pairD (rd t n))), some (.v (pairD (rd s m)))] = _
  unfold g_plus
  generalize pairD (rd (t * ↑m + s * ↑n) (n * m)) = res at *
  unfold pairD
  simp [-oMul_int, x0, x1, y0, y1, m1, m2, m3, md]
theorem lplus_eq (h : Md t n) (k : Md s m) : S__law_plus [pairD (rd t n), pairD (rd s m)] = .ok (pairD (rd (t * m + s * n) (n * m)), none) := by
  obtain ⟨tp, bt, m1, m2, m3, e, b0, b1, er⟩ := plus_vals h k
  have md := lfr_eq (t := tp) b0 b1
  rw [er, e] at md
  obtain ⟨x0, x1⟩ := pr_at (rd t n)
  obtain ⟨y0, y1⟩ := pr_at (rd s m)
  refine run_rt (g := g__law_plus) (δ := [some (.v (pairD (rd t n))), some (.v (pairD (rd s m)))]) ?_ rfl
  show g__law_plus [some (.v (pairD (rd t n))), some (.v (pairD (rd s m)))] = _
  unfold g__law_plus
  generalize pairD (rd (t * ↑m + s * ↑n) (n * m)) = res at *
  unfold pairD
  simp [-oMul_int, x0, x1, y0, y1, m1, m2, m3, md]
/-- by one of so many -/
theorem times_vals (h : Md t n) {d : Nat} (d0 : 0 < d) (d1 : d < 2 ^ 1400) : ∃ bt : Nat, oMul (.int (rd t n).1) (.int 1) = some (.int (rd t n).1) ∧ oMul (.int (rd t n).2) (.int (d : Int)) = some (.int (bt : Int)) ∧ 0 < bt ∧ bt < 2 ^ 2900 ∧ rd (rd t n).1 bt = rd t (n * d) := by
  obtain ⟨q, e1, q0, qn, ql⟩ := h.b
  have a1 := h.a
  have bq : ((q : Int)).natAbs < 2 ^ 1400 := by rw [Int.natAbs_natCast]; exact ql
  have bd : ((d : Int)).natAbs < 2 ^ 1400 := by rw [Int.natAbs_natCast]; exact d1
  have cr := rd_cross t n
  rw [e1] at cr ⊢
  refine ⟨q * d, ?_, ?_, Nat.mul_pos q0 d0, Nat.lt_of_lt_of_le (lt_mul ql d1) (Nat.pow_le_pow_right (by decide) (by decide)), ?_⟩
  · rw [big_mul a1 (b := 1) (by decide) (by decide) (by decide) (by decide), Int.mul_one]
  · rw [big_mul bq bd (by decide) (by decide) (by decide), Int.natCast_mul]
  · refine rd_eq (Nat.mul_pos q0 d0) (Nat.mul_pos h.pos d0) ?_
    rw [Int.natCast_mul, Int.natCast_mul, ← Int.mul_assoc, cr, Int.mul_assoc]
theorem times_eq (h : Md t n) {d : Nat} (d0 : 0 < d) (d1 : d < 2 ^ 1400) : S_times [pairD (rd t n), .tuple [.int 1, .int d]] = .ok (pairD (rd t (n * d)), none) := by
  obtain ⟨bt, m1, m2, b0, b1, er⟩ := times_vals h d0 d1
  have md := made_eq (t := (rd t n).1) b0 b1
  rw [er] at md
  obtain ⟨x0, x1⟩ := pr_at (rd t n)
  obtain ⟨y0, y1⟩ := pr_at (1, (d : Int))
  refine run_rt (g := g_times) (δ := [some (.v (pairD (rd t n))), some (.v (.tuple [.int 1, .int d]))]) ?_ rfl
  show g_times [some (.v (pairD (rd t n))), some (.v (.tuple [.int 1, .int d]))] = _
  unfold g_times
  generalize pairD (rd t (n * d)) = res at *
  unfold pairD
  simp [-oMul_int, x0, x1, y0, y1, m1, m2, md]
theorem ltimes_eq (h : Md t n) {d : Nat} (d0 : 0 < d) (d1 : d < 2 ^ 1400) : S__law_times [pairD (rd t n), .tuple [.int 1, .int d]] = .ok (pairD (rd t (n * d)), none) := by
  obtain ⟨bt, m1, m2, b0, b1, er⟩ := times_vals h d0 d1
  have md := lfr_eq (t := (rd t n).1) b0 b1
  rw [er] at md
  obtain ⟨x0, x1⟩ := pr_at (rd t n)
  obtain ⟨y0, y1⟩ := pr_at (1, (d : Int))
  refine run_rt (g := g__law_times) (δ := [some (.v (pairD (rd t n))), some (.v (.tuple [.int 1, .int d]))]) ?_ rfl
  show g__law_times [some (.v (pairD (rd t n))), some (.v (.tuple [.int 1, .int d]))] = _
  unfold g__law_times
  generalize pairD (rd t (n * d)) = res at *
  unfold pairD
  simp [-oMul_int, x0, x1, y0, y1, m1, m2, md]
end
def sumI : List Int → Int
  | [] => 0
  | x :: r => x + sumI r
theorem plus_same {t s : Int} {n : Nat} (hn : 0 < n) : rd (t * n + s * n) (n * n) = rd (t + s) n := by
  rw [← Int.add_mul, rd_mul _ _ hn]
/-- the sum of fractions over one bottom -/
theorem total_eq {n : Nat} (hn : 0 < n) (hb : n < 2 ^ 1400) {ts : List Int} (hs : ∀ k, (sumI (ts.take k)).natAbs < 2 ^ 1400) (hh : ∀ t ∈ ts, t.natAbs < 2 ^ 1400) {td : PyData} (htd : seqOf td = some (ts.map fun t => pairD (rd t n))) : S_total [td] = .ok (pairD (rd (sumI ts) n), none) ∧ S__law_total [td] = .ok (pairD (rd (sumI ts) n), none) := by
  have two : (2 : Nat) ^ 1400 > 1 := Nat.one_lt_two_pow (by decide)
  have run : ∀ (S : Sm) (hS : ∀ {t s : Int} {n m : Nat}, Md t n → Md s m → S [pairD (rd t n), pairD (rd s m)] = .ok (pairD (rd (t * m + s * n) (n * m)), none)), ∀ (us : List Int) (acc : Int) (x2 : Option SV), (∀ k, (acc + sumI (us.take k)).natAbs < 2 ^ 1400) → (∀ t ∈ us, t.natAbs < 2 ^ 1400) → isV x2 = true →
      ∃ x2', forN (bName 2) (gSet 1 (fCall S (aCons (fVar 1) (aCons (fVar 2) aNil)))) (us.map fun t => pairD (rd t n)) [some (.v td), some (.v (pairD (rd acc n))), x2] = .ok (.nx, [some (.v td), some (.v (pairD (rd (acc + sumI us) n))), x2']) ∧ isV x2' = true := fun S hS us => by
    induction us with
    | nil =>
      intro acc x2 _ _ v2
      refine ⟨x2, ?_, v2⟩
      rw [sumI, Int.add_zero]
      rfl
    | cons t r ih =>
      intro acc x2 hk hm v2
      have f2 := isV_free v2
      have h0 := hk 0
      rw [List.take_zero, sumI, Int.add_zero] at h0
      have pl := hS (⟨hn, h0, hb⟩ : Md acc n) (⟨hn, hm t List.mem_cons_self, hb⟩ : Md t n)
      rw [plus_same hn] at pl
      obtain ⟨x2', g1, g2⟩ := ih (acc + t) (some (.v (pairD (rd t n)))) (fun k => by
        have := hk (k + 1)
        rw [List.take_succ_cons, sumI, ← Int.add_assoc] at this
        exact this) (fun z hz => hm z (List.mem_cons_of_mem _ hz)) rfl
      refine ⟨x2', ?_, g2⟩
      rw [sumI, ← Int.add_assoc]
      rw [List.map_cons, forN]
      have b1 : bName 2 (pairD (rd t n)) [some (.v td), some (.v (pairD (rd acc n))), x2] = some [some (.v td), some (.v (pairD (rd acc n))), some (.v (pairD (rd t n)))] := by
        generalize pairD (rd t n) = d1
        generalize pairD (rd acc n) = d2
        simp [f2]
      have st : (gSet 1 (fCall S (aCons (fVar 1) (aCons (fVar 2) aNil)))) [some (.v td), some (.v (pairD (rd acc n))), some (.v (pairD (rd t n)))] = .ok (.nx, [some (.v td), some (.v (pairD (rd (acc + t) n))), some (.v (pairD (rd t n)))]) := by
        generalize pairD (rd (acc + t) n) = d3 at *
        generalize pairD (rd t n) = d1 at *
        generalize pairD (rd acc n) = d2 at *
        simp [pl]
      rw [b1]
      simp only [st, Rs.bind_ok]
      exact g1
  have z0 : pairD (rd 0 n) = .tuple [.int 0, .int 1] := by
    have : rd 0 n = (0, 1) := by
      rw [← rd_one 0]
      exact rd_eq hn (by decide) (by simp)
    rw [this]
    rfl
  have hs' : ∀ k, (0 + sumI (ts.take k)).natAbs < 2 ^ 1400 := fun k => by rw [Int.zero_add]; exact hs k
  obtain ⟨x2, g1, _⟩ := run S_plus plus_eq ts 0 none hs' hh rfl
  obtain ⟨y2, g2, _⟩ := run S__law_plus lplus_eq ts 0 none hs' hh rfl
  rw [Int.zero_add, z0] at g1 g2
  constructor
  · refine run_rt (g := g_total) (δ := [some (.v td), some (.v (pairD (rd (sumI ts) n))), x2]) ?_ rfl
    show g_total [some (.v td), none, none] = _
    unfold g_total
    refine sq (δ1 := [some (.v td), some (.v (.tuple [.int 0, .int 1])), none]) (by simp [PySem.sizeLine_eq]) ?_
    refine sq (δ1 := [some (.v td), some (.v (pairD (rd (sumI ts) n))), x2]) ?_ ?_
    · rw [ev_for, ev_wseq, ev_var]
      simp only [List.getElem?_cons_zero, varR_v, Rs.bind_ok, htd, liftL_some]
      exact g1
    · generalize pairD (rd (sumI ts) n) = d1
      simp
  · refine run_rt (g := g__law_total) (δ := [some (.v td), some (.v (pairD (rd (sumI ts) n))), y2]) ?_ rfl
    show g__law_total [some (.v td), none, none] = _
    unfold g__law_total
    refine sq (δ1 := [some (.v td), some (.v (.tuple [.int 0, .int 1])), none]) (by simp [PySem.sizeLine_eq]) ?_
    refine sq (δ1 := [some (.v td), some (.v (pairD (rd (sumI ts) n))), y2]) ?_ ?_
    · rw [ev_for, ev_wseq, ev_var]
      simp only [List.getElem?_cons_zero, varR_v, Rs.bind_ok, htd, liftL_some]
      exact g2
    · generalize pairD (rd (sumI ts) n) = d1
      simp
end Kc

set_option maxRecDepth 100000
set_option maxHeartbeats 3900000
/-! ## M34. steps forth and back: sums over neighbours -/
namespace Gr
open PySem L2 Pw Kc
theorem sumI_append : ∀ l r : List Int, sumI (l ++ r) = sumI l + sumI r
  | [], r => by rw [List.nil_append, sumI, Int.zero_add]
  | x :: l, r => by rw [List.cons_append, sumI, sumI, sumI_append l r, Int.add_assoc]
theorem sumI_add {α : Type} (f g : α → Int) : ∀ l : List α, sumI (l.map fun x => f x + g x) = sumI (l.map f) + sumI (l.map g)
  | [] => rfl
  | x :: l => by
    rw [List.map_cons, List.map_cons, List.map_cons, sumI, sumI, sumI, sumI_add f g l]
    omega
theorem sumI_mul {α : Type} (c : Int) (f : α → Int) : ∀ l : List α, sumI (l.map fun x => f x * c) = sumI (l.map f) * c
  | [] => by simp [sumI]
  | x :: l => by
    rw [List.map_cons, List.map_cons, sumI, sumI, sumI_mul c f l, Int.add_mul]
theorem sumI_zero {α : Type} : ∀ l : List α, sumI (l.map fun _ => 0) = 0
  | [] => rfl
  | x :: l => by rw [List.map_cons, sumI, sumI_zero l]; rfl
theorem sumI_swap {α β : Type} (f : α → β → Int) (r : List β) : ∀ l : List α, sumI (l.map fun x => sumI (r.map fun y => f x y)) = sumI (r.map fun y => sumI (l.map fun x => f x y))
  | [] => by
    have : (fun y : β => sumI (([] : List α).map fun x => f x y)) = fun _ => (0 : Int) := rfl
    rw [this, sumI_zero]
    rfl
  | x :: l => by
    rw [List.map_cons, sumI, sumI_swap f r l, ← sumI_add]
    rfl
theorem sumI_filter {α : Type} (p : α → Bool) (f : α → Int) : ∀ l : List α, sumI ((l.filter p).map f) = sumI (l.map fun x => if p x = true then f x else 0)
  | [] => rfl
  | x :: l => by
    cases h : p x with
    | true => rw [List.filter_cons_of_pos h, List.map_cons, List.map_cons, sumI, sumI, sumI_filter p f l, if_pos h]
    | false =>
      rw [List.filter_cons_of_neg (by rw [h]; exact nofun), List.map_cons, sumI, sumI_filter p f l, if_neg (by rw [h]; exact nofun)]
      omega
theorem sumI_congr {α : Type} {f g : α → Int} : ∀ {l : List α}, (∀ x ∈ l, f x = g x) → sumI (l.map f) = sumI (l.map g)
  | [], _ => rfl
  | x :: l, h => by
    rw [List.map_cons, List.map_cons, sumI, sumI, h x List.mem_cons_self, sumI_congr fun y hy => h y (List.mem_cons_of_mem _ hy)]
theorem sumI_bd {B : Int} (hB : 0 ≤ B) : ∀ {l : List Int}, (∀ x ∈ l, 0 ≤ x ∧ x ≤ B) → 0 ≤ sumI l ∧ sumI l ≤ l.length * B
  | [], _ => by simp [sumI]
  | x :: l, h => by
    obtain ⟨h1, h2⟩ := sumI_bd hB (l := l) fun y hy => h y (List.mem_cons_of_mem _ hy)
    have := h x List.mem_cons_self
    rw [sumI, List.length_cons, Int.natCast_add, Int.add_mul]
    have e : ((1 : Nat) : Int) * B = B := by rw [Int.natCast_one, Int.one_mul]
    rw [e]
    omega
/-- a step forth, a step back; c: what each place weighs -/
def fwd (m : Nat) (ps : Ts) (c t : Int → Int) (p : Int) : Int := sumI ((nb m ps p).map fun o => t o * c o)
def bwd (m : Nat) (ps : Ts) (c u : Int → Int) (p : Int) : Int := sumI ((nb m ps p).map fun o => u o) * c p
def dot (m : Nat) (t u : Int → Int) : Int := sumI ((Gr.upTo m).map fun x => t x * u x)
theorem nbB_symm {m : Nat} {ps : Ts} (w : WebOk m ps) (a b : Int) : nbB ps a b = nbB ps b a := by
  have h1 := nbB_adj w a b
  have h2 := nbB_adj w b a
  cases e1 : nbB ps a b with
  | true => exact ((h2.mpr (Adj.symm (h1.mp e1)))).symm
  | false =>
    cases e2 : nbB ps b a with
    | true => rw [h1.mpr (Adj.symm (h2.mp e2))] at e1; cases e1
    | false => rfl
theorem dot_step {m : Nat} {ps : Ts} (w : WebOk m ps) (c t u : Int → Int) : dot m (fwd m ps c t) u = dot m t (bwd m ps c u) := by
  have e1 : ∀ p : Int, fwd m ps c t p * u p = sumI ((Gr.upTo m).map fun o => if nbB ps p o = true then t o * c o * u p else 0) := fun p => by
    unfold fwd nb
    rw [← sumI_mul, sumI_filter]
  have e2 : ∀ o : Int, t o * bwd m ps c u o = sumI ((Gr.upTo m).map fun p => if nbB ps p o = true then t o * c o * u p else 0) := fun o => by
    unfold bwd nb
    have e3 : t o * (sumI (((Gr.upTo m).filter (nbB ps o)).map fun p => u p) * c o) = sumI (((Gr.upTo m).filter (nbB ps o)).map fun p => u p) * (t o * c o) := by
      rw [Int.mul_comm (sumI _) (c o), ← Int.mul_assoc, Int.mul_comm]
    rw [e3, ← sumI_mul, sumI_filter]
    refine sumI_congr fun p _ => ?_
    rw [nbB_symm w o p]
    split
    · rw [Int.mul_comm]
    · rfl
  unfold dot
  rw [sumI_congr (fun p _ => e1 p), sumI_congr (fun o _ => e2 o)]
  exact sumI_swap _ _ _
def itr {α : Type} (f : α → α) : Nat → α → α
  | 0, x => x
  | n + 1, x => itr f n (f x)
theorem dot_itr {m : Nat} {ps : Ts} (w : WebOk m ps) (c : Int → Int) : ∀ (n : Nat) (t u : Int → Int), dot m (itr (fwd m ps c) n t) u = dot m t (itr (bwd m ps c) n u)
  | 0, _, _ => rfl
  | n + 1, t, u => by
    have e : ∀ (k : Nat) (v : Int → Int), itr (bwd m ps c) (k + 1) v = bwd m ps c (itr (bwd m ps c) k v) := fun k => by
      induction k with
      | zero => intro v; rfl
      | succ k ih => intro v; rw [itr, ih, itr]
    rw [itr, dot_itr w c n (fwd m ps c t) u, dot_step w, e]
def ind (a x : Int) : Int := if x = a then 1 else 0
theorem dot_ind {m : Nat} {b : Int} (b0 : 0 ≤ b) (b1 : b < m) (t : Int → Int) : dot m t (ind b) = t b := by
  have key : ∀ l : List Int, l.Nodup → sumI (l.map fun x => t x * ind b x) = if b ∈ l then t b else 0 := fun l => by
    induction l with
    | nil => intro _; rfl
    | cons x r ih =>
      intro hn
      rw [List.nodup_cons] at hn
      rw [List.map_cons, sumI, ih hn.2]
      by_cases e : x = b
      · subst e
        rw [if_neg hn.1, if_pos List.mem_cons_self]
        simp [ind]
      · have : ind b x = 0 := by unfold ind; rw [if_neg e]
        rw [this, Int.mul_zero, Int.zero_add]
        by_cases hb : b ∈ r
        · rw [if_pos hb, if_pos (List.mem_cons_of_mem _ hb)]
        · rw [if_neg hb, if_neg fun z => hb ((List.mem_cons.mp z).resolve_left fun q => e q.symm)]
  unfold dot
  rw [key _ (Gr.nodup_upTo m), if_pos (Gr.mem_upTo.mpr ⟨b0, b1⟩)]
theorem dot_ind' {m : Nat} {b : Int} (b0 : 0 ≤ b) (b1 : b < m) (t : Int → Int) : dot m (ind b) t = t b := by
  rw [← dot_ind b0 b1 t]
  unfold dot
  exact sumI_congr fun x _ => Int.mul_comm _ _
/-- so many steps: forth from a, back from b -/
theorem steps_eq {m : Nat} {ps : Ts} (w : WebOk m ps) (c : Int → Int) (n : Nat) {a b : Int} (a0 : 0 ≤ a) (a1 : a < m) (b0 : 0 ≤ b) (b1 : b < m) : itr (fwd m ps c) n (ind a) b = itr (bwd m ps c) n (ind b) a := by
  rw [← dot_ind b0 b1 (itr (fwd m ps c) n (ind a)), dot_itr w, dot_ind' a0 a1]
/-- bounds -/
theorem fwd_bd {m : Nat} {ps : Ts} {c t : Int → Int} {B : Int} (hm : m ≤ 8) (hB : 0 ≤ B) (hc : ∀ o, 0 ≤ c o ∧ c o ≤ 420) (ht : ∀ o, 0 ≤ t o ∧ t o ≤ B) (p : Int) : 0 ≤ fwd m ps c t p ∧ fwd m ps c t p ≤ 4096 * B := by
  have hB2 : 0 ≤ B * 420 := Int.mul_nonneg hB (by decide)
  obtain ⟨h1, h2⟩ := sumI_bd (B := B * 420) hB2 (l := (nb m ps p).map fun o => t o * c o) fun x hx => by
    obtain ⟨o, _, rfl⟩ := List.mem_map.mp hx
    have a := ht o
    have b := hc o
    refine ⟨Int.mul_nonneg a.1 b.1, ?_⟩
    exact Int.mul_le_mul a.2 b.2 b.1 hB
  have h3 := nb_len m ps p
  rw [List.length_map] at h2
  refine ⟨h1, Int.le_trans h2 ?_⟩
  have h4 : ((nb m ps p).length : Int) * (B * 420) ≤ 8 * (B * 420) := Int.mul_le_mul_of_nonneg_right (by omega) hB2
  omega
theorem bwd_bd {m : Nat} {ps : Ts} {c u : Int → Int} {B : Int} (hm : m ≤ 8) (hB : 0 ≤ B) (hc : ∀ o, 0 ≤ c o ∧ c o ≤ 420) (hu : ∀ o, 0 ≤ u o ∧ u o ≤ B) (p : Int) : 0 ≤ bwd m ps c u p ∧ bwd m ps c u p ≤ 4096 * B := by
  obtain ⟨h1, h2⟩ := sumI_bd (B := B) hB (l := (nb m ps p).map fun o => u o) fun x hx => by
    obtain ⟨o, _, rfl⟩ := List.mem_map.mp hx
    exact hu o
  have h3 := nb_len m ps p
  rw [List.length_map] at h2
  have h4 : ((nb m ps p).length : Int) * B ≤ 8 * B := Int.mul_le_mul_of_nonneg_right (by omega) hB
  have b := hc p
  unfold bwd
  refine ⟨Int.mul_nonneg h1 b.1, ?_⟩
  have h5 : sumI ((nb m ps p).map fun o => u o) * c p ≤ (8 * B) * 420 := Int.mul_le_mul (by omega) b.2 b.1 (by omega)
  omega
theorem itr_bd {f : (Int → Int) → Int → Int} (hf : ∀ (t : Int → Int) (B : Int), 0 ≤ B → (∀ o, 0 ≤ t o ∧ t o ≤ B) → ∀ p, 0 ≤ f t p ∧ f t p ≤ 4096 * B) : ∀ (n : Nat) (t : Int → Int) (k : Nat), (∀ o, 0 ≤ t o ∧ t o ≤ ((4096 ^ k : Nat) : Int)) → ∀ p, 0 ≤ itr f n t p ∧ itr f n t p ≤ ((4096 ^ (k + n) : Nat) : Int)
  | 0, t, k, h, p => h p
  | n + 1, t, k, h, p => by
    have h2 := itr_bd hf n (f t) (k + 1) (fun o => by
      have := hf t _ (Int.natCast_nonneg _) h o
      rw [Nat.pow_succ, Nat.mul_comm, Int.natCast_mul]
      exact this) p
    rw [show k + (n + 1) = k + 1 + n by omega]
    exact h2
theorem ind_bd (a : Int) (o : Int) : 0 ≤ ind a o ∧ ind a o ≤ ((4096 ^ 0 : Nat) : Int) := by
  unfold ind
  split <;> simp
theorem pow_bd {n : Nat} (h : n ≤ 30) : 4096 ^ n ≤ 2 ^ 360 := by
  have : (4096 : Nat) ^ n ≤ 4096 ^ 30 := Nat.pow_le_pow_right (by decide) h
  have e : (4096 : Nat) ^ 30 = 2 ^ 360 := by decide +kernel
  omega
theorem pow420 {n : Nat} (h : n ≤ 31) : 420 ^ n < 2 ^ 300 := by
  have : (420 : Nat) ^ n ≤ 420 ^ 31 := Nat.pow_le_pow_right (by decide) h
  have e : (420 : Nat) ^ 31 < 2 ^ 300 := by decide +kernel
  omega
end Gr

set_option maxRecDepth 100000
set_option maxHeartbeats 3900000
/-! ## M35. a step of shares -/
namespace Kc
open PySem L2 Pw Gr
/-- shares over one bottom -/
def shr (m : Nat) (t : Int → Int) (N : Nat) : List PyData := (Gr.upTo m).map fun x => pairD (rd (t x) N)
theorem shr_at {m : Nat} (t : Int → Int) (N : Nat) {o : Int} (h0 : 0 ≤ o) (h1 : o < m) : atI (shr m t N) o = some (pairD (rd (t o) N)) := by
  obtain ⟨i, rfl⟩ : ∃ i : Nat, o = i := ⟨o.toNat, by omega⟩
  refine atI_nat ?_
  unfold shr
  rw [List.getElem?_map, upTo_get (by omega)]
  rfl
theorem shr_len (m : Nat) (t : Int → Int) (N : Nat) : (shr m t N).length = m := by unfold shr; rw [List.length_map, upTo_len]
/-- how many neighbours, and what a place weighs -/
def dg (m : Nat) (ps : Ts) (o : Int) : Nat := (nb m ps o).length
def wgt (m : Nat) (ps : Ts) (o : Int) : Int := ((420 / dg m ps o : Nat) : Int)
theorem dg_le {m : Nat} {ps : Ts} (w : WebOk m ps) {o : Int} (o0 : 0 ≤ o) (o1 : o < m) : dg m ps o ≤ 7 := by
  have hm := w.hi
  have h := upTo_ne m o o0 o1
  have h2 : (nb m ps o).length ≤ ((Gr.upTo m).filter fun x => decide (x ≠ o)).length := by
    refine nodup_sub (List.Pairwise.filter _ (Gr.nodup_upTo m)) fun x hx => ?_
    have a := (mem_nb w).mp hx
    obtain ⟨_, xb, ne⟩ := adj_bd w a
    exact List.mem_filter.mpr ⟨Gr.mem_upTo.mpr xb, decide_eq_true fun z => ne z.symm⟩
  unfold dg
  omega
theorem dg_pos {m : Nat} {ps : Ts} (w : WebOk m ps) {o : Int} (o0 : 0 ≤ o) (o1 : o < m) : 0 < dg m ps o := by
  have hm := w.lo
  obtain ⟨c, c0, c1, hc⟩ : ∃ c : Int, 0 ≤ c ∧ c < m ∧ o ≠ c := by
    by_cases h : o = 0
    · exact ⟨1, by omega, by omega, by omega⟩
    · exact ⟨0, by omega, by omega, by omega⟩
  obtain ⟨_, _, D, _, _, _, hf, _⟩ := far_both w c0 c1
  obtain ⟨y, hy, _⟩ := hf.nearer w o0 o1 hc
  exact List.length_pos_of_mem ((mem_nb w).mpr hy)
theorem wgt_mul {m : Nat} {ps : Ts} (w : WebOk m ps) {o : Int} (o0 : 0 ≤ o) (o1 : o < m) : wgt m ps o * (dg m ps o : Int) = 420 := by
  have h1 := dg_le w o0 o1
  have h2 := dg_pos w o0 o1
  unfold wgt
  generalize dg m ps o = d at *
  have : d = 1 ∨ d = 2 ∨ d = 3 ∨ d = 4 ∨ d = 5 ∨ d = 6 ∨ d = 7 := by omega
  rcases this with rfl | rfl | rfl | rfl | rfl | rfl | rfl <;> rfl
theorem wgt_bd (m : Nat) (ps : Ts) (o : Int) : 0 ≤ wgt m ps o ∧ wgt m ps o ≤ 420 := by
  unfold wgt
  have := Nat.div_le_self 420 (dg m ps o)
  exact ⟨Int.natCast_nonneg _, by exact_mod_cast this⟩
theorem by_dg {m : Nat} {ps : Ts} (w : WebOk m ps) {o : Int} (o0 : 0 ≤ o) (o1 : o < m) {N : Nat} (hN : 0 < N) (t : Int) : rd t (N * dg m ps o) = rd (t * wgt m ps o) (N * 420) := by
  have h := wgt_mul w o0 o1
  have h2 := dg_pos w o0 o1
  refine rd_eq (Nat.mul_pos hN h2) (Nat.mul_pos hN (by decide)) ?_
  rw [Int.natCast_mul, Int.natCast_mul, Int.mul_comm (N : Int) (dg m ps o : Int), Int.mul_assoc t, ← Int.mul_assoc (wgt m ps o), h, Int.mul_comm (N : Int)]
  rfl
/-- modest shares -/
structure Ms (t : Int → Int) (N : Nat) : Prop where
  pos : 0 < N
  bot : N < 2 ^ 300
  top : ∀ o, 0 ≤ t o ∧ t o ≤ ((2 ^ 400 : Nat) : Int)
theorem two_le {a b : Nat} (h : a ≤ b) : (2 : Nat) ^ a ≤ 2 ^ b := Nat.pow_le_pow_right (by decide) h
theorem Ms.md {t : Int → Int} {N : Nat} (h : Ms t N) (o : Int) : Md (t o) N := by
  have h1 := h.top o
  have h2 := h.bot
  have e1 : (2 : Nat) ^ 400 < 2 ^ 1400 := Nat.pow_lt_pow_right (by decide) (by decide)
  have e2 : (2 : Nat) ^ 300 < 2 ^ 1400 := Nat.pow_lt_pow_right (by decide) (by decide)
  refine ⟨h.pos, ?_, Nat.lt_trans h2 e2⟩
  generalize (2 : Nat) ^ 400 = x at *
  generalize (2 : Nat) ^ 1400 = y at *
  omega
theorem small_sum {l : List Int} {B : Nat} (hl : l.length ≤ 16) (h : ∀ x ∈ l, 0 ≤ x ∧ x ≤ (B : Int)) (hB : B ≤ 2 ^ 1000) : (∀ k, (sumI (l.take k)).natAbs < 2 ^ 1400) ∧ ∀ x ∈ l, x.natAbs < 2 ^ 1400 := by
  have e1 : 16 * (2 : Nat) ^ 1000 < 2 ^ 1400 := by
    have : (16 : Nat) * 2 ^ 1000 = 2 ^ 1004 := by rw [show (16 : Nat) = 2 ^ 4 from rfl, ← Nat.pow_add]
    rw [this]
    exact Nat.pow_lt_pow_right (by decide) (by decide)
  generalize (2 : Nat) ^ 1000 = x at *
  generalize (2 : Nat) ^ 1400 = y at *
  refine ⟨fun k => ?_, fun z hz => by have := h z hz; omega⟩
  obtain ⟨h1, h2⟩ := sumI_bd (B := (B : Int)) (by omega) (l := l.take k) fun z hz => h z (List.mem_of_mem_take hz)
  have h3 : (l.take k).length ≤ 16 := by rw [List.length_take]; omega
  have h4 : ((l.take k).length : Int) * (B : Int) ≤ 16 * (B : Int) := Int.mul_le_mul_of_nonneg_right (by omega) (by omega)
  omega
theorem stp_lc {m : Nat} {ps : Ts} {t : Int → Int} {N : Nat} (w : WebOk m ps) (h : Ms t N) {p : Int} {fd : PyData} {x4 : Option SV} (v4 : isV x4 = true) :
    fLc [4] (wSeq (fCall S_near (aCons (fVar 0) (aCons (fVar 3) aNil)))) (bName 4) tYesD (fCall S_times (aCons (fIxv 1 (fVar 4)) (aCons (fTup (aCons (fC (.int 1)) (aCons (f1 oLen (fCall S_near (aCons (fVar 0) (aCons (fVar 4) aNil)))) aNil))) aNil)))
      [some (.v (webD m ps)), some (.v (.tuple (shr m t N))), some (.m fd), some (.v (.int p)), x4] =
    .ok (.list (((nb m ps p).map fun o => t o * wgt m ps o).map fun s => pairD (rd s (N * 420))), [some (.v (webD m ps)), some (.v (.tuple (shr m t N))), some (.m fd), some (.v (.int p)), x4]) := by
  have hm := w.hi
  have ne := near_eq (ps := ps) hm p
  have f4 := isV_free v4
  have z := lc_ok (own := [4]) (w := wSeq (fCall S_near (aCons (fVar 0) (aCons (fVar 3) aNil)))) (b := bName 4) (t := tYesD) (f := fCall S_times (aCons (fIxv 1 (fVar 4)) (aCons (fTup (aCons (fC (.int 1)) (aCons (f1 oLen (fCall S_near (aCons (fVar 0) (aCons (fVar 4) aNil)))) aNil))) aNil)))
    (δ := [some (.v (webD m ps)), some (.v (.tuple (shr m t N))), some (.m fd), some (.v (.int p)), x4]) (ds := (nb m ps p).map .int) (e := fun d => pairD (rd (t (intI d) * wgt m ps (intI d)) (N * 420))) (by
      generalize webD m ps = wb at *
      generalize (nb m ps p).map PyData.int = l0 at *
      generalize shr m t N = l1
      simp [ne]) (by
      have := nb_len m ps p
      rw [List.length_map, PySem.sizeLine_eq]
      omega) rfl (fun d hd => by
      obtain ⟨o, ho, rfl⟩ := List.mem_map.mp hd
      obtain ⟨_, ob, _⟩ := adj_bd w ((mem_nb w).mp ho)
      have no := near_eq (ps := ps) hm o
      have sa := shr_at t N ob.1 ob.2
      have d7 := dg_le w ob.1 ob.2
      have dp := dg_pos w ob.1 ob.2
      have tm := times_eq (h.md o) (d := dg m ps o) dp (Nat.lt_of_le_of_lt d7 (by have := two_le (a := 3) (b := 1400) (by decide); omega))
      rw [by_dg w ob.1 ob.2 h.pos] at tm
      have ll : oLen (.tuple ((nb m ps o).map .int)) = some (.int (dg m ps o : Int)) := by rw [oLen_tuple, List.length_map]; rfl
      refine ⟨[some (.v (webD m ps)), some (.v (.tuple (shr m t N))), some (.a fd), some (.v (.int p)), some (.v (.int o))], ?_, ?_, ?_⟩
      · generalize webD m ps = wb at *
        generalize shr m t N = l1
        simp [anchD, wipeD, anch1]
      · show _ = Rs.ok (pairD (rd (t o * wgt m ps o) (N * 420)), _)
        generalize pairD (rd (t o * wgt m ps o) (N * 420)) = res at *
        generalize pairD (rd (t o) N) = d1 at *
        generalize webD m ps = wb at *
        generalize shr m t N = l1 at *
        generalize (dg m ps o : Int) = dd at *
        generalize (nb m ps o).map PyData.int = l2 at *
        simp [-oLen_tuple, no, sa, ll, tm, PySem.sizeLine_eq]
      · generalize webD m ps = wb at *
        generalize shr m t N = l1
        simp [anchD, wipeD, anch1])
  rw [z, List.map_map, List.map_map]
  rfl
theorem stp_loop {m : Nat} {ps : Ts} {t : Int → Int} {N : Nat} (w : WebOk m ps) (h : Ms t N) : ∀ (xs : List Int) (acc : List PyData) (x3 x4 : Option SV), acc.length + xs.length ≤ 1000 → isV x3 = true → isV x4 = true →
    ∃ x3', forN (bName 3) (gDrop (fMt 2 mApp (aCons (fCall S_total (aCons (fLc [4] (wSeq (fCall S_near (aCons (fVar 0) (aCons (fVar 3) aNil)))) (bName 4) tYesD (fCall S_times (aCons (fIxv 1 (fVar 4)) (aCons (fTup (aCons (fC (.int 1)) (aCons (f1 oLen (fCall S_near (aCons (fVar 0) (aCons (fVar 4) aNil)))) aNil))) aNil)))) aNil)) aNil))) (xs.map .int) [some (.v (webD m ps)), some (.v (.tuple (shr m t N))), some (.m (.list acc)), x3, x4] =
      .ok (.nx, [some (.v (webD m ps)), some (.v (.tuple (shr m t N))), some (.m (.list (acc ++ xs.map fun p => pairD (rd (fwd m ps (wgt m ps) t p) (N * 420))))), x3', x4]) ∧ isV x3' = true
  | [], acc, x3, x4, _, v3, _ => ⟨x3, by rw [List.map_nil, List.map_nil, List.append_nil]; rfl, v3⟩
  | p :: xs, acc, x3, x4, hz, v3, v4 => by
    rw [List.length_cons] at hz
    have hm := w.hi
    have f3 := isV_free v3
    have lc := stp_lc (p := p) (fd := .list acc) w h v4
    have e1 : (2 : Nat) ^ 300 * 420 < 2 ^ 1400 := by
      have : (2 : Nat) ^ 300 * 420 < 2 ^ 300 * 2 ^ 9 := Nat.mul_lt_mul_of_pos_left (by decide) (Nat.pow_pos (by decide))
      rw [← Nat.pow_add] at this
      exact Nat.lt_trans this (Nat.pow_lt_pow_right (by decide) (by decide))
    have hN : N * 420 < 2 ^ 1400 := by
      have := h.bot
      generalize (2 : Nat) ^ 300 = x at *
      generalize (2 : Nat) ^ 1400 = y at *
      omega
    have e2 : (2 : Nat) ^ 400 * 420 ≤ 2 ^ 1000 := by
      have : (2 : Nat) ^ 400 * 420 ≤ 2 ^ 400 * 2 ^ 9 := Nat.mul_le_mul (Nat.le_refl _) (by decide)
      rw [← Nat.pow_add] at this
      exact Nat.le_trans this (two_le (by decide))
    obtain ⟨s1, s2⟩ := small_sum (l := (nb m ps p).map fun o => t o * wgt m ps o) (B := 2 ^ 400 * 420) (by rw [List.length_map]; have := nb_len m ps p; omega) (fun x hx => by
      obtain ⟨o, _, rfl⟩ := List.mem_map.mp hx
      have a := h.top o
      have b := wgt_bd m ps o
      refine ⟨Int.mul_nonneg a.1 b.1, ?_⟩
      rw [Int.natCast_mul]
      exact Int.mul_le_mul a.2 b.2 b.1 (Int.natCast_nonneg _)) e2
    have tt := (total_eq (n := N * 420) (Nat.mul_pos h.pos (by decide)) hN s1 s2 (td := .list (((nb m ps p).map fun o => t o * wgt m ps o).map fun s => pairD (rd s (N * 420)))) rfl).1
    have ap : mApp acc [pairD (rd (fwd m ps (wgt m ps) t p) (N * 420))] = some (.none, acc ++ [pairD (rd (fwd m ps (wgt m ps) t p) (N * 420))]) := by
      show (if acc.length < sizeLine then some (PyData.none, acc ++ [_]) else none) = _
      rw [if_pos (by rw [PySem.sizeLine_eq]; omega)]
    have tt : S_total [.list (((nb m ps p).map fun o => t o * wgt m ps o).map fun s => pairD (rd s (N * 420)))] = .ok (pairD (rd (fwd m ps (wgt m ps) t p) (N * 420)), none) := tt
    obtain ⟨x3', g1, g2⟩ := stp_loop w h xs (acc ++ [pairD (rd (fwd m ps (wgt m ps) t p) (N * 420))]) (some (.v (.int p))) x4 (by rw [List.length_append, List.length_singleton]; omega) rfl v4
    refine ⟨x3', ?_, g2⟩
    rw [List.map_cons, List.map_cons, forN]
    have b1 : bName 3 (.int p) [some (.v (webD m ps)), some (.v (.tuple (shr m t N))), some (.m (.list acc)), x3, x4] = some [some (.v (webD m ps)), some (.v (.tuple (shr m t N))), some (.m (.list acc)), some (.v (.int p)), x4] := by
      generalize webD m ps = wb
      generalize shr m t N = l1
      simp [f3]
    rw [b1]
    have st : (gDrop (fMt 2 mApp (aCons (fCall S_total (aCons (fLc [4] (wSeq (fCall S_near (aCons (fVar 0) (aCons (fVar 3) aNil)))) (bName 4) tYesD (fCall S_times (aCons (fIxv 1 (fVar 4)) (aCons (fTup (aCons (fC (.int 1)) (aCons (f1 oLen (fCall S_near (aCons (fVar 0) (aCons (fVar 4) aNil)))) aNil))) aNil)))) aNil)) aNil))) [some (.v (webD m ps)), some (.v (.tuple (shr m t N))), some (.m (.list acc)), some (.v (.int p)), x4] =
        .ok (.nx, [some (.v (webD m ps)), some (.v (.tuple (shr m t N))), some (.m (.list (acc ++ [pairD (rd (fwd m ps (wgt m ps) t p) (N * 420))]))), some (.v (.int p)), x4]) := by
      rw [ev_drop, ev_mt]
      rw [if_pos (by rfl), ev_cons, ev_call, ev_cons, lc]
      generalize pairD (rd (fwd m ps (wgt m ps) t p) (N * 420)) = res at *
      generalize webD m ps = wb
      generalize shr m t N = l1
      generalize ((nb m ps p).map fun o => t o * wgt m ps o).map (fun s => pairD (rd s (N * 420))) = l2 at *
      simp [tt, ap]
    simp only [st, Rs.bind_ok]
    rw [g1, List.append_assoc]
    rfl
theorem stepped_by_eq {m : Nat} {ps : Ts} {t : Int → Int} {N : Nat} (w : WebOk m ps) (h : Ms t N) : S_stepped_by [webD m ps, .tuple (shr m t N)] = .ok (.tuple (shr m (fwd m ps (wgt m ps) t) (N * 420)), none) := by
  have hm := w.hi
  have im : i62 (m : Int) = true := i62_small (by omega) (by omega)
  obtain ⟨x3, g1, _⟩ := stp_loop w h (Gr.upTo m) [] none none (by rw [List.length_nil, upTo_len]; omega) rfl rfl
  rw [List.nil_append] at g1
  have a0 := atW0 m ps
  have ru := rngD_up m
  refine run_rt (g := g_stepped_by) (δ := [some (.v (webD m ps)), some (.v (.tuple (shr m t N))), some (.m (.list (shr m (fwd m ps (wgt m ps) t) (N * 420)))), x3, none]) ?_ rfl
  show g_stepped_by [some (.v (webD m ps)), some (.v (.tuple (shr m t N))), none, none, none] = _
  unfold g_stepped_by
  refine sq (δ1 := [some (.v (webD m ps)), some (.v (.tuple (shr m t N))), some (.m (.list [])), none, none]) (by
    generalize webD m ps = wb
    generalize shr m t N = l1
    simp [PySem.sizeLine_eq]) ?_
  refine sq (δ1 := [some (.v (webD m ps)), some (.v (.tuple (shr m t N))), some (.m (.list (shr m (fwd m ps (wgt m ps) t) (N * 420)))), x3, none]) ?_ ?_
  · have e2 : (wRng1 (fIxv 0 (fC (.int 0)))) [some (.v (webD m ps)), some (.v (.tuple (shr m t N))), some (.m (.list [])), none, none] = .ok ((Gr.upTo m).map .int, [some (.v (webD m ps)), some (.v (.tuple (shr m t N))), some (.m (.list [])), none, none]) := by
      unfold webD
      generalize ps.map pairD = ts at *
      generalize shr m t N = l1
      simp [a0, im, ru]
    rw [ev_for, e2]
    simp only [Rs.bind_ok]
    exact g1
  · generalize webD m ps = wb
    generalize shr m t N = l1
    generalize shr m (fwd m ps (wgt m ps) t) (N * 420) = l2
    simp
end Kc

set_option maxRecDepth 100000
set_option maxHeartbeats 3900000
/-! ## M36. so many steps -/
namespace Kc
open PySem L2 Pw Gr
theorem itr_last {α : Type} (f : α → α) : ∀ (k : Nat) (x : α), itr f (k + 1) x = f (itr f k x)
  | 0, _ => rfl
  | k + 1, x => by rw [itr, itr_last f k, itr]
theorem ms_itr {m : Nat} {ps : Ts} {f : (Int → Int) → Int → Int} (hf : ∀ (t : Int → Int) (B : Int), 0 ≤ B → (∀ o, 0 ≤ t o ∧ t o ≤ B) → ∀ p, 0 ≤ f t p ∧ f t p ≤ 4096 * B) (a : Int) {k : Nat} (hk : k ≤ 30) : Ms (itr f k (ind a)) (420 ^ k) := by
  refine ⟨Nat.pow_pos (by decide), pow420 (by omega), fun o => ?_⟩
  have h := itr_bd hf k (ind a) 0 (ind_bd a) o
  rw [Nat.zero_add] at h
  have h2 : (4096 : Nat) ^ k ≤ 2 ^ 400 := Nat.le_trans (pow_bd hk) (two_le (by decide))
  refine ⟨h.1, Int.le_trans h.2 ?_⟩
  exact_mod_cast h2
theorem int_bool (b : Bool) : oInt (.bool b) = some (.int (if b = true then 1 else 0)) := by
  cases b <;> rfl
theorem ind_one (a o : Int) : PyData.tuple [.int (if decide (o = a) = true then 1 else 0), .int 1] = pairD (rd (ind a o) 1) := by
  rw [rd_one]
  unfold pairD ind
  simp
theorem only_at_eq {m : Nat} {ps : Ts} (hm : m ≤ 8) (a : Int) : S_only_at [webD m ps, .int a] = .ok (.tuple (shr m (ind a) 1), none) := by
  have im : i62 (m : Int) = true := i62_small (by omega) (by omega)
  have a0 := atW0 m ps
  have ru := rngD_up m
  have z := lc_ok (own := [2]) (w := wRng1 (fIxv 0 (fC (.int 0)))) (b := bName 2) (t := tYesD) (f := fTup (aCons (f1 oInt (f2 oEq (fVar 2) (fVar 1))) (aCons (fC (.int 1)) aNil))) (δ := [some (.v (webD m ps)), some (.v (.int a)), none]) (ds := (Gr.upTo m).map .int) (e := fun d => pairD (rd (ind a (intI d)) 1)) (by
      unfold webD
      generalize ps.map pairD = ts at *
      simp [a0, im, ru]) (by rw [List.length_map, upTo_len, PySem.sizeLine_eq]; omega) rfl (fun d hd => by
      obtain ⟨o, ho, rfl⟩ := List.mem_map.mp hd
      refine ⟨[some (.v (webD m ps)), some (.v (.int a)), some (.v (.int o))], ?_, ?_, ?_⟩
      · simp [anchD, wipeD, anch1]
      · have e := ind_one a o
        show _ = Rs.ok (pairD (rd (ind a o) 1), _)
        rw [← e]
        generalize webD m ps = wb
        simp [oEq_int, int_bool, PySem.sizeLine_eq]
      · simp [anchD, wipeD, anch1])
  refine run_rt (g := g_only_at) (δ := [some (.v (webD m ps)), some (.v (.int a)), none]) ?_ rfl
  show g_only_at [some (.v (webD m ps)), some (.v (.int a)), none] = _
  unfold g_only_at
  rw [ev_ret, ev_f1, z, List.map_map]
  rfl
theorem aft_loop {m : Nat} {ps : Ts} (w : WebOk m ps) {a : Int} {sd : PyData} : ∀ (ds : List PyData) (k : Nat) (x4 : Option SV), k + ds.length ≤ 30 → isV x4 = true →
    ∃ x4', forN (bName 4) (gSet 3 (fCall S_stepped_by (aCons (fVar 0) (aCons (fVar 3) aNil)))) ds [some (.v (webD m ps)), some (.v (.int a)), some (.v sd), some (.v (.tuple (shr m (itr (fwd m ps (wgt m ps)) k (ind a)) (420 ^ k)))), x4] =
      .ok (.nx, [some (.v (webD m ps)), some (.v (.int a)), some (.v sd), some (.v (.tuple (shr m (itr (fwd m ps (wgt m ps)) (k + ds.length) (ind a)) (420 ^ (k + ds.length))))), x4'])
  | [], k, x4, _, _ => ⟨x4, rfl⟩
  | d :: ds, k, x4, hk, v4 => by
    rw [List.length_cons] at hk
    have f4 := isV_free v4
    have sb := stepped_by_eq w (ms_itr (m := m) (ps := ps) (fun t B hB ht p => fwd_bd (ps := ps) w.hi hB (wgt_bd m ps) ht p) a (k := k) (by omega))
    rw [← itr_last (fwd m ps (wgt m ps)) k (ind a), ← Nat.pow_succ] at sb
    obtain ⟨x4', g⟩ := aft_loop w (a := a) (sd := sd) ds (k + 1) (some (.v d)) (by omega) rfl
    refine ⟨x4', ?_⟩
    rw [forN]
    have b1 : bName 4 d [some (.v (webD m ps)), some (.v (.int a)), some (.v sd), some (.v (.tuple (shr m (itr (fwd m ps (wgt m ps)) k (ind a)) (420 ^ k)))), x4] = some [some (.v (webD m ps)), some (.v (.int a)), some (.v sd), some (.v (.tuple (shr m (itr (fwd m ps (wgt m ps)) k (ind a)) (420 ^ k)))), some (.v d)] := by
      generalize webD m ps = wb
      generalize shr m (itr (fwd m ps (wgt m ps)) k (ind a)) (420 ^ k) = l1
      simp [f4]
    have st : (gSet 3 (fCall S_stepped_by (aCons (fVar 0) (aCons (fVar 3) aNil)))) [some (.v (webD m ps)), some (.v (.int a)), some (.v sd), some (.v (.tuple (shr m (itr (fwd m ps (wgt m ps)) k (ind a)) (420 ^ k)))), some (.v d)] =
        .ok (.nx, [some (.v (webD m ps)), some (.v (.int a)), some (.v sd), some (.v (.tuple (shr m (itr (fwd m ps (wgt m ps)) (k + 1) (ind a)) (420 ^ (k + 1))))), some (.v d)]) := by
      generalize shr m (itr (fwd m ps (wgt m ps)) (k + 1) (ind a)) (420 ^ (k + 1)) = l2 at *
      generalize shr m (itr (fwd m ps (wgt m ps)) k (ind a)) (420 ^ k) = l1 at *
      generalize webD m ps = wb at *
      simp [sb]
    rw [b1]
    simp only [st, Rs.bind_ok]
    rw [show k + (d :: ds).length = k + 1 + ds.length by rw [List.length_cons]; omega]
    exact g
theorem steps_ok {n : Nat} (hn : n ≤ 30) : S_check_steps [.int n] = .ok (.none, none) := by
  have u := upto_eq (d := .int n) rfl 0 30
  have u : S_is_upto [.int n, .int 0, .int 30] = .ok (.bool (decide ((0 : Int) ≤ n ∧ (n : Int) ≤ 30)), none) := u
  rw [decide_eq_true (by omega)] at u
  refine run_nx (g := g_check_steps) (δ := [some (.v (.int n))]) ?_ rfl
  show g_check_steps [some (.v (.int n))] = _
  unfold g_check_steps
  simp [u]
theorem steps_err {d : PyData} (hs : shD d = true) (h : ∀ i : Int, d = .int i → ¬ (0 ≤ i ∧ i ≤ 30)) : S_check_steps [d] = .err "NoNumber" := by
  have u := upto_eq hs 0 30
  have u : S_is_upto [d, .int 0, .int 30] = .ok (.bool false, none) := by
    rw [u]
    congr 3
    cases d with
    | int i => exact decide_eq_false (h i rfl)
    | _ => rfl
  refine run_err (g := g_check_steps) ?_
  show g_check_steps [some (.v d)] = _
  unfold g_check_steps
  simp [u]
theorem after_eq {m : Nat} {ps : Ts} (w : WebOk m ps) (hz : ps.length < 64) {a : Int} (a0 : 0 ≤ a) (a1 : a < m) {n : Nat} (hn : n ≤ 30) : S_after [webD m ps, .int a, .int n] = .ok (.tuple (shr m (itr (fwd m ps (wgt m ps)) n (ind a)) (420 ^ n)), none) := by
  have c := web_chk w hz
  have p := check_place_ok (ps := ps) (d := .int a) rfl (plB_int a0 a1)
  have s := steps_ok hn
  have oa := only_at_eq (ps := ps) w.hi a
  have ic : i62 (n : Int) = true := i62_small (by omega) (by omega)
  obtain ⟨x4, g⟩ := aft_loop w (a := a) (sd := .int n) (rngD 0 n) 0 none (by rw [rngD, List.length_map, List.length_range]; omega) rfl
  have len : (rngD 0 n).length = n := by rw [rngD, List.length_map, List.length_range]
  rw [len, Nat.zero_add] at g
  have e1 : shr m (itr (fwd m ps (wgt m ps)) 0 (ind a)) (420 ^ 0) = shr m (ind a) 1 := rfl
  rw [e1] at g
  refine run_rt (g := g_after) (δ := [some (.v (webD m ps)), some (.v (.int a)), some (.v (.int n)), some (.v (.tuple (shr m (itr (fwd m ps (wgt m ps)) n (ind a)) (420 ^ n)))), x4]) ?_ rfl
  show g_after [some (.v (webD m ps)), some (.v (.int a)), some (.v (.int n)), none, none] = _
  generalize shr m (itr (fwd m ps (wgt m ps)) n (ind a)) (420 ^ n) = l2 at *
  generalize shr m (ind a) 1 = l1 at *
  generalize webD m ps = wb at *
  unfold g_after
  refine sq (δ1 := [some (.v wb), some (.v (.int a)), some (.v (.int n)), none, none]) (by simp [c]) ?_
  refine sq (δ1 := [some (.v wb), some (.v (.int a)), some (.v (.int n)), none, none]) (by simp [p]) ?_
  refine sq (δ1 := [some (.v wb), some (.v (.int a)), some (.v (.int n)), none, none]) (by simp [s]) ?_
  refine sq (δ1 := [some (.v wb), some (.v (.int a)), some (.v (.int n)), some (.v (.tuple l1)), none]) (by simp [oa]) ?_
  refine sq (δ1 := [some (.v wb), some (.v (.int a)), some (.v (.int n)), some (.v (.tuple l2)), x4]) ?_ (by simp)
  rw [ev_for, ev_rng1]
  simp only [ev_var, List.getElem?_cons_zero, List.getElem?_cons_succ, varR_v, Rs.bind_ok, onI_int, ic, if_true, Int.toNat_natCast]
  exact g
theorem after_err {D a s : PyData} {z : Str} (h : S_check_web [D] = .err z) : S_after [D, a, s] = .err z := by
  refine run_err (g := g_after) ?_
  show g_after [some (.v D), some (.v a), some (.v s), none, none] = _
  unfold g_after
  simp [h]
theorem after_err2 {D a s : PyData} {z : Str} (h : S_check_web [D] = .ok (.none, none)) (k : S_check_place [D, a] = .err z) : S_after [D, a, s] = .err z := by
  refine run_err (g := g_after) ?_
  show g_after [some (.v D), some (.v a), some (.v s), none, none] = _
  unfold g_after
  simp [h, k]
theorem after_err3 {D a s : PyData} {z : Str} (h : S_check_web [D] = .ok (.none, none)) (k : S_check_place [D, a] = .ok (.none, none)) (l : S_check_steps [s] = .err z) : S_after [D, a, s] = .err z := by
  refine run_err (g := g_after) ?_
  show g_after [some (.v D), some (.v a), some (.v s), none, none] = _
  unfold g_after
  simp [h, k, l]
theorem ways_err {D a b s : PyData} {z : Str} (h : S_check_places [D, a, b] = .err z) : S_ways [D, a, b, s] = .err z := by
  refine run_err (g := g_ways) ?_
  show g_ways [some (.v D), some (.v a), some (.v b), some (.v s), none, none, none, none] = _
  unfold g_ways
  simp [h]
theorem ways_err2 {D a b s : PyData} {z : Str} (h : S_check_places [D, a, b] = .ok (.none, none)) (l : S_check_steps [s] = .err z) : S_ways [D, a, b, s] = .err z := by
  refine run_err (g := g_ways) ?_
  show g_ways [some (.v D), some (.v a), some (.v b), some (.v s), none, none, none, none] = _
  unfold g_ways
  simp [h, l]
end Kc

set_option maxRecDepth 100000
set_option maxHeartbeats 3900000
/-! ## M37. ways -/
namespace Kc
open PySem L2 Pw Gr
def itD (m : Nat) (t : Int → Int) : List PyData := (Gr.upTo m).map fun x => .int (t x)
theorem itD_at {m : Nat} (t : Int → Int) {o : Int} (h0 : 0 ≤ o) (h1 : o < m) : atI (itD m t) o = some (.int (t o)) := by
  obtain ⟨i, rfl⟩ : ∃ i : Nat, o = i := ⟨o.toNat, by omega⟩
  refine atI_nat ?_
  unfold itD
  rw [List.getElem?_map, upTo_get (by omega)]
  rfl
theorem sum_ints (l : List Int) : oSum (.list (l.map .int)) = some (.int (sumI l)) := by
  have h1 : ∀ l : List Int, ints? (l.map .int) = some l := fun l => by
    induction l with
    | nil => rfl
    | cons x r ih => rw [List.map_cons, ints?, ih]; rfl
  have h2 : ∀ l : List Int, l.sum = sumI l := fun l => by
    induction l with
    | nil => rfl
    | cons x r ih => rw [List.sum_cons, ih]; rfl
  show (ints? (l.map .int)).map (fun ns => PyData.int ns.sum) = _
  rw [h1]
  show some (PyData.int l.sum) = _
  rw [h2]
def c1 : Int → Int := fun _ => 1
theorem c1_bd (o : Int) : 0 ≤ c1 o ∧ c1 o ≤ 420 := by
  unfold c1
  decide
theorem fwd1 (m : Nat) (ps : Ts) (t : Int → Int) (p : Int) : fwd m ps c1 t p = sumI ((nb m ps p).map t) := by
  unfold fwd c1
  exact sumI_congr fun x _ => Int.mul_one _
theorem bwd1 (m : Nat) (ps : Ts) : bwd m ps c1 = fwd m ps c1 := funext fun u => funext fun p => by
  rw [fwd1]
  unfold bwd c1
  rw [Int.mul_one]
theorem wy_in {m : Nat} {ps : Ts} {t : Int → Int} {a b n p : Int} {x5 : Option SV} (w : WebOk m ps) (v5 : isV x5 = true) :
    (fLc [7] (wSeq (fCall S_near (aCons (fVar 0) (aCons (fVar 6) aNil)))) (bName 7) tYesD (fIxv 4 (fVar 7))) [some (.v (webD m ps)), some (.v (.int a)), some (.v (.int b)), some (.v (.int n)), some (.v (.list (itD m t))), x5, some (.v (.int p)), none] = .ok (.list (((nb m ps p).map t).map .int), [some (.v (webD m ps)), some (.v (.int a)), some (.v (.int b)), some (.v (.int n)), some (.v (.list (itD m t))), x5, some (.v (.int p)), none]) := by
  have hm := w.hi
  have ne := near_eq (ps := ps) hm p
  have a5 := isV_anch v5
  have z := lc_ok (own := [7]) (w := wSeq (fCall S_near (aCons (fVar 0) (aCons (fVar 6) aNil)))) (b := bName 7) (t := tYesD) (f := fIxv 4 (fVar 7)) (δ := [some (.v (webD m ps)), some (.v (.int a)), some (.v (.int b)), some (.v (.int n)), some (.v (.list (itD m t))), x5, some (.v (.int p)), none]) (ds := (nb m ps p).map .int) (e := fun d => .int (t (intI d))) (by
      generalize webD m ps = wb at *
      generalize (nb m ps p).map PyData.int = l0 at *
      generalize itD m t = l1
      simp [ne]) (by
      have := nb_len m ps p
      rw [List.length_map, PySem.sizeLine_eq]
      omega) rfl (fun d hd => by
      obtain ⟨o, ho, rfl⟩ := List.mem_map.mp hd
      obtain ⟨_, ob, _⟩ := adj_bd w ((mem_nb w).mp ho)
      have sa := itD_at t ob.1 ob.2
      refine ⟨[some (.v (webD m ps)), some (.v (.int a)), some (.v (.int b)), some (.v (.int n)), some (.v (.list (itD m t))), x5, some (.v (.int p)), some (.v (.int o))], ?_, ?_, ?_⟩
      · generalize webD m ps = wb at *
        generalize itD m t = l1
        simp [anchD, wipeD, anch1, a5]
      · generalize webD m ps = wb at *
        generalize itD m t = l1 at *
        simp [sa, intI]
      · generalize webD m ps = wb at *
        generalize itD m t = l1
        simp [anchD, wipeD, anch1, a5])
  rw [z, List.map_map, List.map_map]
  rfl
theorem wy_out {m : Nat} {ps : Ts} {t : Int → Int} {a b n : Int} {x5 : Option SV} (w : WebOk m ps) (v5 : isV x5 = true) :
    (fLc [6, 7] (wRng1 (fIxv 0 (fC (.int 0)))) (bName 6) tYesD (f1 oSum (fLc [7] (wSeq (fCall S_near (aCons (fVar 0) (aCons (fVar 6) aNil)))) (bName 7) tYesD (fIxv 4 (fVar 7))))) [some (.v (webD m ps)), some (.v (.int a)), some (.v (.int b)), some (.v (.int n)), some (.v (.list (itD m t))), x5, none, none] = .ok (.list (itD m (fwd m ps c1 t)), [some (.v (webD m ps)), some (.v (.int a)), some (.v (.int b)), some (.v (.int n)), some (.v (.list (itD m t))), x5, none, none]) := by
  have hm := w.hi
  have im : i62 (m : Int) = true := i62_small (by omega) (by omega)
  have a0 := atW0 m ps
  have ru := rngD_up m
  have a5 := isV_anch v5
  have z := lc_ok (own := [6, 7]) (w := wRng1 (fIxv 0 (fC (.int 0)))) (b := bName 6) (t := tYesD) (f := f1 oSum (fLc [7] (wSeq (fCall S_near (aCons (fVar 0) (aCons (fVar 6) aNil)))) (bName 7) tYesD (fIxv 4 (fVar 7)))) (δ := [some (.v (webD m ps)), some (.v (.int a)), some (.v (.int b)), some (.v (.int n)), some (.v (.list (itD m t))), x5, none, none]) (ds := (Gr.upTo m).map .int) (e := fun d => .int (fwd m ps c1 t (intI d))) (by
      unfold webD
      generalize ps.map pairD = ts at *
      generalize itD m t = l1
      simp [a0, im, ru]) (by rw [List.length_map, upTo_len, PySem.sizeLine_eq]; omega) rfl (fun d hd => by
      obtain ⟨p, hp, rfl⟩ := List.mem_map.mp hd
      have lc := wy_in (t := t) (a := a) (b := b) (n := n) (p := p) w v5
      have sm := sum_ints ((nb m ps p).map t)
      rw [← fwd1] at sm
      refine ⟨[some (.v (webD m ps)), some (.v (.int a)), some (.v (.int b)), some (.v (.int n)), some (.v (.list (itD m t))), x5, some (.v (.int p)), none], ?_, ?_, ?_⟩
      · generalize webD m ps = wb at *
        generalize itD m t = l1
        simp [anchD, wipeD, anch1, a5]
      · rw [ev_f1, lc]
        simp only [Rs.bind_ok, sm, lift_some]
        rfl
      · generalize webD m ps = wb at *
        generalize itD m t = l1
        simp [anchD, wipeD, anch1, a5])
  rw [z, List.map_map]
  rfl
theorem wy_init {m : Nat} {ps : Ts} {a b n : Int} (w : WebOk m ps) : (fLc [6] (wRng1 (fIxv 0 (fC (.int 0)))) (bName 6) tYesD (f1 oInt (f2 oEq (fVar 6) (fVar 1)))) [some (.v (webD m ps)), some (.v (.int a)), some (.v (.int b)), some (.v (.int n)), none, none, none, none] = .ok (.list (itD m (ind a)), [some (.v (webD m ps)), some (.v (.int a)), some (.v (.int b)), some (.v (.int n)), none, none, none, none]) := by
  have hm := w.hi
  have im : i62 (m : Int) = true := i62_small (by omega) (by omega)
  have a0 := atW0 m ps
  have ru := rngD_up m
  have z := lc_ok (own := [6]) (w := wRng1 (fIxv 0 (fC (.int 0)))) (b := bName 6) (t := tYesD) (f := f1 oInt (f2 oEq (fVar 6) (fVar 1))) (δ := [some (.v (webD m ps)), some (.v (.int a)), some (.v (.int b)), some (.v (.int n)), none, none, none, none]) (ds := (Gr.upTo m).map .int) (e := fun d => .int (ind a (intI d))) (by
      unfold webD
      generalize ps.map pairD = ts at *
      simp [a0, im, ru]) (by rw [List.length_map, upTo_len, PySem.sizeLine_eq]; omega) rfl (fun d hd => by
      obtain ⟨p, hp, rfl⟩ := List.mem_map.mp hd
      refine ⟨[some (.v (webD m ps)), some (.v (.int a)), some (.v (.int b)), some (.v (.int n)), none, none, some (.v (.int p)), none], ?_, ?_, ?_⟩
      · simp [anchD, wipeD, anch1]
      · have e : ind a p = if decide (p = a) = true then 1 else 0 := by unfold ind; simp
        show _ = Rs.ok (PyData.int (ind a p), _)
        rw [e]
        generalize webD m ps = wb at *
        simp [oEq_int, int_bool]
      · simp [anchD, wipeD, anch1])
  rw [z, List.map_map]
  rfl
theorem wy_loop {m : Nat} {ps : Ts} (w : WebOk m ps) {a b n : Int} : ∀ (ds : List PyData) (t : Int → Int) (x5 : Option SV), isV x5 = true →
    ∃ x5', forN (bName 5) (gSet 4 (fLc [6, 7] (wRng1 (fIxv 0 (fC (.int 0)))) (bName 6) tYesD (f1 oSum (fLc [7] (wSeq (fCall S_near (aCons (fVar 0) (aCons (fVar 6) aNil)))) (bName 7) tYesD (fIxv 4 (fVar 7)))))) ds [some (.v (webD m ps)), some (.v (.int a)), some (.v (.int b)), some (.v (.int n)), some (.v (.list (itD m t))), x5, none, none] = .ok (.nx, [some (.v (webD m ps)), some (.v (.int a)), some (.v (.int b)), some (.v (.int n)), some (.v (.list (itD m (itr (fwd m ps c1) ds.length t)))), x5', none, none])
  | [], t, x5, _ => ⟨x5, rfl⟩
  | d :: ds, t, x5, v5 => by
    have f5 := isV_free v5
    have lc := wy_out (t := t) (a := a) (b := b) (n := n) (x5 := some (.v d)) w rfl
    obtain ⟨x5', g⟩ := wy_loop w (a := a) (b := b) (n := n) ds (fwd m ps c1 t) (some (.v d)) rfl
    refine ⟨x5', ?_⟩
    rw [forN]
    have b1 : bName 5 d [some (.v (webD m ps)), some (.v (.int a)), some (.v (.int b)), some (.v (.int n)), some (.v (.list (itD m t))), x5, none, none] = some [some (.v (webD m ps)), some (.v (.int a)), some (.v (.int b)), some (.v (.int n)), some (.v (.list (itD m t))), some (.v d), none, none] := by
      generalize webD m ps = wb
      generalize itD m t = l1
      simp [f5]
    have st : (gSet 4 (fLc [6, 7] (wRng1 (fIxv 0 (fC (.int 0)))) (bName 6) tYesD (f1 oSum (fLc [7] (wSeq (fCall S_near (aCons (fVar 0) (aCons (fVar 6) aNil)))) (bName 7) tYesD (fIxv 4 (fVar 7)))))) [some (.v (webD m ps)), some (.v (.int a)), some (.v (.int b)), some (.v (.int n)), some (.v (.list (itD m t))), some (.v d), none, none] = .ok (.nx, [some (.v (webD m ps)), some (.v (.int a)), some (.v (.int b)), some (.v (.int n)), some (.v (.list (itD m (fwd m ps c1 t)))), some (.v d), none, none]) := by
      rw [ev_set, lc]
      rfl
    rw [b1]
    simp only [st, Rs.bind_ok]
    exact g
theorem lw_in {m : Nat} {ps : Ts} {t : Int → Int} {a b n p : Int} {x5 : Option SV} (w : WebOk m ps) (v5 : isV x5 = true) :
    (fLc [6] (wSeq (fCall S__law_near (aCons (fVar 0) (aCons (fVar 7) aNil)))) (bName 6) tYesD (fIxv 4 (fVar 6))) [some (.v (webD m ps)), some (.v (.int a)), some (.v (.int b)), some (.v (.int n)), some (.v (.list (itD m t))), x5, none, some (.v (.int p))] = .ok (.list (((nb m ps p).map t).map .int), [some (.v (webD m ps)), some (.v (.int a)), some (.v (.int b)), some (.v (.int n)), some (.v (.list (itD m t))), x5, none, some (.v (.int p))]) := by
  have hm := w.hi
  have ne := law_near_eq (ps := ps) hm p
  have a5 := isV_anch v5
  have z := lc_ok (own := [6]) (w := wSeq (fCall S__law_near (aCons (fVar 0) (aCons (fVar 7) aNil)))) (b := bName 6) (t := tYesD) (f := fIxv 4 (fVar 6)) (δ := [some (.v (webD m ps)), some (.v (.int a)), some (.v (.int b)), some (.v (.int n)), some (.v (.list (itD m t))), x5, none, some (.v (.int p))]) (ds := (nb m ps p).map .int) (e := fun d => .int (t (intI d))) (by
      generalize webD m ps = wb at *
      generalize (nb m ps p).map PyData.int = l0 at *
      generalize itD m t = l1
      simp [ne]) (by
      have := nb_len m ps p
      rw [List.length_map, PySem.sizeLine_eq]
      omega) rfl (fun d hd => by
      obtain ⟨o, ho, rfl⟩ := List.mem_map.mp hd
      obtain ⟨_, ob, _⟩ := adj_bd w ((mem_nb w).mp ho)
      have sa := itD_at t ob.1 ob.2
      refine ⟨[some (.v (webD m ps)), some (.v (.int a)), some (.v (.int b)), some (.v (.int n)), some (.v (.list (itD m t))), x5, some (.v (.int o)), some (.v (.int p))], ?_, ?_, ?_⟩
      · generalize webD m ps = wb at *
        generalize itD m t = l1
        simp [anchD, wipeD, anch1, a5]
      · generalize webD m ps = wb at *
        generalize itD m t = l1 at *
        simp [sa, intI]
      · generalize webD m ps = wb at *
        generalize itD m t = l1
        simp [anchD, wipeD, anch1, a5])
  rw [z, List.map_map, List.map_map]
  rfl
theorem lw_out {m : Nat} {ps : Ts} {t : Int → Int} {a b n : Int} {x5 : Option SV} (w : WebOk m ps) (v5 : isV x5 = true) :
    (fLc [6, 7] (wRng1 (fIxv 0 (fC (.int 0)))) (bName 7) tYesD (f1 oSum (fLc [6] (wSeq (fCall S__law_near (aCons (fVar 0) (aCons (fVar 7) aNil)))) (bName 6) tYesD (fIxv 4 (fVar 6))))) [some (.v (webD m ps)), some (.v (.int a)), some (.v (.int b)), some (.v (.int n)), some (.v (.list (itD m t))), x5, none, none] = .ok (.list (itD m (fwd m ps c1 t)), [some (.v (webD m ps)), some (.v (.int a)), some (.v (.int b)), some (.v (.int n)), some (.v (.list (itD m t))), x5, none, none]) := by
  have hm := w.hi
  have im : i62 (m : Int) = true := i62_small (by omega) (by omega)
  have a0 := atW0 m ps
  have ru := rngD_up m
  have a5 := isV_anch v5
  have z := lc_ok (own := [6, 7]) (w := wRng1 (fIxv 0 (fC (.int 0)))) (b := bName 7) (t := tYesD) (f := f1 oSum (fLc [6] (wSeq (fCall S__law_near (aCons (fVar 0) (aCons (fVar 7) aNil)))) (bName 6) tYesD (fIxv 4 (fVar 6)))) (δ := [some (.v (webD m ps)), some (.v (.int a)), some (.v (.int b)), some (.v (.int n)), some (.v (.list (itD m t))), x5, none, none]) (ds := (Gr.upTo m).map .int) (e := fun d => .int (fwd m ps c1 t (intI d))) (by
      unfold webD
      generalize ps.map pairD = ts at *
      generalize itD m t = l1
      simp [a0, im, ru]) (by rw [List.length_map, upTo_len, PySem.sizeLine_eq]; omega) rfl (fun d hd => by
      obtain ⟨p, hp, rfl⟩ := List.mem_map.mp hd
      have lc := lw_in (t := t) (a := a) (b := b) (n := n) (p := p) w v5
      have sm := sum_ints ((nb m ps p).map t)
      rw [← fwd1] at sm
      refine ⟨[some (.v (webD m ps)), some (.v (.int a)), some (.v (.int b)), some (.v (.int n)), some (.v (.list (itD m t))), x5, none, some (.v (.int p))], ?_, ?_, ?_⟩
      · generalize webD m ps = wb at *
        generalize itD m t = l1
        simp [anchD, wipeD, anch1, a5]
      · rw [ev_f1, lc]
        simp only [Rs.bind_ok, sm, lift_some]
        rfl
      · generalize webD m ps = wb at *
        generalize itD m t = l1
        simp [anchD, wipeD, anch1, a5])
  rw [z, List.map_map]
  rfl
theorem lw_init {m : Nat} {ps : Ts} {a b n : Int} (w : WebOk m ps) : (fLc [6] (wRng1 (fIxv 0 (fC (.int 0)))) (bName 6) tYesD (f1 oInt (f2 oEq (fVar 6) (fVar 2)))) [some (.v (webD m ps)), some (.v (.int a)), some (.v (.int b)), some (.v (.int n)), none, none, none, none] = .ok (.list (itD m (ind b)), [some (.v (webD m ps)), some (.v (.int a)), some (.v (.int b)), some (.v (.int n)), none, none, none, none]) := by
  have hm := w.hi
  have im : i62 (m : Int) = true := i62_small (by omega) (by omega)
  have a0 := atW0 m ps
  have ru := rngD_up m
  have z := lc_ok (own := [6]) (w := wRng1 (fIxv 0 (fC (.int 0)))) (b := bName 6) (t := tYesD) (f := f1 oInt (f2 oEq (fVar 6) (fVar 2))) (δ := [some (.v (webD m ps)), some (.v (.int a)), some (.v (.int b)), some (.v (.int n)), none, none, none, none]) (ds := (Gr.upTo m).map .int) (e := fun d => .int (ind b (intI d))) (by
      unfold webD
      generalize ps.map pairD = ts at *
      simp [a0, im, ru]) (by rw [List.length_map, upTo_len, PySem.sizeLine_eq]; omega) rfl (fun d hd => by
      obtain ⟨p, hp, rfl⟩ := List.mem_map.mp hd
      refine ⟨[some (.v (webD m ps)), some (.v (.int a)), some (.v (.int b)), some (.v (.int n)), none, none, some (.v (.int p)), none], ?_, ?_, ?_⟩
      · simp [anchD, wipeD, anch1]
      · have e : ind b p = if decide (p = b) = true then 1 else 0 := by unfold ind; simp
        show _ = Rs.ok (PyData.int (ind b p), _)
        rw [e]
        generalize webD m ps = wb at *
        simp [oEq_int, int_bool]
      · simp [anchD, wipeD, anch1])
  rw [z, List.map_map]
  rfl
theorem lw_loop {m : Nat} {ps : Ts} (w : WebOk m ps) {a b n : Int} : ∀ (ds : List PyData) (t : Int → Int) (x5 : Option SV), isV x5 = true →
    ∃ x5', forN (bName 5) (gSet 4 (fLc [6, 7] (wRng1 (fIxv 0 (fC (.int 0)))) (bName 7) tYesD (f1 oSum (fLc [6] (wSeq (fCall S__law_near (aCons (fVar 0) (aCons (fVar 7) aNil)))) (bName 6) tYesD (fIxv 4 (fVar 6)))))) ds [some (.v (webD m ps)), some (.v (.int a)), some (.v (.int b)), some (.v (.int n)), some (.v (.list (itD m t))), x5, none, none] = .ok (.nx, [some (.v (webD m ps)), some (.v (.int a)), some (.v (.int b)), some (.v (.int n)), some (.v (.list (itD m (itr (fwd m ps c1) ds.length t)))), x5', none, none])
  | [], t, x5, _ => ⟨x5, rfl⟩
  | d :: ds, t, x5, v5 => by
    have f5 := isV_free v5
    have lc := lw_out (t := t) (a := a) (b := b) (n := n) (x5 := some (.v d)) w rfl
    obtain ⟨x5', g⟩ := lw_loop w (a := a) (b := b) (n := n) ds (fwd m ps c1 t) (some (.v d)) rfl
    refine ⟨x5', ?_⟩
    rw [forN]
    have b1 : bName 5 d [some (.v (webD m ps)), some (.v (.int a)), some (.v (.int b)), some (.v (.int n)), some (.v (.list (itD m t))), x5, none, none] = some [some (.v (webD m ps)), some (.v (.int a)), some (.v (.int b)), some (.v (.int n)), some (.v (.list (itD m t))), some (.v d), none, none] := by
      generalize webD m ps = wb
      generalize itD m t = l1
      simp [f5]
    have st : (gSet 4 (fLc [6, 7] (wRng1 (fIxv 0 (fC (.int 0)))) (bName 7) tYesD (f1 oSum (fLc [6] (wSeq (fCall S__law_near (aCons (fVar 0) (aCons (fVar 7) aNil)))) (bName 6) tYesD (fIxv 4 (fVar 6)))))) [some (.v (webD m ps)), some (.v (.int a)), some (.v (.int b)), some (.v (.int n)), some (.v (.list (itD m t))), some (.v d), none, none] = .ok (.nx, [some (.v (webD m ps)), some (.v (.int a)), some (.v (.int b)), some (.v (.int n)), some (.v (.list (itD m (fwd m ps c1 t)))), some (.v d), none, none]) := by
      rw [ev_set, lc]
      rfl
    rw [b1]
    simp only [st, Rs.bind_ok]
    exact g
theorem ways_eq2 {m : Nat} {ps : Ts} (w : WebOk m ps) (hz : ps.length < 64) {a b : Int} (a0 : 0 ≤ a) (a1 : a < m) (b0 : 0 ≤ b) (b1 : b < m) {n : Nat} (hn : n ≤ 30) : S_ways [webD m ps, .int a, .int b, .int n] = .ok (.int (itr (fwd m ps c1) n (ind a) b), none) := by
  have p := places_ok w hz a0 a1 b0 b1
  have s := steps_ok hn
  have ic : i62 (n : Int) = true := i62_small (by omega) (by omega)
  obtain ⟨x5, g⟩ := wy_loop w (a := a) (b := b) (n := (n : Int)) (rngD 0 n) (ind a) none rfl
  have len : (rngD 0 n).length = n := by rw [rngD, List.length_map, List.length_range]
  rw [len] at g
  have ini := wy_init (a := a) (b := b) (n := (n : Int)) w
  have ia := itD_at (m := m) (itr (fwd m ps c1) n (ind a)) b0 b1
  refine run_rt (g := g_ways) (δ := [some (.v (webD m ps)), some (.v (.int a)), some (.v (.int b)), some (.v (.int n)), some (.v (.list (itD m (itr (fwd m ps c1) n (ind a))))), x5, none, none]) ?_ rfl
  show g_ways [some (.v (webD m ps)), some (.v (.int a)), some (.v (.int b)), some (.v (.int n)), none, none, none, none] = _
  unfold g_ways
  refine sq (δ1 := [some (.v (webD m ps)), some (.v (.int a)), some (.v (.int b)), some (.v (.int n)), none, none, none, none]) (by generalize webD m ps = wb at *; simp [p]) ?_
  refine sq (δ1 := [some (.v (webD m ps)), some (.v (.int a)), some (.v (.int b)), some (.v (.int n)), none, none, none, none]) (by generalize webD m ps = wb at *; simp [s]) ?_
  refine sq (δ1 := [some (.v (webD m ps)), some (.v (.int a)), some (.v (.int b)), some (.v (.int n)), some (.v (.list (itD m (ind a)))), none, none, none]) (by rw [ev_set, ini]; rfl) ?_
  refine sq (δ1 := [some (.v (webD m ps)), some (.v (.int a)), some (.v (.int b)), some (.v (.int n)), some (.v (.list (itD m (itr (fwd m ps c1) n (ind a))))), x5, none, none]) ?_ ?_
  · rw [ev_for, ev_rng1]
    simp only [ev_var, List.getElem?_cons_zero, List.getElem?_cons_succ, varR_v, Rs.bind_ok, onI_int, ic, if_true, Int.toNat_natCast]
    exact g
  · generalize webD m ps = wb at *
    generalize itD m (itr (fwd m ps c1) n (ind a)) = l1 at *
    simp [ia]
end Kc

set_option maxRecDepth 100000
set_option maxHeartbeats 3900000
/-! ## M38. data with long numbers that repr shows -/
namespace Kc
open PySem L2 Pw Gr
structure Bg (k w : Nat) (d : PyData) : Prop where
  sh : shD d = true
  sw : d.showable = true
  lv : d.leavesShort 200 = true
  dp : d.depth ≤ k
  wt : d.weight ≤ w
theorem Bg.mono {k w k' w' : Nat} {d : PyData} (h : Bg k w d) (hk : k ≤ k') (hw : w ≤ w') : Bg k' w' d := ⟨h.sh, h.sw, h.lv, Nat.le_trans h.dp hk, Nat.le_trans h.wt hw⟩
theorem Bg.ok {k w : Nat} {d : PyData} (h : Bg k w d) (hk : k ≤ 60) (hw : w ≤ 60000) : okR d = true := by
  have h1 := PyData.shown_le 200 (by decide) d h.lv
  have h2 := h.wt
  have h3 : (200 + 2) * d.weight ≤ 202 * 60000 := Nat.mul_le_mul (Nat.le_refl _) (by omega)
  unfold okR
  simp only [h.sh, h.sw, Bool.true_and, Bool.and_eq_true, decide_eq_true_eq]
  refine ⟨Nat.le_trans h.dp hk, ?_⟩
  rw [PySem.sizeLine_eq]
  omega
theorem Bg.row {k w : Nat} : ∀ {ds : List PyData}, (∀ d ∈ ds, Bg k w d) → shA ds = true ∧ PyData.showableAll ds = true ∧ PyData.leavesShortAll 200 ds = true ∧ PyData.depthAll ds ≤ k ∧ PyData.weightAll ds ≤ ds.length * (w + 1)
  | [], _ => ⟨rfl, rfl, rfl, Nat.zero_le _, Nat.zero_le _⟩
  | d :: ds, h => by
    obtain ⟨h1, h2, h3, h4, h5⟩ := Bg.row (ds := ds) fun x hx => h x (List.mem_cons_of_mem _ hx)
    have hd := h d List.mem_cons_self
    refine ⟨by simp only [shA, hd.sh, h1, Bool.and_self], by simp only [PyData.showableAll, hd.sw, h2, Bool.and_self], by simp only [PyData.leavesShortAll, hd.lv, h3, Bool.and_self], ?_, ?_⟩
    · rw [PyData.depthAll]; exact Nat.max_le.mpr ⟨hd.dp, h4⟩
    · rw [PyData.weightAll, List.length_cons, Nat.succ_mul]
      have := hd.wt
      omega
theorem Bg.int {i : Int} (h : i.natAbs < 10 ^ 170) : Bg 0 600 (.int i) := by
  have e := int_text_length_le10 (k := 170) (by decide) h
  have lg : i.natAbs.log2 < 566 := by
    by_cases h0 : i.natAbs = 0
    · rw [h0]; decide
    · exact (Nat.log2_lt h0).mpr (Nat.lt_of_lt_of_le h (by decide +kernel))
  refine ⟨rfl, by simp only [PyData.showable, decide_eq_true_eq]; omega, ?_, Nat.le_refl _, ?_⟩
  · simp only [PyData.leavesShort, decide_eq_true_eq]
    show (Str.ofString (toString i)).length ≤ 200
    rw [ofString_length]
    omega
  · rw [PyData.weight]
    split <;> omega
theorem Bg.list {k w : Nat} {ds : List PyData} (h : ∀ d ∈ ds, Bg k w d) : Bg (k + 1) (ds.length * (w + 1)) (.list ds) := by
  obtain ⟨h1, h2, h3, h4, h5⟩ := Bg.row h
  exact ⟨by simpa [shD] using h1, by simpa [PyData.showable] using h2, by simpa [PyData.leavesShort] using h3, by rw [PyData.depth]; omega, by rw [PyData.weight]; exact h5⟩
theorem Bg.tuple {k w : Nat} {ds : List PyData} (h : ∀ d ∈ ds, Bg k w d) : Bg (k + 1) (ds.length * (w + 1)) (.tuple ds) := by
  obtain ⟨h1, h2, h3, h4, h5⟩ := Bg.row h
  exact ⟨by simpa [shD] using h1, by simpa [PyData.showable] using h2, by simpa [PyData.leavesShort] using h3, by rw [PyData.depth]; omega, by rw [PyData.weight]; exact h5⟩
theorem Bg.pair {p : Int × Int} (h1 : p.1.natAbs < 10 ^ 170) (h2 : p.2.natAbs < 10 ^ 170) : Bg 1 1202 (pairD p) := by
  refine Bg.mono (Bg.tuple (k := 0) (w := 600) (ds := [.int p.1, .int p.2]) fun d hd => ?_) (Nat.le_refl _) (by simp only [List.length_cons, List.length_nil]; omega)
  rcases List.mem_cons.mp hd with e | hd
  · rw [e]; exact Bg.int h1
  · rw [List.mem_singleton.mp hd]; exact Bg.int h2
theorem bg_repr {d : PyData} {k w : Nat} (h : Bg k w d) (hk : k ≤ 60 := by decide) (hw : w ≤ 60000 := by decide) : oRepr d = some (.str d.shown) := by
  unfold oRepr
  rw [if_pos (h.ok hk hw)]
theorem p400 : (2 : Nat) ^ 400 < 10 ^ 170 := by decide +kernel
theorem Ms.bg {m : Nat} {t : Int → Int} {N : Nat} (h : Ms t N) (hm : m ≤ 8) : Bg 2 9624 (.tuple (shr m t N)) := by
  refine (Bg.tuple (k := 1) (w := 1202) fun d hd => ?_).mono (Nat.le_refl _) (by rw [shr_len]; omega)
  unfold shr at hd
  obtain ⟨x, _, rfl⟩ := List.mem_map.mp hd
  have h1 := h.top x
  have h2 := h.bot
  have h3 := rd_abs (t x) h.pos
  have h4 := rd_le (t x) h.pos
  have h5 := rd_pos (t x) h.pos
  have e1 := p400
  have e2 : (2 : Nat) ^ 300 ≤ 2 ^ 400 := two_le (by decide)
  have key : ∀ x4 x3 x1 : Nat, (0 ≤ t x ∧ t x ≤ (x4 : Int)) → N < x3 → x4 < x1 → x3 ≤ x4 → (rd (t x) N).1.natAbs < x1 ∧ (rd (t x) N).2.natAbs < x1 := fun x4 x3 x1 q1 q2 q3 q4 => by omega
  obtain ⟨g1, g2⟩ := key _ _ _ h1 h2 e1 e2
  exact Bg.pair g1 g2
end Kc

set_option maxRecDepth 100000
set_option maxHeartbeats 3900000
/-! ## M39. what holds of steps -/
namespace Gr
open PySem L2 Pw Kc
def one : Int → Int := fun _ => 1
theorem dot_one (m : Nat) (t : Int → Int) : dot m t one = sumI ((Gr.upTo m).map t) := sumI_congr fun x _ => Int.mul_one _
theorem sum_ones {α : Type} : ∀ l : List α, sumI (l.map fun _ => (1 : Int)) = l.length
  | [] => rfl
  | x :: l => by rw [List.map_cons, sumI, sum_ones l, List.length_cons]; omega
/-- all shares together stay -/
theorem fwd_sum {m : Nat} {ps : Ts} (w : WebOk m ps) (t : Int → Int) : sumI ((Gr.upTo m).map (fwd m ps (wgt m ps) t)) = sumI ((Gr.upTo m).map t) * 420 := by
  rw [← dot_one, dot_step w, ← sumI_mul]
  refine sumI_congr fun x hx => ?_
  have xb := Gr.mem_upTo.mp hx
  have h := wgt_mul w xb.1 xb.2
  have e : bwd m ps (wgt m ps) one x = 420 := by
    unfold bwd one
    rw [sum_ones, Int.mul_comm]
    exact h
  rw [e]
theorem itr_sum {m : Nat} {ps : Ts} (w : WebOk m ps) {a : Int} (a0 : 0 ≤ a) (a1 : a < m) : ∀ k : Nat, sumI ((Gr.upTo m).map (itr (fwd m ps (wgt m ps)) k (ind a))) = ((420 ^ k : Nat) : Int)
  | 0 => by
    show sumI ((Gr.upTo m).map (ind a)) = 1
    have := dot_ind' a0 a1 one
    unfold dot one at this
    rw [← this]
    exact sumI_congr fun x _ => (Int.mul_one _).symm
  | k + 1 => by
    rw [itr_last, fwd_sum w, itr_sum w a0 a1 k, Nat.pow_succ, Int.natCast_mul]
    rfl
/-- the still shares -/
def dgI (m : Nat) (ps : Ts) (x : Int) : Int := (dg m ps x : Int)
theorem fwd_still {m : Nat} {ps : Ts} (w : WebOk m ps) (p : Int) : fwd m ps (wgt m ps) (dgI m ps) p = dgI m ps p * 420 := by
  unfold fwd
  have e : ∀ o ∈ nb m ps p, dgI m ps o * wgt m ps o = 420 := fun o ho => by
    have ob := (adj_bd w ((mem_nb w).mp ho)).2.1
    rw [Int.mul_comm]
    exact wgt_mul w ob.1 ob.2
  rw [sumI_congr e]
  have : (fun _ : Int => (420 : Int)) = fun x => one x * 420 := by
    funext x
    unfold one
    rfl
  rw [this, sumI_mul]
  unfold one
  rw [sum_ones]
  rfl
/-- forth and back, weighed -/
theorem rev_eq {m : Nat} {ps : Ts} (w : WebOk m ps) (b : Int) : ∀ (k : Nat) (x : Int), 0 ≤ x → x < m → dgI m ps x * itr (bwd m ps (wgt m ps)) k (ind b) x = dgI m ps b * itr (fwd m ps (wgt m ps)) k (ind b) x
  | 0, x, _, _ => by
    show dgI m ps x * ind b x = dgI m ps b * ind b x
    unfold ind
    split
    · rename_i h; rw [h]
    · rw [Int.mul_zero, Int.mul_zero]
  | k + 1, x, x0, x1 => by
    rw [itr_last, itr_last]
    have ih := rev_eq w b k
    generalize itr (bwd m ps (wgt m ps)) k (ind b) = u at *
    generalize itr (fwd m ps (wgt m ps)) k (ind b) = t at *
    have h := wgt_mul w x0 x1
    have l : dgI m ps x * bwd m ps (wgt m ps) u x = sumI ((nb m ps x).map u) * 420 := by
      unfold bwd
      rw [Int.mul_left_comm, Int.mul_comm (dgI m ps x)]
      show sumI ((nb m ps x).map fun o => u o) * (wgt m ps x * (dg m ps x : Int)) = _
      rw [h]
    have r : dgI m ps b * fwd m ps (wgt m ps) t x = sumI ((nb m ps x).map u) * 420 := by
      unfold fwd
      rw [Int.mul_comm, ← sumI_mul, ← sumI_mul]
      refine sumI_congr fun o ho => ?_
      have ob := (adj_bd w ((mem_nb w).mp ho)).2.1
      have h2 := wgt_mul w ob.1 ob.2
      have ih := ih o ob.1 ob.2
      have e1 : t o * wgt m ps o * dgI m ps b = dgI m ps b * t o * wgt m ps o := by
        simp only [Int.mul_assoc, Int.mul_comm, Int.mul_left_comm]
      rw [e1, ← ih]
      have e2 : dgI m ps o * u o * wgt m ps o = u o * (wgt m ps o * dgI m ps o) := by
        simp only [Int.mul_assoc, Int.mul_comm, Int.mul_left_comm]
      rw [e2]
      show u o * (wgt m ps o * (dg m ps o : Int)) = _
      rw [h2]
    rw [l, r]
/-- ways by so many steps and so many more -/
theorem itr_add {α : Type} (f : α → α) : ∀ (j k : Nat) (x : α), itr f (j + k) x = itr f k (itr f j x)
  | 0, k, x => by rw [Nat.zero_add]; rfl
  | j + 1, k, x => by rw [show j + 1 + k = j + k + 1 by omega, itr, itr_add f j k, itr]
theorem ways_add {m : Nat} {ps : Ts} (w : WebOk m ps) {a b : Int} (b0 : 0 ≤ b) (b1 : b < m) (j k : Nat) : sumI ((Gr.upTo m).map fun p => itr (fwd m ps c1) j (ind a) p * itr (fwd m ps c1) k (ind p) b) = itr (fwd m ps c1) (j + k) (ind a) b := by
  have e : sumI ((Gr.upTo m).map fun p => itr (fwd m ps c1) j (ind a) p * itr (fwd m ps c1) k (ind p) b) = dot m (itr (fwd m ps c1) j (ind a)) (itr (bwd m ps c1) k (ind b)) := by
    unfold dot
    refine sumI_congr fun p hp => ?_
    have pb := Gr.mem_upTo.mp hp
    rw [steps_eq w c1 k pb.1 pb.2 b0 b1]
  rw [e, ← dot_itr w, ← itr_add, dot_ind b0 b1]
/-- as many ends as twice the ties -/
theorem asc_nodup {ps : Ts} (h : adjB ps = true) : ps.Nodup := by
  have key : ps.Pairwise fun p q => Pw.ltP p q = true := by
    induction ps with
    | nil => exact .nil
    | cons p r ih =>
      cases r with
      | nil => exact List.pairwise_singleton _ _
      | cons q r =>
        rw [adjB, Bool.and_eq_true] at h
        have ih := ih h.2
        rw [List.pairwise_cons]
        refine ⟨fun x hx => ?_, ih⟩
        (rcases List.mem_cons.mp hx with e | hx)
        · rw [e]; exact h.1
        · have h2 := (List.pairwise_cons.mp ih).1 x hx
          have h1 := h.1
          obtain ⟨p1, p2⟩ := p
          obtain ⟨q1, q2⟩ := q
          obtain ⟨x1, x2⟩ := x
          simp only [Pw.ltP, decide_eq_true_eq] at *
          omega
  refine List.Pairwise.imp (fun {p q} hpq e => ?_) key
  subst e
  obtain ⟨p1, p2⟩ := p
  simp only [Pw.ltP, decide_eq_true_eq] at hpq
  omega
theorem sum_ind {m : Nat} {i : Int} (i0 : 0 ≤ i) (i1 : i < m) : sumI ((Gr.upTo m).map (ind i)) = 1 := by
  have := dot_ind' i0 i1 one
  unfold dot one at this
  rw [← this]
  exact sumI_congr fun x _ => (Int.mul_one _).symm
theorem pair_two {m : Nat} {i j : Int} (h0 : 0 ≤ i) (h1 : i < j) (h2 : j < m) : sumI ((Gr.upTo m).map fun x => sumI ((Gr.upTo m).map fun o => if tdP x o = (i, j) then (1 : Int) else 0)) = 2 := by
  have e : ∀ x o : Int, (if tdP x o = (i, j) then (1 : Int) else 0) = ind j o * ind i x + ind i o * ind j x := fun x o => by
    unfold tdP gMin gMax ind
    simp only [Prod.mk.injEq]
    split <;> split <;> split <;> split <;> split <;> split <;> omega
  have e2 : ∀ x : Int, sumI ((Gr.upTo m).map fun o => if tdP x o = (i, j) then (1 : Int) else 0) = ind i x + ind j x := fun x => by
    rw [sumI_congr (fun o _ => e x o), sumI_add, sumI_mul, sumI_mul, sum_ind (by omega) h2, sum_ind h0 (by omega), Int.one_mul, Int.one_mul]
  rw [sumI_congr (fun x _ => e2 x), sumI_add, sum_ind h0 (by omega), sum_ind (by omega) h2]
  rfl
theorem sum_dg {m : Nat} {ps : Ts} (w : WebOk m ps) : sumI ((Gr.upTo m).map (dgI m ps)) = 2 * ps.length := by
  have e : ∀ x : Int, dgI m ps x = sumI ((Gr.upTo m).map fun o => if tdP x o ∈ ps then (1 : Int) else 0) := fun x => by
    show ((nb m ps x).length : Int) = _
    rw [← sum_ones]
    unfold nb
    rw [sumI_filter]
    refine sumI_congr fun o _ => ?_
    unfold nbB
    by_cases h : tdP x o ∈ ps
    · rw [if_pos h, if_pos (decide_eq_true h)]
    · rw [if_neg h, if_neg (by rw [decide_eq_false h]; exact nofun)]
  rw [sumI_congr (fun x _ => e x)]
  have key : ∀ qs : Ts, qs.Nodup → (∀ p ∈ qs, 0 ≤ p.1 ∧ p.1 < p.2 ∧ p.2 < m) → sumI ((Gr.upTo m).map fun x => sumI ((Gr.upTo m).map fun o => if tdP x o ∈ qs then (1 : Int) else 0)) = 2 * qs.length := fun qs => by
    induction qs with
    | nil =>
      intro _ _
      have : ∀ x : Int, sumI ((Gr.upTo m).map fun o => if tdP x o ∈ ([] : Ts) then (1 : Int) else 0) = 0 := fun x => by
        rw [sumI_congr (g := fun _ => 0) (fun o _ => if_neg List.not_mem_nil), sumI_zero]
      rw [sumI_congr (fun x _ => this x), sumI_zero]
      rfl
    | cons q r ih =>
      intro hn hb
      rw [List.nodup_cons] at hn
      have qb := hb q List.mem_cons_self
      have sp : ∀ x o : Int, (if tdP x o ∈ q :: r then (1 : Int) else 0) = (if tdP x o = q then (1 : Int) else 0) + (if tdP x o ∈ r then (1 : Int) else 0) := fun x o => by
        by_cases h1 : tdP x o = q
        · rw [if_pos (by rw [h1]; exact List.mem_cons_self), if_pos h1, if_neg (by rw [h1]; exact hn.1)]
          rfl
        · by_cases h2 : tdP x o ∈ r
          · rw [if_pos (List.mem_cons_of_mem _ h2), if_neg h1, if_pos h2]
            rfl
          · rw [if_neg (fun z => (List.mem_cons.mp z).elim h1 h2), if_neg h1, if_neg h2]
            rfl
      have s2 : ∀ x : Int, sumI ((Gr.upTo m).map fun o => if tdP x o ∈ q :: r then (1 : Int) else 0) = sumI ((Gr.upTo m).map fun o => if tdP x o = q then (1 : Int) else 0) + sumI ((Gr.upTo m).map fun o => if tdP x o ∈ r then (1 : Int) else 0) := fun x => by
        rw [← sumI_add]
        exact sumI_congr fun o _ => sp x o
      rw [sumI_congr (fun x _ => s2 x), sumI_add, ih hn.2 (fun p hp => hb p (List.mem_cons_of_mem _ hp)), List.length_cons]
      have := pair_two (m := m) (i := q.1) (j := q.2) qb.1 qb.2.1 qb.2.2
      rw [show ((q.1, q.2) : Int × Int) = q from rfl] at this
      rw [this]
      omega
  exact key ps (asc_nodup w.asc) w.tie
end Gr

set_option maxRecDepth 100000
set_option maxHeartbeats 3900000
/-! ## M40. shares looked at -/
namespace Kc
open PySem L2 Pw Gr
def shP (m : Nat) (t : Int → Int) (N : Nat) : Ts := (Gr.upTo m).map fun x => rd (t x) N
theorem shr_P (m : Nat) (t : Int → Int) (N : Nat) : shr m t N = (shP m t N).map pairD := by
  unfold shr shP
  rw [List.map_map]
  rfl
theorem okD_tp (l : Ts) : okD (.tuple (l.map pairD)) = true := by
  have h := okD_pairs l
  unfold okD at h ⊢
  rw [Bool.and_eq_true] at h ⊢
  refine ⟨?_, ?_⟩
  · have := h.1
    simp only [PyData.plain] at this ⊢
    exact this
  · have := of_decide_eq_true h.2
    rw [PyData.depth] at this
    refine decide_eq_true ?_
    rw [PyData.depth]
    exact this
theorem eq_tp (l r : Ts) : oEq (.tuple (l.map pairD)) (.tuple (r.map pairD)) = some (.bool (decide (l = r))) := by
  unfold oEq
  rw [okD_tp, okD_tp]
  (simp only [Bool.and_self, if_true])
  rw [show PyData.eqv (.tuple (l.map pairD)) (.tuple (r.map pairD)) = PyData.eqvAll (l.map pairD) (r.map pairD) from by rw [PyData.eqv], eqv_pairs]
theorem ne_tp (l r : Ts) : oNe (.tuple (l.map pairD)) (.tuple (r.map pairD)) = some (.bool (!decide (l = r))) := by
  unfold oNe
  rw [okD_tp, okD_tp]
  (simp only [Bool.and_self, if_true])
  rw [show PyData.eqv (.tuple (l.map pairD)) (.tuple (r.map pairD)) = PyData.eqvAll (l.map pairD) (r.map pairD) from by rw [PyData.eqv], eqv_pairs]
theorem gcd_rd (t : Int) {n : Nat} (hn : 0 < n) {q : Nat} (hq : (rd t n).2 = q) : Nat.gcd (rd t n).1.natAbs q = 1 := by
  have h1 := congrArg Int.natAbs (rd_top t n)
  have h2 := rd_bot t n
  rw [hq] at h2
  rw [Int.natAbs_mul, Int.natAbs_natCast] at h1
  have h3 : q * Nat.gcd t.natAbs n = n := by exact_mod_cast h2
  have g := gcd_pos' (t := t) hn
  have e : Nat.gcd ((rd t n).1.natAbs * Nat.gcd t.natAbs n) (q * Nat.gcd t.natAbs n) = Nat.gcd t.natAbs n := by rw [h1, h3]
  rw [Nat.gcd_mul_right] at e
  generalize Nat.gcd t.natAbs n = gg at *
  have e2 : Nat.gcd (rd t n).1.natAbs q * gg = 1 * gg := by rw [e, Nat.one_mul]
  exact Nat.eq_of_mul_eq_mul_right g e2
theorem is_fraction_yes {t : Int} {n : Nat} (h : Md t n) : S_is_fraction [pairD (rd t n)] = .ok (.bool true, none) := by
  obtain ⟨q, e1, q0, qn, ql⟩ := h.b
  have g := gcd_rd t h.pos e1
  have c := common_eq (a := (rd t n).1.natAbs) (b := q) (Nat.lt_of_lt_of_le ql (two_le (by decide)))
  rw [g] at c
  have ab := abs_int (rd t n).1
  obtain ⟨x0, x1⟩ := pr_at (rd t n)
  rw [e1] at x0 x1
  have w0 := is_whole_eq (d := .int (rd t n).1) rfl
  have w1 := is_whole_eq (d := .int (q : Int)) rfl
  have w0 : S_is_whole [.int (rd t n).1] = .ok (.bool true, none) := w0
  have w1 : S_is_whole [.int (q : Int)] = .ok (.bool true, none) := w1
  have gt := oGt_zero q
  rw [decide_eq_true (show q ≠ 0 by omega)] at gt
  refine run_rt (g := g_is_fraction) (δ := [some (.v (pairD (rd t n)))]) ?_ rfl
  show g_is_fraction [some (.v (pairD (rd t n)))] = _
  unfold pairD
  rw [e1]
  generalize (rd t n).1 = p at *
  generalize p.natAbs = ap at *
  unfold g_is_fraction
  simp [-oGt_int, isiB, tyD, oNe_int, oEq_int, x0, x1, w0, w1, ab, c, gt]
theorem min_nn : ∀ (l : List Int), l ≠ [] → (∀ x ∈ l, 0 ≤ x) → ∃ x : Int, 0 ≤ x ∧ oMin (.list (l.map .int)) = some (.int x) := fun l hl h => by
  have h1 : ints? (l.map .int) = some l := by
    clear hl h
    induction l with
    | nil => rfl
    | cons x r ih => rw [List.map_cons, ints?, ih]; rfl
  have h2 : ∃ x, foldMin l = some x ∧ 0 ≤ x := by
    cases l with
    | nil => exact absurd rfl hl
    | cons a r =>
      have key : ∀ (r : List Int) (a : Int), 0 ≤ a → (∀ x ∈ r, 0 ≤ x) → 0 ≤ r.foldl (fun m y => if y < m then y else m) a := fun r => by
        induction r with
        | nil => intro a h _; exact h
        | cons y r ih =>
          intro a h hr
          rw [List.foldl_cons]
          refine ih _ ?_ fun x hx => hr x (List.mem_cons_of_mem _ hx)
          have := hr y List.mem_cons_self
          split <;> omega
      exact ⟨_, rfl, key r a (h a List.mem_cons_self) fun x hx => h x (List.mem_cons_of_mem _ hx)⟩
  obtain ⟨x, e, x0⟩ := h2
  refine ⟨x, x0, ?_⟩
  show ((ints? (l.map .int)).bind foldMin).map PyData.int = _
  rw [h1]
  show (foldMin l).map PyData.int = _
  rw [e]
  rfl
/-- good shares -/
structure Gd (m : Nat) (t : Int → Int) (N : Nat) : Prop extends Ms t N where
  sum : sumI ((Gr.upTo m).map t) = N
theorem Gd.total {m : Nat} {t : Int → Int} {N : Nat} (h : Gd m t N) (hm : m ≤ 8) : S_total [.tuple (shr m t N)] = .ok (.tuple [.int 1, .int 1], none) ∧ S__law_total [.tuple (shr m t N)] = .ok (.tuple [.int 1, .int 1], none) := by
  have e1 : (2 : Nat) ^ 300 < 2 ^ 1400 := Nat.pow_lt_pow_right (by decide) (by decide)
  obtain ⟨s1, s2⟩ := small_sum (l := (Gr.upTo m).map t) (B := 2 ^ 400) (by rw [List.length_map, upTo_len]; omega) (fun x hx => by
    obtain ⟨o, _, rfl⟩ := List.mem_map.mp hx
    exact h.top o) (two_le (by decide))
  have tt := total_eq (n := N) h.pos (Nat.lt_trans h.bot e1) s1 s2 (td := .tuple (shr m t N)) (by show some (shr m t N) = _; unfold shr; rw [List.map_map]; rfl)
  rw [h.sum] at tt
  have e : pairD (rd (N : Int) N) = .tuple [.int 1, .int 1] := by
    have : rd (N : Int) N = (1, 1) := by
      rw [← rd_one 1]
      exact rd_eq h.pos (by decide) (by rw [Int.one_mul]; exact Int.mul_one _)
    rw [this]
    rfl
  rw [e] at tt
  exact tt
theorem are_shares_yes {m : Nat} {ps : Ts} {t : Int → Int} {N : Nat} (hm : m ≤ 8) (hm2 : 2 ≤ m) (h : Gd m t N) : S_are_shares [webD m ps, .tuple (shr m t N)] = .ok (.bool true, none) := by
  have z := lc_ok (own := [2]) (w := wSeq (fVar 1)) (b := bName 2) (t := tYesD) (f := fCall S_is_fraction (aCons (fVar 2) aNil)) (δ := [some (.v (webD m ps)), some (.v (.tuple (shr m t N))), none]) (ds := shr m t N) (e := fun d => .bool ((fun _ => true) d)) (by
      generalize webD m ps = wb
      generalize shr m t N = l1
      simp) (by rw [shr_len, PySem.sizeLine_eq]; omega) rfl (fun d hd => by
      unfold shr at hd
      obtain ⟨x, _, rfl⟩ := List.mem_map.mp hd
      have fy := is_fraction_yes (h.md x)
      refine ⟨[some (.v (webD m ps)), some (.v (.tuple (shr m t N))), some (.v (pairD (rd (t x) N)))], ?_, ?_, ?_⟩
      · generalize webD m ps = wb
        generalize shr m t N = l1
        generalize pairD (rd (t x) N) = d1
        simp [anchD, wipeD, anch1]
      · generalize webD m ps = wb
        generalize shr m t N = l1
        generalize pairD (rd (t x) N) = d1 at *
        simp [fy]
      · generalize webD m ps = wb
        generalize shr m t N = l1
        generalize pairD (rd (t x) N) = d1
        simp [anchD, wipeD, anch1])
  have al := all_bools (fun _ => true) (shr m t N)
  have al : oAll (.list ((shr m t N).map fun d => .bool ((fun _ => true) d))) = some (.bool true) := by
    rw [al, List.all_eq_true.mpr fun _ _ => rfl]
  have z2 := lc_ok (own := [2]) (w := wSeq (fVar 1)) (b := bName 2) (t := tYesD) (f := fIxv 2 (fC (.int 0))) (δ := [some (.v (webD m ps)), some (.v (.tuple (shr m t N))), none]) (ds := shr m t N) (e := fun d => .int (prOf d).1) (by
      generalize webD m ps = wb
      generalize shr m t N = l1
      simp) (by rw [shr_len, PySem.sizeLine_eq]; omega) rfl (fun d hd => by
      unfold shr at hd
      obtain ⟨x, _, rfl⟩ := List.mem_map.mp hd
      obtain ⟨x0, _⟩ := pr_at (rd (t x) N)
      refine ⟨[some (.v (webD m ps)), some (.v (.tuple (shr m t N))), some (.v (pairD (rd (t x) N)))], ?_, ?_, ?_⟩
      · generalize webD m ps = wb
        generalize shr m t N = l1
        generalize pairD (rd (t x) N) = d1
        simp [anchD, wipeD, anch1]
      · rw [prOf_pair]
        generalize webD m ps = wb
        generalize shr m t N = l1
        unfold pairD
        simp [x0]
      · generalize webD m ps = wb
        generalize shr m t N = l1
        generalize pairD (rd (t x) N) = d1
        simp [anchD, wipeD, anch1])
  have e2 : (shr m t N).map (fun d => PyData.int (prOf d).1) = ((Gr.upTo m).map fun x => (rd (t x) N).1).map .int := by
    unfold shr
    (rw [List.map_map, List.map_map])
    rfl
  rw [e2] at z2
  obtain ⟨mn, mn0, hmn⟩ := min_nn ((Gr.upTo m).map fun x => (rd (t x) N).1) (fun e => by
    have := congrArg List.length e
    rw [List.length_map, upTo_len, List.length_nil] at this
    omega) (fun y hy => by
    obtain ⟨x, _, rfl⟩ := List.mem_map.mp hy
    have := (h.top x).1
    exact Int.ediv_nonneg this (Int.natCast_nonneg _))
  have tt := (h.total hm).1
  have a0 := atW0 m ps
  have ll : oLen (.tuple (shr m t N)) = some (.int (m : Int)) := by rw [oLen_tuple, shr_len]
  have q1 : oEq (.tuple [.int 1, .int 1]) (.tuple [.int 1, .int 1]) = some (.bool true) := by kernel_rfl
  refine run_rt (g := g_are_shares) (δ := [some (.v (webD m ps)), some (.v (.tuple (shr m t N))), none]) ?_ rfl
  show g_are_shares [some (.v (webD m ps)), some (.v (.tuple (shr m t N))), none] = _
  unfold g_are_shares
  refine sq (δ1 := [some (.v (webD m ps)), some (.v (.tuple (shr m t N))), none]) ?_ ?_
  · have it : oIsi "tuple" (.tuple (shr m t N)) = some (.bool true) := rfl
    have e3 : (fT (f1 oAll (fLc [2] (wSeq (fVar 1)) (bName 2) tYesD (fCall S_is_fraction (aCons (fVar 2) aNil))))) [some (.v (webD m ps)), some (.v (.tuple (shr m t N))), none] = .ok (true, [some (.v (webD m ps)), some (.v (.tuple (shr m t N))), none]) := by
      rw [ev_T, ev_f1, z]
      simp only [Rs.bind_ok, al, lift_some]
      rfl
    have e4 : (fOrT (fT (f2 oNe (f1 oLen (fBar 1)) (fIxv 0 (fC (.int 0))))) (fNotT (fT (f1 oAll (fLc [2] (wSeq (fVar 1)) (bName 2) tYesD (fCall S_is_fraction (aCons (fVar 2) aNil))))))) [some (.v (webD m ps)), some (.v (.tuple (shr m t N))), none] = .ok (false, [some (.v (webD m ps)), some (.v (.tuple (shr m t N))), none]) := by
      have e5 : (fT (f2 oNe (f1 oLen (fBar 1)) (fIxv 0 (fC (.int 0))))) [some (.v (webD m ps)), some (.v (.tuple (shr m t N))), none] = .ok (false, [some (.v (webD m ps)), some (.v (.tuple (shr m t N))), none]) := by
        unfold webD
        generalize ps.map pairD = ts at *
        generalize shr m t N = l1 at *
        simp [-oLen_tuple, ll, a0, oNe_int]
      rw [ev_orT, e5]
      simp only [Rs.bind_ok]
      rw [if_neg (by decide), ev_notT, e3]
      rfl
    have e6 : (fNotT (fT (f1 (oIsi "tuple") (fBar 1)))) [some (.v (webD m ps)), some (.v (.tuple (shr m t N))), none] = .ok (false, [some (.v (webD m ps)), some (.v (.tuple (shr m t N))), none]) := by
      generalize webD m ps = wb
      generalize shr m t N = l1 at *
      simp [-oIsi_tuple, it]
    rw [ev_gif, ev_orT, e6]
    simp only [Rs.bind_ok]
    rw [if_neg (by decide), e4]
    rfl
  · rw [ev_ret, ev_andV, ev_f2, ev_f1, z2]
    simp only [Rs.bind_ok, hmn, lift_some]
    generalize webD m ps = wb
    generalize shr m t N = l1 at *
    simp [mn0, tt, q1, PySem.sizeLine_eq]
theorem stepped_eq {m : Nat} {ps : Ts} {t : Int → Int} {N : Nat} (w : WebOk m ps) (hz : ps.length < 64) (h : Gd m t N) : S_stepped [webD m ps, .tuple (shr m t N)] = .ok (.tuple (shr m (fwd m ps (wgt m ps) t) (N * 420)), none) := by
  have c := web_chk w hz
  have a := are_shares_yes (ps := ps) w.hi w.lo h
  have s := stepped_by_eq w h.toMs
  refine run_rt (g := g_stepped) (δ := [some (.v (webD m ps)), some (.v (.tuple (shr m t N)))]) ?_ rfl
  show g_stepped [some (.v (webD m ps)), some (.v (.tuple (shr m t N)))] = _
  unfold g_stepped
  generalize shr m (fwd m ps (wgt m ps) t) (N * 420) = l2 at *
  generalize shr m t N = l1 at *
  generalize webD m ps = wb at *
  simp [c, a, s]
theorem still_of_eq {m : Nat} {ps : Ts} (w : WebOk m ps) (hz : ps.length < 64) (hp : 0 < ps.length) : S_still_of [webD m ps] = .ok (.tuple (shr m (dgI m ps) (2 * ps.length)), none) := by
  have hm := w.hi
  have im : i62 (m : Int) = true := i62_small (by omega) (by omega)
  have a0 := atW0 m ps
  have a1 := atW1 m ps
  have ru := rngD_up m
  have l1 : oLen (.tuple (ps.map pairD)) = some (.int (ps.length : Int)) := by rw [oLen_tuple, List.length_map]
  have mu : oMul (.int 2) (.int (ps.length : Int)) = some (.int ((2 * ps.length : Nat) : Int)) := by
    rw [big_mul (a := 3) (b := 10) (by decide) (by rw [Int.natAbs_natCast]; omega) (by decide) (by decide) (by decide), Int.natCast_mul]
    rfl
  have z := lc_ok (own := [1]) (w := wRng1 (fIxv 0 (fC (.int 0)))) (b := bName 1) (t := tYesD) (f := fCall S_made (aCons (f1 oLen (fCall S_near (aCons (fVar 0) (aCons (fVar 1) aNil)))) (aCons (f2 oMul (fC (.int 2)) (f1 oLen (fIxv 0 (fC (.int 1))))) aNil))) (δ := [some (.v (webD m ps)), none]) (ds := (Gr.upTo m).map .int) (e := fun d => pairD (rd (dgI m ps (intI d)) (2 * ps.length))) (by
      unfold webD
      generalize ps.map pairD = ts at *
      simp [a0, im, ru]) (by rw [List.length_map, upTo_len, PySem.sizeLine_eq]; omega) rfl (fun d hd => by
      obtain ⟨o, ho, rfl⟩ := List.mem_map.mp hd
      have no := near_eq (ps := ps) hm o
      have md := made_eq (t := dgI m ps o) (n := 2 * ps.length) (by omega) (by have := two_le (a := 8) (b := 2900) (by decide); omega)
      have ll : oLen (.tuple ((nb m ps o).map .int)) = some (.int (dgI m ps o)) := by rw [oLen_tuple, List.length_map]; rfl
      have i1 : fIxv 0 (fC (.int 1)) [some (.v (webD m ps)), some (.v (.int o))] = .ok (.tuple (ps.map pairD), [some (.v (webD m ps)), some (.v (.int o))]) := by
        unfold webD
        generalize ps.map pairD = ts at *
        simp [a1]
      refine ⟨[some (.v (webD m ps)), some (.v (.int o))], ?_, ?_, ?_⟩
      · simp [anchD, wipeD, anch1]
      · show _ = Rs.ok (pairD (rd (dgI m ps o) (2 * ps.length)), _)
        have e1 : (f2 oMul (fC (.int 2)) (f1 oLen (fIxv 0 (fC (.int 1))))) [some (.v (webD m ps)), some (.v (.int o))] = .ok (.int ((2 * ps.length : Nat) : Int), [some (.v (webD m ps)), some (.v (.int o))]) := by
          rw [ev_f2, ev_c]
          simp only [Rs.bind_ok]
          rw [ev_f1, i1]
          simp only [Rs.bind_ok, l1, lift_some, mu]
        have e2 : (f1 oLen (fCall S_near (aCons (fVar 0) (aCons (fVar 1) aNil)))) [some (.v (webD m ps)), some (.v (.int o))] = .ok (.int (dgI m ps o), [some (.v (webD m ps)), some (.v (.int o))]) := by
          generalize webD m ps = wb at *
          generalize dgI m ps o = dd at *
          generalize (nb m ps o).map PyData.int = l2 at *
          simp [-oLen_tuple, no, ll]
        rw [ev_call, ev_cons, e2]
        simp only [Rs.bind_ok]
        rw [ev_cons, e1]
        simp only [Rs.bind_ok, ev_nil, md]
      · simp [anchD, wipeD, anch1])
  refine run_rt (g := g_still_of) (δ := [some (.v (webD m ps)), none]) ?_ rfl
  show g_still_of [some (.v (webD m ps)), none] = _
  unfold g_still_of
  rw [ev_ret, ev_f1, z, List.map_map]
  rfl
theorem still_eq {m : Nat} {ps : Ts} (w : WebOk m ps) (hz : ps.length < 64) (hp : 0 < ps.length) : S_still [webD m ps] = .ok (.tuple (shr m (dgI m ps) (2 * ps.length)), none) := by
  have c := web_chk w hz
  have s := still_of_eq w hz hp
  refine run_rt (g := g_still) (δ := [some (.v (webD m ps))]) ?_ rfl
  show g_still [some (.v (webD m ps))] = _
  unfold g_still
  generalize shr m (dgI m ps) (2 * ps.length) = l1 at *
  generalize webD m ps = wb at *
  simp [c, s]
theorem still_gd {m : Nat} {ps : Ts} (w : WebOk m ps) (hz : ps.length < 64) (hp : 0 < ps.length) : Gd m (dgI m ps) (2 * ps.length) := by
  have hm := w.hi
  refine ⟨⟨by omega, ?_, fun o => ?_⟩, ?_⟩
  · have := two_le (a := 8) (b := 300) (by decide)
    omega
  · have h1 := nb_len m ps o
    have h2 : (8 : Nat) ≤ 2 ^ 400 := Nat.le_trans (by decide) (two_le (a := 3) (b := 400) (by decide))
    unfold dgI dg
    (refine ⟨Int.natCast_nonneg _, ?_⟩)
    have : (nb m ps o).length ≤ 2 ^ 400 := by omega
    exact_mod_cast this
  · rw [sum_dg w, Int.natCast_mul]
    rfl
theorem is_still_eq {m : Nat} {ps : Ts} {t : Int → Int} {N : Nat} (w : WebOk m ps) (hz : ps.length < 64) (hp : 0 < ps.length) (h : Gd m t N) : S_is_still [webD m ps, .tuple (shr m t N)] = .ok (.bool (decide (shP m t N = shP m (dgI m ps) (2 * ps.length))), none) := by
  have c := web_chk w hz
  have a := are_shares_yes (ps := ps) w.hi w.lo h
  have s := still_of_eq w hz hp
  have e := eq_tp (shP m t N) (shP m (dgI m ps) (2 * ps.length))
  rw [← shr_P, ← shr_P] at e
  refine run_rt (g := g_is_still) (δ := [some (.v (webD m ps)), some (.v (.tuple (shr m t N)))]) ?_ rfl
  show g_is_still [some (.v (webD m ps)), some (.v (.tuple (shr m t N)))] = _
  unfold g_is_still
  generalize shr m (dgI m ps) (2 * ps.length) = l2 at *
  generalize shr m t N = l1 at *
  generalize webD m ps = wb at *
  simp [c, a, s, e]
/-- two fractions together -/
theorem ltimes_gen {t s : Int} {n m : Nat} (h : Md t n) (k : Md s m) : S__law_times [pairD (rd t n), pairD (rd s m)] = .ok (pairD (rd (t * s) (n * m)), none) := by
  obtain ⟨q, e1, q0, qn, ql⟩ := h.b
  obtain ⟨q', e2, q0', qm, ql'⟩ := k.b
  have a1 := h.a
  have a2 := k.a
  have bq : ((q : Int)).natAbs < 2 ^ 1400 := by rw [Int.natAbs_natCast]; exact ql
  have bq' : ((q' : Int)).natAbs < 2 ^ 1400 := by rw [Int.natAbs_natCast]; exact ql'
  have c1 := rd_cross t n
  have c2 := rd_cross s m
  have m1 := big_mul a1 a2 (by decide) (by decide) (by decide)
  have m2 : oMul (.int (rd t n).2) (.int (rd s m).2) = some (.int ((q * q' : Nat) : Int)) := by
    rw [e1, e2, big_mul bq bq' (by decide) (by decide) (by decide), Int.natCast_mul]
  have er : rd ((rd t n).1 * (rd s m).1) (q * q') = rd (t * s) (n * m) := by
    refine rd_eq (Nat.mul_pos q0 q0') (Nat.mul_pos h.pos k.pos) ?_
    rw [e1] at c1
    rw [e2] at c2
    rw [Int.natCast_mul, Int.natCast_mul]
    have x1 : (rd t n).1 * (rd s m).1 * ((n : Int) * m) = ((rd t n).1 * n) * ((rd s m).1 * m) := by
      simp only [Int.mul_assoc, Int.mul_left_comm, Int.mul_comm]
    have x2 : t * s * ((q : Int) * q') = (t * q) * (s * q') := by
      simp only [Int.mul_assoc, Int.mul_left_comm, Int.mul_comm]
    rw [x1, x2, c1, c2]
  have md := lfr_eq (t := (rd t n).1 * (rd s m).1) (n := q * q') (Nat.mul_pos q0 q0') (Nat.lt_of_lt_of_le (lt_mul ql ql') (two_le (by decide)))
  rw [er] at md
  obtain ⟨x0, x1⟩ := pr_at (rd t n)
  obtain ⟨y0, y1⟩ := pr_at (rd s m)
  refine run_rt (g := g__law_times) (δ := [some (.v (pairD (rd t n))), some (.v (pairD (rd s m)))]) ?_ rfl
  show g__law_times [some (.v (pairD (rd t n))), some (.v (pairD (rd s m)))] = _
  unfold g__law_times
  generalize pairD (rd (t * s) (n * m)) = res at *
  clear er
  generalize q * q' = bt at *
  unfold pairD
  simp [-oMul_int, x0, x1, y0, y1, m1, m2, md]
end Kc

set_option maxRecDepth 100000
set_option maxHeartbeats 3900000
namespace K13
open PySem L2 Pw
open Kc
abbrev topS (i : Nat) : Stmt := PySem.Challenge.pw_treewalkers_k13_whole_walks.main.body.getD i (.Pass ⟨0, 0, 0, 0⟩)

/-- the heap's facts -/
structure Fx (K : PySem.W.Frag) (mg : Str → Option Value) : Prop where
  f_abs : mg "abs" = none
  f_all : mg "all" = none
  f_bool : mg "bool" = none
  f_int : mg "int" = none
  f_isinstance : mg "isinstance" = none
  f_len : mg "len" = none
  f_list : mg "list" = none
  f_max : mg "max" = none
  f_min : mg "min" = none
  f_range : mg "range" = none
  f_set : mg "set" = none
  f_sorted : mg "sorted" = none
  f_sum : mg "sum" = none
  f_tuple : mg "tuple" = none
  f_zip : mg "zip" = none
  c_LEAST_PLACES : ∃ t, mg "LEAST_PLACES" = some (.int 2 t)
  c_MOST_PLACES : ∃ t, mg "MOST_PLACES" = some (.int 8 t)
  c_MOST_STEPS : ∃ t, mg "MOST_STEPS" = some (.int 30 t)
  g_WalkError : mg "WalkError" = some (.ref (He.ga K "WalkError"))
  g_NoWeb : mg "NoWeb" = some (.ref (He.ga K "NoWeb"))
  g_NoPlace : mg "NoPlace" = some (.ref (He.ga K "NoPlace"))
  g_NoNumber : mg "NoNumber" = some (.ref (He.ga K "NoNumber"))
  g_NoShares : mg "NoShares" = some (.ref (He.ga K "NoShares"))
  e_WalkError : PySem.W.excIn K (He.ga K "WalkError") He.veBase "ValueError.__new__" = true ∧ PySem.W.keepIn K (.ref (He.ga K "WalkError")) = true ∧ PySem.W.subIn K (.ref (He.ga K "WalkError")) (.type "BaseException") = some true ∧ PySem.W.typeIn K (.ref (He.ga K "WalkError")) = some (.type "type")
  e_NoWeb : PySem.W.excIn K (He.ga K "NoWeb") He.veBase "ValueError.__new__" = true ∧ PySem.W.keepIn K (.ref (He.ga K "NoWeb")) = true ∧ PySem.W.subIn K (.ref (He.ga K "NoWeb")) (.type "BaseException") = some true ∧ PySem.W.typeIn K (.ref (He.ga K "NoWeb")) = some (.type "type")
  e_NoPlace : PySem.W.excIn K (He.ga K "NoPlace") He.veBase "ValueError.__new__" = true ∧ PySem.W.keepIn K (.ref (He.ga K "NoPlace")) = true ∧ PySem.W.subIn K (.ref (He.ga K "NoPlace")) (.type "BaseException") = some true ∧ PySem.W.typeIn K (.ref (He.ga K "NoPlace")) = some (.type "type")
  e_NoNumber : PySem.W.excIn K (He.ga K "NoNumber") He.veBase "ValueError.__new__" = true ∧ PySem.W.keepIn K (.ref (He.ga K "NoNumber")) = true ∧ PySem.W.subIn K (.ref (He.ga K "NoNumber")) (.type "BaseException") = some true ∧ PySem.W.typeIn K (.ref (He.ga K "NoNumber")) = some (.type "type")
  e_NoShares : PySem.W.excIn K (He.ga K "NoShares") He.veBase "ValueError.__new__" = true ∧ PySem.W.keepIn K (.ref (He.ga K "NoShares")) = true ∧ PySem.W.subIn K (.ref (He.ga K "NoShares")) (.type "BaseException") = some true ∧ PySem.W.typeIn K (.ref (He.ga K "NoShares")) = some (.type "type")
  sys : (K.lookup sysModules).isSome = true


































def g_law : Dv → Rs (Fl × Dv) := (gSeq (gFor (wRng1 (fB2 gMax (fC (.int 1)) (fB2 gMin (f1 oLen (fBar 0)) (fC (.int 5))))) (bName 1) (gSeq (gSetO 2 (fCall S__law_pot (aCons (fCall S__law_cell_at (aCons (fVar 0) (aCons (fVar 1) aNil))) aNil))) (gSeq (gSet 3 (fCallM S__law_web 2 (aCons (fC (.int 8)) (aCons (fC (.int 1)) aNil)))) (gSeq (gSet 4 (fCallM S__law_take 2 (aCons (fC (.int 12)) aNil))) (gSeq (gSet 5 (fCallM S__law_take 2 (aCons (fC (.int 12)) aNil))) (gSeq (gSet 6 (fCallM S__law_take 2 (aCons (fIxv 3 (fC (.int 0))) aNil))) (gSeq (gSet 7 (fCallM S__law_take 2 (aCons (fIxv 3 (fC (.int 0))) aNil))) (gSeq (gPar [9, 10, 11] (aCons (fCall S_after (aCons (fVar 3) (aCons (fVar 6) (aCons (fVar 4) aNil)))) (aCons (fCall S_after (aCons (fVar 3) (aCons (fVar 7) (aCons (fVar 4) aNil)))) (aCons (fCall S_still (aCons (fVar 3) aNil)) aNil)))) (gSeq (gIf (fOrT (fT (f2 oNe (fCall S__law_total (aCons (fVar 9) aNil)) (fTup (aCons (fC (.int 1)) (aCons (fC (.int 1)) aNil))))) (fT (f2 oNe (fCall S_stepped (aCons (fVar 3) (aCons (fVar 9) aNil))) (fCall S_after (aCons (fVar 3) (aCons (fVar 6) (aCons (f2 oAdd (fVar 4) (fC (.int 1))) aNil))))))) (gRet (fC (.bool false))) gNx) (gSeq (gIf (fOrT (fT (f2 oNe (fCall S_stepped (aCons (fVar 3) (aCons (fVar 11) aNil))) (fVar 11))) (fT (f2 oNotN (fCall S_is_still (aCons (fVar 3) (aCons (fVar 11) aNil))) (fC (.bool true))))) (gRet (fC (.bool false))) gNx) (gSeq (gIf (fT (f2 oNe (fCall S_is_still (aCons (fVar 3) (aCons (fVar 9) aNil))) (f2 oEq (fVar 9) (fVar 11)))) (gRet (fC (.bool false))) gNx) (gSeq (gIf (fT (f2 oNe (fCall S__law_times (aCons (fIxv 11 (fVar 6)) (aCons (fIxv 9 (fVar 7)) aNil))) (fCall S__law_times (aCons (fIxv 11 (fVar 7)) (aCons (fIxv 10 (fVar 6)) aNil))))) (gRet (fC (.bool false))) gNx) (gSeq (gIf (fT (f2 oNe (fCall S_ways (aCons (fVar 3) (aCons (fVar 6) (aCons (fVar 7) (aCons (fVar 4) aNil))))) (fCall S_ways (aCons (fVar 3) (aCons (fVar 7) (aCons (fVar 6) (aCons (fVar 4) aNil))))))) (gRet (fC (.bool false))) gNx) (gSeq (gIf (fAndT (fT (f2 oEq (fVar 1) (fC (.int 0)))) (fT (f2 oNe (fCall S_stepped (aCons (fVar 3) (aCons (fCall S_after (aCons (fVar 3) (aCons (fVar 6) (aCons (fC (.int 29)) aNil)))) aNil))) (fCall S_after (aCons (fVar 3) (aCons (fVar 6) (aCons (fC (.int 30)) aNil))))))) (gRet (fC (.bool false))) gNx) (gSeq (gSet 8 (fLc [12] (wRng1 (fIxv 3 (fC (.int 0)))) (bName 12) tYesD (f2 oMul (fCall S_ways (aCons (fVar 3) (aCons (fVar 6) (aCons (fVar 12) (aCons (fVar 4) aNil))))) (fCall S_ways (aCons (fVar 3) (aCons (fVar 12) (aCons (fVar 7) (aCons (fVar 5) aNil)))))))) (gIf (fT (f2 oNe (f1 oSum (fBar 8)) (fCall S_ways (aCons (fVar 3) (aCons (fVar 6) (aCons (fVar 7) (aCons (f2 oAdd (fVar 4) (fVar 5)) aNil))))))) (gRet (fC (.bool false))) gNx)))))))))))))))) (gRet (fC (.bool true))))
def S_law : Sm := runD 13 none g_law

section
variable {P : Program}
variable {w : World} {K : PySem.W.Frag} {mg : Str → Option Value} {base : Heap}

theorem sc__law_cell_at : FnScope ["_law_script", "_law_k"] ["_law_script", "_law_k"] (defScope (topS 39)) := ⟨rfl, rfl, rfl, by decide +kernel, rfl, by decide +kernel, by decide +kernel⟩
theorem b__law_cell_at (hx : Fx K mg)  (cdv : Value) (f : Addr) (A : Around) (outer : List Env) (s : Shared) (H : Hp) (E : XK) (hr : Room 0 (A.deeper (PyProof.Rows.envOfC "_law_cell_at" (defScope (topS 39)) s.heap.objs.size f cdv))) :
    Pss (cxOf (L2N.CX P w) P w K mg base ["_law_script", "_law_k"] "_law_cell_at" (defScope (topS 39)) f cdv A outer s H E) (clK K) (fun c d _ H => E c d H) .F (defBody (topS 39)) g__law_cell_at :=
  (s_cons (s_if (t_lt hr (m_var 1 (pv 1)) (m_b1 call_len is_len (by rfl) hx.f_len (by rfl) (m_bar 0 (pv 0)) (by decide) (by decide) (by rfl) (by rfl))) (s_one (s_ret (m_ixv 0 (pv 0) (m_var 1 (pv 1)) (fun _ _ => rfl)))) s_nil) (s_one (s_ret m_int)))
theorem d__law_cell_at (hx : Fx K mg)  {f : Addr} {fd : FuncData} (hm : mg "_law_cell_at" = some (.ref f)) (Fn : Fun K "_law_cell_at" "_law_cell_at" (topS 39) f fd) : Df P w K mg base 1 "_law_cell_at" 2 none .F S__law_cell_at :=
  def_d (kr := .F) (msk := none) hm Fn (fun z => by cases z) (fun z => by cases z) sc__law_cell_at rfl (fun _ _ _ _ _ _ us hl => match us, hl with | [_, _], _ => rfl) (fun cdv A outer s H E hr => b__law_cell_at hx  cdv f A outer s H E hr)

theorem sc__law_pot : FnScope ["_law_cell", "_law_number", "_law_j", "_law_mixed"] ["_law_cell"] (defScope (topS 40)) := ⟨rfl, rfl, rfl, by decide +kernel, rfl, by decide +kernel, by decide +kernel⟩
theorem b__law_pot (hx : Fx K mg)  (cdv : Value) (f : Addr) (A : Around) (outer : List Env) (s : Shared) (H : Hp) (E : XK) (hr : Room 0 (A.deeper (PyProof.Rows.envOfC "_law_pot" (defScope (topS 40)) s.heap.objs.size f cdv))) :
    Pss (cxOf (L2N.CX P w) P w K mg base ["_law_cell", "_law_number", "_law_j", "_law_mixed"] "_law_pot" (defScope (topS 40)) f cdv A outer s H E) (clK K) (fun c d _ H => E c d H) .O (defBody (topS 40)) g__law_pot :=
  (s_cons (s_if (t_ge (m_var 0 (pv 0)) (m_pow m_int m_int)) (s_one (s_ret (m_lstO (a_cons (m_sub (m_var 0 (pv 0)) (m_pow m_int m_int)) a_nil (by rfl))))) s_nil) (s_cons (s_set 1 sc__law_pot.nd (by rfl) (Or.inl rfl) m_int (by rfl) (Or.inr rfl)) (s_cons (s_for (passes_of rfl) rfl (i_rng1 (by rfl) hx.f_range m_int (by rfl)) (g_name 2 (pg_name sc__law_pot.nd (by rfl) (Or.inl rfl))) (s_cons (s_set 3 sc__law_pot.nd (by rfl) (Or.inl rfl) (m_mod (m_mul (m_add (m_add (m_mod (m_var 0 (pv 0)) m_int) (m_mul m_int (m_var 2 (pv 2)))) m_int) m_int) m_int) (by rfl) (Or.inr rfl)) (s_cons (s_set 3 sc__law_pot.nd (by rfl) (Or.inl rfl) (m_mod (m_add (m_add (m_mul (m_var 3 (pv 3)) (m_var 3 (pv 3))) (m_mul m_int (m_var 2 (pv 2)))) m_int) m_int) (by rfl) (Or.inr rfl)) (s_one (s_set 1 sc__law_pot.nd (by rfl) (Or.inl rfl) (m_add (m_mul (m_var 1 (pv 1)) m_int) (m_var 3 (pv 3))) (by rfl) (Or.inr rfl))))) (fun _ => rfl)) (s_one (s_ret (m_lstO (a_cons (m_var 1 (pv 1)) a_nil (by rfl))))))))
theorem d__law_pot (hx : Fx K mg)  {f : Addr} {fd : FuncData} (hm : mg "_law_pot" = some (.ref f)) (Fn : Fun K "_law_pot" "_law_pot" (topS 40) f fd) : Df P w K mg base 1 "_law_pot" 1 none .O S__law_pot :=
  def_d (kr := .O) (msk := none) hm Fn (fun z => by cases z) (fun _ => (nnx_seq (nnx_seq (nnx_seq nnx_ret)))) sc__law_pot rfl (fun _ _ _ _ _ _ us hl => match us, hl with | [_], _ => rfl) (fun cdv A outer s H E hr => b__law_pot hx  cdv f A outer s H E hr)

theorem sc__law_take : FnScope ["_law_pot_here", "_law_far", "_law_found"] ["_law_pot_here", "_law_far"] (defScope (topS 41)) := ⟨rfl, rfl, rfl, by decide +kernel, rfl, by decide +kernel, by decide +kernel⟩
theorem b__law_take (hx : Fx K mg)  (cdv : Value) (f : Addr) (A : Around) (outer : List Env) (s : Shared) (H : Hp) (E : XK) (hr : Room 0 (A.deeper (PyProof.Rows.envOfC "_law_take" (defScope (topS 41)) s.heap.objs.size f cdv))) :
    Pss (cxOf (L2N.CX P w) P w K mg base ["_law_pot_here", "_law_far", "_law_found"] "_law_take" (defScope (topS 41)) f cdv A outer s H E) (clK K) (fun c d _ H => E c d H) .F (defBody (topS 41)) g__law_take :=
  (s_cons (s_set 2 sc__law_take.nd (by rfl) (Or.inl rfl) (m_mod (m_ixv 0 (pv 0) m_int (fun _ _ => rfl)) (m_var 1 (pv 1))) (by rfl) (Or.inr rfl)) (s_cons (s_subL (i := 0) (pv 0) m_int (m_div (m_ixv 0 (pv 0) m_int (fun _ _ => rfl)) (m_var 1 (pv 1))) (by rfl) (by rfl) (by rfl) (fun _ => rfl)) (s_one (s_ret (m_var 2 (pv 2))))))
theorem d__law_take (hx : Fx K mg)  {f : Addr} {fd : FuncData} (hm : mg "_law_take" = some (.ref f)) (Fn : Fun K "_law_take" "_law_take" (topS 41) f fd) : Df P w K mg base 1 "_law_take" 2 (some 0) .F S__law_take :=
  def_d (kr := .F) (msk := (some 0)) hm Fn (fun z => by cases z) (fun z => by cases z) sc__law_take rfl (fun _ _ _ _ _ _ us hl => match us, hl with | [_, _], _ => rfl) (fun cdv A outer s H E hr => b__law_take hx  cdv f A outer s H E hr)

theorem sc__law_fr : FnScope ["_law_top", "_law_bottom", "_law_one", "_law_other"] ["_law_top", "_law_bottom"] (defScope (topS 42)) := ⟨rfl, rfl, rfl, by decide +kernel, rfl, by decide +kernel, by decide +kernel⟩
theorem b__law_fr (hx : Fx K mg)  (cdv : Value) (f : Addr) (A : Around) (outer : List Env) (s : Shared) (H : Hp) (E : XK) (hr : Room 0 (A.deeper (PyProof.Rows.envOfC "_law_fr" (defScope (topS 42)) s.heap.objs.size f cdv))) :
    Pss (cxOf (L2N.CX P w) P w K mg base ["_law_top", "_law_bottom", "_law_one", "_law_other"] "_law_fr" (defScope (topS 42)) f cdv A outer s H E) (clK K) (fun c d _ H => E c d H) .F (defBody (topS 42)) g__law_fr :=
  (s_cons (s_par 2 3 rfl sc__law_fr.nd (by rfl) (by rfl) (by decide) (by rfl) (by rfl) (a_cons (m_b1 call_abs is_abs (by rfl) hx.f_abs (by rfl) (m_bar 0 (pv 0)) (by decide) (by decide) (by rfl) (by rfl)) (a_cons (m_b1 call_abs is_abs (by rfl) hx.f_abs (by rfl) (m_bar 1 (pv 1)) (by decide) (by decide) (by rfl) (by rfl)) a_nil (by rfl)) (by rfl)) (by rfl) (by rfl)) (s_cons (s_while 6000 (passes_of rfl) (t_ne hr (m_var 3 (pv 3)) m_int) (s_one (s_par 2 3 rfl sc__law_fr.nd (by rfl) (by rfl) (by decide) (by rfl) (by rfl) (a_cons (m_var 3 (pv 3)) (a_cons (m_mod (m_var 2 (pv 2)) (m_var 3 (pv 3))) a_nil (by rfl)) (by rfl)) (by rfl) (by rfl)))) (s_cons (s_if (t_lt hr (m_var 1 (pv 1)) m_int) (s_one (s_set 2 sc__law_fr.nd (by rfl) (Or.inl rfl) (m_sub m_int (m_var 2 (pv 2))) (by rfl) (Or.inr rfl))) s_nil) (s_one (s_ret (m_tup (a_cons (m_div (m_var 0 (pv 0)) (m_var 2 (pv 2))) (a_cons (m_div (m_var 1 (pv 1)) (m_var 2 (pv 2))) a_nil (by rfl)) (by rfl))))))))
theorem d__law_fr (hx : Fx K mg)  {f : Addr} {fd : FuncData} (hm : mg "_law_fr" = some (.ref f)) (Fn : Fun K "_law_fr" "_law_fr" (topS 42) f fd) : Df P w K mg base 1 "_law_fr" 2 none .F S__law_fr :=
  def_d (kr := .F) (msk := none) hm Fn (fun z => by cases z) (fun z => by cases z) sc__law_fr rfl (fun _ _ _ _ _ _ us hl => match us, hl with | [_, _], _ => rfl) (fun cdv A outer s H E hr => b__law_fr hx  cdv f A outer s H E hr)

theorem sc__law_times : FnScope ["_law_one", "_law_other"] ["_law_one", "_law_other"] (defScope (topS 44)) := ⟨rfl, rfl, rfl, by decide +kernel, rfl, by decide +kernel, by decide +kernel⟩
theorem b__law_times (hx : Fx K mg) (D__law_fr : Df P w K mg base 1 "_law_fr" 2 none .F S__law_fr) (cdv : Value) (f : Addr) (A : Around) (outer : List Env) (s : Shared) (H : Hp) (E : XK) (hr : Room 1 (A.deeper (PyProof.Rows.envOfC "_law_times" (defScope (topS 44)) s.heap.objs.size f cdv))) :
    Pss (cxOf (L2N.CX P w) P w K mg base ["_law_one", "_law_other"] "_law_times" (defScope (topS 44)) f cdv A outer s H E) (clK K) (fun c d _ H => E c d H) .F (defBody (topS 44)) g__law_times :=
  (s_one (s_ret (m_callD (kr := .F) D__law_fr hr (by decide) (L2N.takes_of rfl rfl rfl rfl) (by rfl) (a_cons (m_mul (m_ixv 0 (pv 0) m_int (fun _ _ => rfl)) (m_ixv 1 (pv 1) m_int (fun _ _ => rfl))) (a_cons (m_mul (m_ixv 0 (pv 0) m_int (fun _ _ => rfl)) (m_ixv 1 (pv 1) m_int (fun _ _ => rfl))) a_nil (by rfl)) (by rfl)) (len_cons (len_cons len_nil)) (by decide) (by rfl) (by rfl))))
theorem d__law_times (hx : Fx K mg) (D__law_fr : Df P w K mg base 1 "_law_fr" 2 none .F S__law_fr) {f : Addr} {fd : FuncData} (hm : mg "_law_times" = some (.ref f)) (Fn : Fun K "_law_times" "_law_times" (topS 44) f fd) : Df P w K mg base 2 "_law_times" 2 none .F S__law_times :=
  def_d (kr := .F) (msk := none) hm Fn (fun z => by cases z) (fun z => by cases z) sc__law_times rfl (fun _ _ _ _ _ _ us hl => match us, hl with | [_, _], _ => rfl) (fun cdv A outer s H E hr => b__law_times hx D__law_fr cdv f A outer s H E hr)

theorem sc__law_plus : FnScope ["_law_one", "_law_other"] ["_law_one", "_law_other"] (defScope (topS 43)) := ⟨rfl, rfl, rfl, by decide +kernel, rfl, by decide +kernel, by decide +kernel⟩
theorem b__law_plus (hx : Fx K mg) (D__law_fr : Df P w K mg base 1 "_law_fr" 2 none .F S__law_fr) (cdv : Value) (f : Addr) (A : Around) (outer : List Env) (s : Shared) (H : Hp) (E : XK) (hr : Room 1 (A.deeper (PyProof.Rows.envOfC "_law_plus" (defScope (topS 43)) s.heap.objs.size f cdv))) :
    Pss (cxOf (L2N.CX P w) P w K mg base ["_law_one", "_law_other"] "_law_plus" (defScope (topS 43)) f cdv A outer s H E) (clK K) (fun c d _ H => E c d H) .F (defBody (topS 43)) g__law_plus :=
  (s_one (s_ret (m_callD (kr := .F) D__law_fr hr (by decide) (L2N.takes_of rfl rfl rfl rfl) (by rfl) (a_cons (m_add (m_mul (m_ixv 0 (pv 0) m_int (fun _ _ => rfl)) (m_ixv 1 (pv 1) m_int (fun _ _ => rfl))) (m_mul (m_ixv 1 (pv 1) m_int (fun _ _ => rfl)) (m_ixv 0 (pv 0) m_int (fun _ _ => rfl)))) (a_cons (m_mul (m_ixv 0 (pv 0) m_int (fun _ _ => rfl)) (m_ixv 1 (pv 1) m_int (fun _ _ => rfl))) a_nil (by rfl)) (by rfl)) (len_cons (len_cons len_nil)) (by decide) (by rfl) (by rfl))))
theorem d__law_plus (hx : Fx K mg) (D__law_fr : Df P w K mg base 1 "_law_fr" 2 none .F S__law_fr) {f : Addr} {fd : FuncData} (hm : mg "_law_plus" = some (.ref f)) (Fn : Fun K "_law_plus" "_law_plus" (topS 43) f fd) : Df P w K mg base 2 "_law_plus" 2 none .F S__law_plus :=
  def_d (kr := .F) (msk := none) hm Fn (fun z => by cases z) (fun z => by cases z) sc__law_plus rfl (fun _ _ _ _ _ _ us hl => match us, hl with | [_, _], _ => rfl) (fun cdv A outer s H E hr => b__law_plus hx D__law_fr cdv f A outer s H E hr)

theorem sc__law_total : FnScope ["_law_some", "_law_found", "_law_one"] ["_law_some"] (defScope (topS 45)) := ⟨rfl, rfl, rfl, by decide +kernel, rfl, by decide +kernel, by decide +kernel⟩
theorem b__law_total (hx : Fx K mg) (D__law_plus : Df P w K mg base 2 "_law_plus" 2 none .F S__law_plus) (cdv : Value) (f : Addr) (A : Around) (outer : List Env) (s : Shared) (H : Hp) (E : XK) (hr : Room 2 (A.deeper (PyProof.Rows.envOfC "_law_total" (defScope (topS 45)) s.heap.objs.size f cdv))) :
    Pss (cxOf (L2N.CX P w) P w K mg base ["_law_some", "_law_found", "_law_one"] "_law_total" (defScope (topS 45)) f cdv A outer s H E) (clK K) (fun c d _ H => E c d H) .F (defBody (topS 45)) g__law_total :=
  (s_cons (s_set 1 sc__law_total.nd (by rfl) (Or.inl rfl) (m_tup (a_cons m_int (a_cons m_int a_nil (by rfl)) (by rfl))) (by rfl) (Or.inr rfl)) (s_cons (s_for (passes_of rfl) rfl (i_seq (m_var 0 (pv 0))) (g_name 2 (pg_name sc__law_total.nd (by rfl) (Or.inl rfl))) (s_one (s_set 1 sc__law_total.nd (by rfl) (Or.inl rfl) (m_callD (kr := .F) D__law_plus hr (by decide) (L2N.takes_of rfl rfl rfl rfl) (by rfl) (a_cons (m_var 1 (pv 1)) (a_cons (m_var 2 (pv 2)) a_nil (by rfl)) (by rfl)) (len_cons (len_cons len_nil)) (by decide) (by rfl) (by rfl)) (by rfl) (Or.inr rfl))) (fun _ => rfl)) (s_one (s_ret (m_var 1 (pv 1))))))
theorem d__law_total (hx : Fx K mg) (D__law_plus : Df P w K mg base 2 "_law_plus" 2 none .F S__law_plus) {f : Addr} {fd : FuncData} (hm : mg "_law_total" = some (.ref f)) (Fn : Fun K "_law_total" "_law_total" (topS 45) f fd) : Df P w K mg base 3 "_law_total" 1 none .F S__law_total :=
  def_d (kr := .F) (msk := none) hm Fn (fun z => by cases z) (fun z => by cases z) sc__law_total rfl (fun _ _ _ _ _ _ us hl => match us, hl with | [_], _ => rfl) (fun cdv A outer s H E hr => b__law_total hx D__law_plus cdv f A outer s H E hr)

theorem sc__law_web : FnScope ["_law_pot_here", "_law_most", "_law_thick", "_law_many", "_law_shape", "_law_extra", "_law_left", "_law_called", "_law_ties", "_law_place", "_law_turn", "_law_drawn_one", "_law_one", "_law_other"] ["_law_pot_here", "_law_most", "_law_thick"] (defScope (topS 46)) := ⟨rfl, rfl, rfl, by decide +kernel, rfl, by decide +kernel, by decide +kernel⟩
theorem b__law_web (hx : Fx K mg) (D__law_take : Df P w K mg base 1 "_law_take" 2 (some 0) .F S__law_take) (cdv : Value) (f : Addr) (A : Around) (outer : List Env) (s : Shared) (H : Hp) (E : XK) (hr : Room 1 (A.deeper (PyProof.Rows.envOfC "_law_web" (defScope (topS 46)) s.heap.objs.size f cdv))) :
    Pss (cxOf (L2N.CX P w) P w K mg base ["_law_pot_here", "_law_most", "_law_thick", "_law_many", "_law_shape", "_law_extra", "_law_left", "_law_called", "_law_ties", "_law_place", "_law_turn", "_law_drawn_one", "_law_one", "_law_other"] "_law_web" (defScope (topS 46)) f cdv A outer s H E) (clK K) (fun c d _ H => E c d H) .F (defBody (topS 46)) g__law_web :=
  (s_cons (s_set 3 sc__law_web.nd (by rfl) (Or.inl rfl) (m_add m_int (m_callMD (kr := .F) 0 D__law_take hr (by decide) (L2N.takes_of rfl rfl rfl rfl) (by rfl) (pv 0) (a_cons (m_sub (m_var 1 (pv 1)) m_int) a_nil (by rfl)) (len_cons len_nil) (by decide) (by rfl) (by rfl))) (by rfl) (Or.inr rfl)) (s_cons (s_set 4 sc__law_web.nd (by rfl) (Or.inl rfl) (m_callMD (kr := .F) 0 D__law_take hr (by decide) (L2N.takes_of rfl rfl rfl rfl) (by rfl) (pv 0) (a_cons m_int a_nil (by rfl)) (len_cons len_nil) (by decide) (by rfl) (by rfl)) (by rfl) (Or.inr rfl)) (s_cons (s_set 5 sc__law_web.nd (by rfl) (Or.inl rfl) (m_mul (m_ixs (m_f (m_lstO (a_cons m_int (a_cons m_int (a_cons m_int (a_cons m_int a_nil (by rfl)) (by rfl)) (by rfl)) (by rfl)))) (m_callMD (kr := .F) 0 D__law_take hr (by decide) (L2N.takes_of rfl rfl rfl rfl) (by rfl) (pv 0) (a_cons m_int a_nil (by rfl)) (len_cons len_nil) (by decide) (by rfl) (by rfl)) (fun _ _ => rfl)) (m_var 2 (pv 2))) (by rfl) (Or.inr rfl)) (s_cons (s_setO 6 sc__law_web.nd (by rfl) (Or.inr rfl) (m_lrg1 rfl (by rfl) hx.f_list (by rfl) hx.f_range (m_var 3 (pv 3)) (by rfl) (by rfl)) (by rfl) (Or.inl rfl)) (s_cons (s_set 7 sc__law_web.nd (by rfl) (Or.inr rfl) (m_f (m_lcO (hc := rfl) (hN := sc__law_web.nd) (own := [("_law_turn", 10)]) (i_rng1 (by rfl) hx.f_range (m_var 3 (pv 3)) (by rfl)) (blkOk_by (by kernel_rfl)) (by decide) (fun _ _ _ _ _ => (g_name 10 (pg_name sc__law_web.nd (by rfl) (by first | exact Or.inl rfl | exact Or.inr rfl)))) (fun _ _ _ _ _ => ts_nil) (fun _ _ _ _ _ => (m_mt PySem.F.slot_list_pop (by rfl) mt_popAt is_popAt (pv 6) (a_cons (m_callMD (kr := .F) 0 D__law_take hr (by decide) takes_w0 (by rfl) (pv 0) (a_cons (m_b1 call_len is_len (by rfl) hx.f_len (by rfl) (m_bar 6 (pv 6)) (by decide) (by decide) (by rfl) (by rfl)) a_nil (by rfl)) (len_cons len_nil) (by decide) (by rfl) (by rfl)) a_nil (by rfl)) (by rfl) (by rfl) (by rfl) (by rfl) (by rfl))) (fun _ => rfl))) (by rfl) (Or.inl rfl)) (s_cons (s_setO 8 sc__law_web.nd (by rfl) (Or.inl rfl) (m_lstO a_nil) (by rfl) (Or.inr rfl)) (s_cons (s_for (passes_of rfl) rfl (i_rng2 (by rfl) hx.f_range m_int (m_var 3 (pv 3)) (by rfl) (by rfl)) (g_name 9 (pg_name sc__law_web.nd (by rfl) (Or.inl rfl))) (s_cons (s_set 11 sc__law_web.nd (by rfl) (Or.inl rfl) (m_callMD (kr := .F) 0 D__law_take hr (by decide) (L2N.takes_of rfl rfl rfl rfl) (by rfl) (pv 0) (a_cons (m_var 9 (pv 9)) a_nil (by rfl)) (len_cons len_nil) (by decide) (by rfl) (by rfl)) (by rfl) (Or.inr rfl)) (s_one (s_expr (m_mt PySem.F.slot_list_append (by rfl) mt_append is_app (pv 8) (a_cons (m_tup (a_cons (m_ixs (m_f (m_lstO (a_cons (m_sub (m_var 9 (pv 9)) m_int) (a_cons (m_var 11 (pv 11)) (a_cons (m_var 11 (pv 11)) (a_cons m_int a_nil (by rfl)) (by rfl)) (by rfl)) (by rfl)))) (m_var 4 (pv 4)) (fun _ _ => rfl)) (a_cons (m_var 9 (pv 9)) a_nil (by rfl)) (by rfl))) a_nil (by rfl)) (by rfl) (by rfl) (by rfl) (by rfl) (by rfl)) (by rfl)))) (fun _ => rfl)) (s_cons (s_for (passes_of rfl) rfl (i_rng1 (by rfl) hx.f_range (m_var 5 (pv 5)) (by rfl)) (g_name 10 (pg_name sc__law_web.nd (by rfl) (Or.inl rfl))) (s_cons (s_set 12 sc__law_web.nd (by rfl) (Or.inl rfl) (m_callMD (kr := .F) 0 D__law_take hr (by decide) (L2N.takes_of rfl rfl rfl rfl) (by rfl) (pv 0) (a_cons (m_var 3 (pv 3)) a_nil (by rfl)) (len_cons len_nil) (by decide) (by rfl) (by rfl)) (by rfl) (Or.inr rfl)) (s_cons (s_set 13 sc__law_web.nd (by rfl) (Or.inl rfl) (m_callMD (kr := .F) 0 D__law_take hr (by decide) (L2N.takes_of rfl rfl rfl rfl) (by rfl) (pv 0) (a_cons (m_var 3 (pv 3)) a_nil (by rfl)) (len_cons len_nil) (by decide) (by rfl) (by rfl)) (by rfl) (Or.inr rfl)) (s_one (s_if (t_ne hr (m_var 12 (pv 12)) (m_var 13 (pv 13))) (s_one (s_expr (m_mt PySem.F.slot_list_append (by rfl) mt_append is_app (pv 8) (a_cons (m_tup (a_cons (m_var 12 (pv 12)) (a_cons (m_var 13 (pv 13)) a_nil (by rfl)) (by rfl))) a_nil (by rfl)) (by rfl) (by rfl) (by rfl) (by rfl) (by rfl)) (by rfl))) s_nil)))) (fun _ => rfl)) (s_cons (s_lcO (i := 8) rfl sc__law_web.nd (by rfl) (by rfl) (by rfl) (own := [("_law_one", 12), ("_law_other", 13)]) (i_seq (m_var 8 (pv 8))) (blkOk_by (by kernel_rfl)) (by decide) (fun _ _ _ _ _ => (g_tup (n := 2) rfl (gs_cons (g_name 12 (pg_name sc__law_web.nd (by rfl) (by first | exact Or.inl rfl | exact Or.inr rfl))) (gs_cons (g_name 13 (pg_name sc__law_web.nd (by rfl) (by first | exact Or.inl rfl | exact Or.inr rfl))) gs_nil)) (by rfl) (by rfl) (by rfl))) (fun _ _ _ _ _ => ts_nil) (fun _ _ _ _ _ => (m_tup (a_cons (m_b2 (g := gMin) (call_min2 rfl) (by rfl) hx.f_min (by rfl) (m_ixv 7 (pv 7) (m_var 12 (pv 12)) (fun _ _ => rfl)) (m_ixv 7 (pv 7) (m_var 13 (pv 13)) (fun _ _ => rfl)) (by decide) (by decide) (by rfl) (by rfl) (by rfl)) (a_cons (m_b2 (g := gMax) (call_max2 rfl) (by rfl) hx.f_max (by rfl) (m_ixv 7 (pv 7) (m_var 12 (pv 12)) (fun _ _ => rfl)) (m_ixv 7 (pv 7) (m_var 13 (pv 13)) (fun _ _ => rfl)) (by decide) (by decide) (by rfl) (by rfl) (by rfl)) a_nil (by rfl)) (by rfl)))) (fun _ => rfl)) (s_one (s_ret (m_tup (a_cons (m_var 3 (pv 3)) (a_cons (m_t1 call_tuple_of is_tuple (by rfl) hx.f_tuple (by rfl) (m_b (m_f (m_srtSet hr rfl (by rfl) hx.f_sorted (by rfl) hx.f_set (m_bar 8 (pv 8)) (by rfl) (by rfl)))) (by decide) (by decide) (by rfl) (by rfl)) a_nil (by rfl)) (by rfl))))))))))))))
theorem d__law_web (hx : Fx K mg) (D__law_take : Df P w K mg base 1 "_law_take" 2 (some 0) .F S__law_take) {f : Addr} {fd : FuncData} (hm : mg "_law_web" = some (.ref f)) (Fn : Fun K "_law_web" "_law_web" (topS 46) f fd) : Df P w K mg base 2 "_law_web" 3 (some 0) .F S__law_web :=
  def_d (kr := .F) (msk := (some 0)) hm Fn (fun z => by cases z) (fun z => by cases z) sc__law_web rfl (fun _ _ _ _ _ _ us hl => match us, hl with | [_, _, _], _ => rfl) (fun cdv A outer s H E hr => b__law_web hx D__law_take cdv f A outer s H E hr)

theorem sc_is_whole : FnScope ["thing"] ["thing"] (defScope (topS 7)) := ⟨rfl, rfl, rfl, by decide +kernel, rfl, by decide +kernel, by decide +kernel⟩
theorem b_is_whole (hx : Fx K mg)  (cdv : Value) (f : Addr) (A : Around) (outer : List Env) (s : Shared) (H : Hp) (E : XK) (hr : Room 0 (A.deeper (PyProof.Rows.envOfC "is_whole" (defScope (topS 7)) s.heap.objs.size f cdv))) :
    Pss (cxOf (L2N.CX P w) P w K mg base ["thing"] "is_whole" (defScope (topS 7)) f cdv A outer s H E) (clK K) (fun c d _ H => E c d H) .F (defBody (topS 7)) g_is_whole :=
  (s_one (s_ret (m_and2 (m_isi goodT_int (by rfl) hx.f_isinstance (by rfl) (by rfl) hx.f_int (by rfl) (by decide) (by decide) (m_bar 0 (pv 0)) (by rfl) (by rfl) (by rfl)) (m_one (m_not (m_isi goodT_bool (by rfl) hx.f_isinstance (by rfl) (by rfl) hx.f_bool (by rfl) (by decide) (by decide) (m_bar 0 (pv 0)) (by rfl) (by rfl) (by rfl)))))))
theorem d_is_whole (hx : Fx K mg)  {f : Addr} {fd : FuncData} (hm : mg "is_whole" = some (.ref f)) (Fn : Fun K "is_whole" "is_whole" (topS 7) f fd) : Df P w K mg base 1 "is_whole" 1 none .F S_is_whole :=
  def_d (kr := .F) (msk := none) hm Fn (fun z => by cases z) (fun z => by cases z) sc_is_whole rfl (fun _ _ _ _ _ _ us hl => match us, hl with | [_], _ => rfl) (fun cdv A outer s H E hr => b_is_whole hx  cdv f A outer s H E hr)

theorem sc_is_upto : FnScope ["thing", "least", "most"] ["thing", "least", "most"] (defScope (topS 8)) := ⟨rfl, rfl, rfl, by decide +kernel, rfl, by decide +kernel, by decide +kernel⟩
theorem b_is_upto (hx : Fx K mg) (D_is_whole : Df P w K mg base 1 "is_whole" 1 none .F S_is_whole) (cdv : Value) (f : Addr) (A : Around) (outer : List Env) (s : Shared) (H : Hp) (E : XK) (hr : Room 1 (A.deeper (PyProof.Rows.envOfC "is_upto" (defScope (topS 8)) s.heap.objs.size f cdv))) :
    Pss (cxOf (L2N.CX P w) P w K mg base ["thing", "least", "most"] "is_upto" (defScope (topS 8)) f cdv A outer s H E) (clK K) (fun c d _ H => E c d H) .F (defBody (topS 8)) g_is_upto :=
  (s_one (s_ret (m_and2 (m_callD (kr := .F) D_is_whole hr (by decide) (L2N.takes_of rfl rfl rfl rfl) (by rfl) (a_cons (m_var 0 (pv 0)) a_nil (by rfl)) (len_cons len_nil) (by decide) (by rfl) (by rfl)) (m_one (m_chain (m_var 1 (pv 1)) (pch_cons (p := fun i j => decide (i ≤ j)) op_le (m_var 0 (pv 0)) (pch_one (p := fun i j => decide (i ≤ j)) op_le (m_var 2 (pv 2)))) (by rfl))))))
theorem d_is_upto (hx : Fx K mg) (D_is_whole : Df P w K mg base 1 "is_whole" 1 none .F S_is_whole) {f : Addr} {fd : FuncData} (hm : mg "is_upto" = some (.ref f)) (Fn : Fun K "is_upto" "is_upto" (topS 8) f fd) : Df P w K mg base 2 "is_upto" 3 none .F S_is_upto :=
  def_d (kr := .F) (msk := none) hm Fn (fun z => by cases z) (fun z => by cases z) sc_is_upto rfl (fun _ _ _ _ _ _ us hl => match us, hl with | [_, _, _], _ => rfl) (fun cdv A outer s H E hr => b_is_upto hx D_is_whole cdv f A outer s H E hr)

theorem sc_check_place : FnScope ["web", "place"] ["web", "place"] (defScope (topS 22)) := ⟨rfl, rfl, rfl, by decide +kernel, rfl, by decide +kernel, by decide +kernel⟩
theorem b_check_place (hx : Fx K mg) (D_is_upto : Df P w K mg base 2 "is_upto" 3 none .F S_is_upto) (cdv : Value) (f : Addr) (A : Around) (outer : List Env) (s : Shared) (H : Hp) (E : XK) (hr : Room 2 (A.deeper (PyProof.Rows.envOfC "check_place" (defScope (topS 22)) s.heap.objs.size f cdv))) :
    Pss (cxOf (L2N.CX P w) P w K mg base ["web", "place"] "check_place" (defScope (topS 22)) f cdv A outer s H E) (clK K) (fun c d _ H => E c d H) .F (defBody (topS 22)) g_check_place :=
  (s_one (s_if (t_not (t_val (m_callD (kr := .F) D_is_upto hr (by decide) (L2N.takes_of rfl rfl rfl rfl) (by rfl) (a_cons (m_var 1 (pv 1)) (a_cons m_int (a_cons (m_sub (m_ixv 0 (pv 0) m_int (fun _ _ => rfl)) m_int) a_nil (by rfl)) (by rfl)) (by rfl)) (len_cons (len_cons (len_cons len_nil))) (by decide) (by rfl) (by rfl)) (fun _ => rfl))) (s_one (s_raise rfl (L2N.takes_of rfl rfl rfl rfl) exF hx.e_NoPlace.1 hx.g_NoPlace hx.e_NoPlace.2.1 (raises_own hx.e_NoPlace.2.2.1 hx.e_NoPlace.2.2.2) (by rfl) (by rfl) (by decide))) s_nil))
theorem d_check_place (hx : Fx K mg) (D_is_upto : Df P w K mg base 2 "is_upto" 3 none .F S_is_upto) {f : Addr} {fd : FuncData} (hm : mg "check_place" = some (.ref f)) (Fn : Fun K "check_place" "check_place" (topS 22) f fd) : Df P w K mg base 3 "check_place" 2 none .F S_check_place :=
  def_d (kr := .F) (msk := none) hm Fn (fun z => by cases z) (fun z => by cases z) sc_check_place rfl (fun _ _ _ _ _ _ us hl => match us, hl with | [_, _], _ => rfl) (fun cdv A outer s H E hr => b_check_place hx D_is_upto cdv f A outer s H E hr)

theorem sc_check_steps : FnScope ["steps"] ["steps"] (defScope (topS 28)) := ⟨rfl, rfl, rfl, by decide +kernel, rfl, by decide +kernel, by decide +kernel⟩
theorem b_check_steps (hx : Fx K mg) (D_is_upto : Df P w K mg base 2 "is_upto" 3 none .F S_is_upto) (cdv : Value) (f : Addr) (A : Around) (outer : List Env) (s : Shared) (H : Hp) (E : XK) (hr : Room 2 (A.deeper (PyProof.Rows.envOfC "check_steps" (defScope (topS 28)) s.heap.objs.size f cdv))) :
    Pss (cxOf (L2N.CX P w) P w K mg base ["steps"] "check_steps" (defScope (topS 28)) f cdv A outer s H E) (clK K) (fun c d _ H => E c d H) .F (defBody (topS 28)) g_check_steps :=
  (s_one (s_if (t_not (t_val (m_callD (kr := .F) D_is_upto hr (by decide) (L2N.takes_of rfl rfl rfl rfl) (by rfl) (a_cons (m_var 0 (pv 0)) (a_cons m_int (a_cons (m_gInt (by rfl) hx.c_MOST_STEPS (by decide)) a_nil (by rfl)) (by rfl)) (by rfl)) (len_cons (len_cons (len_cons len_nil))) (by decide) (by rfl) (by rfl)) (fun _ => rfl))) (s_one (s_raise rfl (L2N.takes_of rfl rfl rfl rfl) exF hx.e_NoNumber.1 hx.g_NoNumber hx.e_NoNumber.2.1 (raises_own hx.e_NoNumber.2.2.1 hx.e_NoNumber.2.2.2) (by rfl) (by rfl) (by decide))) s_nil))
theorem d_check_steps (hx : Fx K mg) (D_is_upto : Df P w K mg base 2 "is_upto" 3 none .F S_is_upto) {f : Addr} {fd : FuncData} (hm : mg "check_steps" = some (.ref f)) (Fn : Fun K "check_steps" "check_steps" (topS 28) f fd) : Df P w K mg base 3 "check_steps" 1 none .F S_check_steps :=
  def_d (kr := .F) (msk := none) hm Fn (fun z => by cases z) (fun z => by cases z) sc_check_steps rfl (fun _ _ _ _ _ _ us hl => match us, hl with | [_], _ => rfl) (fun cdv A outer s H E hr => b_check_steps hx D_is_upto cdv f A outer s H E hr)

theorem sc_is_tie : FnScope ["many", "thing"] ["many", "thing"] (defScope (topS 18)) := ⟨rfl, rfl, rfl, by decide +kernel, rfl, by decide +kernel, by decide +kernel⟩
theorem b_is_tie (hx : Fx K mg) (D_is_upto : Df P w K mg base 2 "is_upto" 3 none .F S_is_upto) (cdv : Value) (f : Addr) (A : Around) (outer : List Env) (s : Shared) (H : Hp) (E : XK) (hr : Room 2 (A.deeper (PyProof.Rows.envOfC "is_tie" (defScope (topS 18)) s.heap.objs.size f cdv))) :
    Pss (cxOf (L2N.CX P w) P w K mg base ["many", "thing"] "is_tie" (defScope (topS 18)) f cdv A outer s H E) (clK K) (fun c d _ H => E c d H) .F (defBody (topS 18)) g_is_tie :=
  (s_cons (s_if (t_pw (w_or (t_not (t_val (m_isi goodT_tuple (by rfl) hx.f_isinstance (by rfl) (by rfl) hx.f_tuple (by rfl) (by decide) (by decide) (m_bar 1 (pv 1)) (by rfl) (by rfl) (by rfl)) (fun _ => rfl))) (w_or1 (t_ne hr (m_b1 call_len is_len (by rfl) hx.f_len (by rfl) (m_bar 1 (pv 1)) (by decide) (by decide) (by rfl) (by rfl)) m_int)))) (s_one (s_ret m_bl)) s_nil) (s_one (s_ret (m_and2 (m_callD (kr := .F) D_is_upto hr (by decide) (L2N.takes_of rfl rfl rfl rfl) (by rfl) (a_cons (m_ixv 1 (pv 1) m_int (fun _ _ => rfl)) (a_cons m_int (a_cons (m_sub (m_var 0 (pv 0)) m_int) a_nil (by rfl)) (by rfl)) (by rfl)) (len_cons (len_cons (len_cons len_nil))) (by decide) (by rfl) (by rfl)) (m_and2 (m_callD (kr := .F) D_is_upto hr (by decide) (L2N.takes_of rfl rfl rfl rfl) (by rfl) (a_cons (m_ixv 1 (pv 1) m_int (fun _ _ => rfl)) (a_cons m_int (a_cons (m_sub (m_var 0 (pv 0)) m_int) a_nil (by rfl)) (by rfl)) (by rfl)) (len_cons (len_cons (len_cons len_nil))) (by decide) (by rfl) (by rfl)) (m_one (m_lt hr (m_ixv 1 (pv 1) m_int (fun _ _ => rfl)) (m_ixv 1 (pv 1) m_int (fun _ _ => rfl)))))))))
theorem d_is_tie (hx : Fx K mg) (D_is_upto : Df P w K mg base 2 "is_upto" 3 none .F S_is_upto) {f : Addr} {fd : FuncData} (hm : mg "is_tie" = some (.ref f)) (Fn : Fun K "is_tie" "is_tie" (topS 18) f fd) : Df P w K mg base 3 "is_tie" 2 none .F S_is_tie :=
  def_d (kr := .F) (msk := none) hm Fn (fun z => by cases z) (fun z => by cases z) sc_is_tie rfl (fun _ _ _ _ _ _ us hl => match us, hl with | [_, _], _ => rfl) (fun cdv A outer s H E hr => b_is_tie hx D_is_upto cdv f A outer s H E hr)

theorem sc_reached : FnScope ["ties", "first", "found", "at", "one", "other"] ["ties", "first"] (defScope (topS 19)) := ⟨rfl, rfl, rfl, by decide +kernel, rfl, by decide +kernel, by decide +kernel⟩
theorem b_reached (hx : Fx K mg)  (cdv : Value) (f : Addr) (A : Around) (outer : List Env) (s : Shared) (H : Hp) (E : XK) (hr : Room 0 (A.deeper (PyProof.Rows.envOfC "reached" (defScope (topS 19)) s.heap.objs.size f cdv))) :
    Pss (cxOf (L2N.CX P w) P w K mg base ["ties", "first", "found", "at", "one", "other"] "reached" (defScope (topS 19)) f cdv A outer s H E) (clK K) (fun c d _ H => E c d H) .F (defBody (topS 19)) g_reached :=
  (s_cons (s_setO 2 sc_reached.nd (by rfl) (Or.inl rfl) (m_lstO (a_cons (m_var 1 (pv 1)) a_nil (by rfl))) (by rfl) (Or.inr rfl)) (s_cons (s_set 3 sc_reached.nd (by rfl) (Or.inl rfl) m_int (by rfl) (Or.inr rfl)) (s_cons (s_while 40 (passes_of rfl) (t_lt hr (m_var 3 (pv 3)) (m_b1 call_len is_len (by rfl) hx.f_len (by rfl) (m_bar 2 (pv 2)) (by decide) (by decide) (by rfl) (by rfl))) (s_cons (s_for (passes_of rfl) rfl (i_seq (m_var 0 (pv 0))) (g_tup (n := 2) rfl (gs_cons (g_name 4 (pg_name sc_reached.nd (by rfl) (Or.inl rfl))) (gs_cons (g_name 5 (pg_name sc_reached.nd (by rfl) (Or.inl rfl))) gs_nil)) (by rfl) (by rfl) (by rfl)) (s_cons (s_if (t_pw (w_and (t_eq hr (m_var 4 (pv 4)) (m_ixv 2 (pv 2) (m_var 3 (pv 3)) (fun _ _ => rfl))) (w_and1 (t_nin hr (m_var 5 (pv 5)) (m_bar 2 (pv 2)) (by rfl))))) (s_one (s_expr (m_mt PySem.F.slot_list_append (by rfl) mt_append is_app (pv 2) (a_cons (m_var 5 (pv 5)) a_nil (by rfl)) (by rfl) (by rfl) (by rfl) (by rfl) (by rfl)) (by rfl))) s_nil) (s_one (s_if (t_pw (w_and (t_eq hr (m_var 5 (pv 5)) (m_ixv 2 (pv 2) (m_var 3 (pv 3)) (fun _ _ => rfl))) (w_and1 (t_nin hr (m_var 4 (pv 4)) (m_bar 2 (pv 2)) (by rfl))))) (s_one (s_expr (m_mt PySem.F.slot_list_append (by rfl) mt_append is_app (pv 2) (a_cons (m_var 4 (pv 4)) a_nil (by rfl)) (by rfl) (by rfl) (by rfl) (by rfl) (by rfl)) (by rfl))) s_nil))) (fun _ => rfl)) (s_one (s_set 3 sc_reached.nd (by rfl) (Or.inl rfl) (m_add (m_var 3 (pv 3)) m_int) (by rfl) (Or.inr rfl))))) (s_one (s_ret (m_t1 call_tuple_of is_tuple (by rfl) hx.f_tuple (by rfl) (m_b (m_f (m_b1 cr_sortX is_sortX (by rfl) hx.f_sorted (by rfl) (m_bar 2 (pv 2)) (by decide) (by decide) (by rfl) (by rfl)))) (by decide) (by decide) (by rfl) (by rfl)))))))
theorem d_reached (hx : Fx K mg)  {f : Addr} {fd : FuncData} (hm : mg "reached" = some (.ref f)) (Fn : Fun K "reached" "reached" (topS 19) f fd) : Df P w K mg base 1 "reached" 2 none .F S_reached :=
  def_d (kr := .F) (msk := none) hm Fn (fun z => by cases z) (fun z => by cases z) sc_reached rfl (fun _ _ _ _ _ _ us hl => match us, hl with | [_, _], _ => rfl) (fun cdv A outer s H E hr => b_reached hx  cdv f A outer s H E hr)

theorem sc_is_web : FnScope ["thing", "many", "ties", "tie", "one", "other"] ["thing"] (defScope (topS 20)) := ⟨rfl, rfl, rfl, by decide +kernel, rfl, by decide +kernel, by decide +kernel⟩
theorem b_is_web (hx : Fx K mg) (D_is_tie : Df P w K mg base 3 "is_tie" 2 none .F S_is_tie) (D_is_upto : Df P w K mg base 2 "is_upto" 3 none .F S_is_upto) (D_reached : Df P w K mg base 1 "reached" 2 none .F S_reached) (cdv : Value) (f : Addr) (A : Around) (outer : List Env) (s : Shared) (H : Hp) (E : XK) (hr : Room 3 (A.deeper (PyProof.Rows.envOfC "is_web" (defScope (topS 20)) s.heap.objs.size f cdv))) :
    Pss (cxOf (L2N.CX P w) P w K mg base ["thing", "many", "ties", "tie", "one", "other"] "is_web" (defScope (topS 20)) f cdv A outer s H E) (clK K) (fun c d _ H => E c d H) .F (defBody (topS 20)) g_is_web :=
  (s_cons (s_if (t_pw (w_or (t_not (t_val (m_isi goodT_tuple (by rfl) hx.f_isinstance (by rfl) (by rfl) hx.f_tuple (by rfl) (by decide) (by decide) (m_bar 0 (pv 0)) (by rfl) (by rfl) (by rfl)) (fun _ => rfl))) (w_or (t_ne hr (m_b1 call_len is_len (by rfl) hx.f_len (by rfl) (m_bar 0 (pv 0)) (by decide) (by decide) (by rfl) (by rfl)) m_int) (w_or1 (t_not (t_val (m_callD (kr := .F) D_is_upto hr (by decide) (L2N.takes_of rfl rfl rfl rfl) (by rfl) (a_cons (m_ixv 0 (pv 0) m_int (fun _ _ => rfl)) (a_cons (m_gInt (by rfl) hx.c_LEAST_PLACES (by decide)) (a_cons (m_gInt (by rfl) hx.c_MOST_PLACES (by decide)) a_nil (by rfl)) (by rfl)) (by rfl)) (len_cons (len_cons (len_cons len_nil))) (by decide) (by rfl) (by rfl)) (fun _ => rfl))))))) (s_one (s_ret m_bl)) s_nil) (s_cons (s_asg (m_var 0 (pv 0)) (g_tup (n := 2) rfl (gs_cons (g_name 1 (pg_name sc_is_web.nd (by rfl) (Or.inr rfl))) (gs_cons (g_name 2 (pg_name sc_is_web.nd (by rfl) (Or.inl rfl))) gs_nil)) (by rfl) (by rfl) (by rfl)) (by rfl) (by rfl) (by rfl)) (s_cons (s_if (t_pw (w_or (t_not (t_val (m_isi goodT_tuple (by rfl) hx.f_isinstance (by rfl) (by rfl) hx.f_tuple (by rfl) (by decide) (by decide) (m_bar 2 (pv 2)) (by rfl) (by rfl) (by rfl)) (fun _ => rfl))) (w_or1 (t_not (t_val (m_b1 (cr_all rfl) is_all (by rfl) hx.f_all (by rfl) (m_b (m_f (m_lcO (hc := rfl) (hN := sc_is_web.nd) (own := [("tie", 3)]) (i_seq (m_var 2 (pv 2))) (blkOk_by (by kernel_rfl)) (by decide) (fun _ _ _ _ _ => (g_name 3 (pg_name sc_is_web.nd (by rfl) (by first | exact Or.inl rfl | exact Or.inr rfl)))) (fun _ _ _ _ _ => ts_nil) (fun _ _ _ _ _ => (m_callD (kr := .F) D_is_tie hr (by decide) takes_w0 (by rfl) (a_cons (m_var 1 (pv 1)) (a_cons (m_var 3 (pv 3)) a_nil (by rfl)) (by rfl)) (len_cons (len_cons len_nil)) (by decide) (by rfl) (by rfl))) (fun _ => rfl)))) (by decide) (by decide) (by rfl) (by rfl)) (fun _ => rfl)))))) (s_one (s_ret m_bl)) s_nil) (s_cons (s_if (t_not (t_val (m_b1 (cr_all rfl) is_all (by rfl) hx.f_all (by rfl) (m_b (m_f (m_lcO (hc := rfl) (hN := sc_is_web.nd) (own := [("one", 4), ("other", 5)]) (i_zip (by rfl) hx.f_zip (m_var 2 (pv 2)) (m_cut (m_var 2 (pv 2)) (o_some m_int) o_none) (by rfl) (by rfl) (by rfl)) (blkOk_by (by kernel_rfl)) (by decide) (fun _ _ _ _ _ => (g_tup (n := 2) rfl (gs_cons (g_name 4 (pg_name sc_is_web.nd (by rfl) (by first | exact Or.inl rfl | exact Or.inr rfl))) (gs_cons (g_name 5 (pg_name sc_is_web.nd (by rfl) (by first | exact Or.inl rfl | exact Or.inr rfl))) gs_nil)) (by rfl) (by rfl) (by rfl))) (fun _ _ _ _ _ => ts_nil) (fun _ _ _ _ _ => (m_lt hr (m_var 4 (pv 4)) (m_var 5 (pv 5)))) (fun _ => rfl)))) (by decide) (by decide) (by rfl) (by rfl)) (fun _ => rfl))) (s_one (s_ret m_bl)) s_nil) (s_one (s_ret (m_eq hr (m_b1 call_len is_len (by rfl) hx.f_len (by rfl) (m_b (m_callD (kr := .F) D_reached hr (by decide) (L2N.takes_of rfl rfl rfl rfl) (by rfl) (a_cons (m_var 2 (pv 2)) (a_cons m_int a_nil (by rfl)) (by rfl)) (len_cons (len_cons len_nil)) (by decide) (by rfl) (by rfl))) (by decide) (by decide) (by rfl) (by rfl)) (m_var 1 (pv 1)))))))))
theorem d_is_web (hx : Fx K mg) (D_is_tie : Df P w K mg base 3 "is_tie" 2 none .F S_is_tie) (D_is_upto : Df P w K mg base 2 "is_upto" 3 none .F S_is_upto) (D_reached : Df P w K mg base 1 "reached" 2 none .F S_reached) {f : Addr} {fd : FuncData} (hm : mg "is_web" = some (.ref f)) (Fn : Fun K "is_web" "is_web" (topS 20) f fd) : Df P w K mg base 4 "is_web" 1 none .F S_is_web :=
  def_d (kr := .F) (msk := none) hm Fn (fun z => by cases z) (fun z => by cases z) sc_is_web rfl (fun _ _ _ _ _ _ us hl => match us, hl with | [_], _ => rfl) (fun cdv A outer s H E hr => b_is_web hx D_is_tie D_is_upto D_reached cdv f A outer s H E hr)

theorem sc_check_web : FnScope ["web"] ["web"] (defScope (topS 21)) := ⟨rfl, rfl, rfl, by decide +kernel, rfl, by decide +kernel, by decide +kernel⟩
theorem b_check_web (hx : Fx K mg) (D_is_web : Df P w K mg base 4 "is_web" 1 none .F S_is_web) (cdv : Value) (f : Addr) (A : Around) (outer : List Env) (s : Shared) (H : Hp) (E : XK) (hr : Room 4 (A.deeper (PyProof.Rows.envOfC "check_web" (defScope (topS 21)) s.heap.objs.size f cdv))) :
    Pss (cxOf (L2N.CX P w) P w K mg base ["web"] "check_web" (defScope (topS 21)) f cdv A outer s H E) (clK K) (fun c d _ H => E c d H) .F (defBody (topS 21)) g_check_web :=
  (s_one (s_if (t_not (t_val (m_callD (kr := .F) D_is_web hr (by decide) (L2N.takes_of rfl rfl rfl rfl) (by rfl) (a_cons (m_var 0 (pv 0)) a_nil (by rfl)) (len_cons len_nil) (by decide) (by rfl) (by rfl)) (fun _ => rfl))) (s_one (s_raise rfl (L2N.takes_of rfl rfl rfl rfl) exF hx.e_NoWeb.1 hx.g_NoWeb hx.e_NoWeb.2.1 (raises_own hx.e_NoWeb.2.2.1 hx.e_NoWeb.2.2.2) (by rfl) (by rfl) (by decide))) s_nil))
theorem d_check_web (hx : Fx K mg) (D_is_web : Df P w K mg base 4 "is_web" 1 none .F S_is_web) {f : Addr} {fd : FuncData} (hm : mg "check_web" = some (.ref f)) (Fn : Fun K "check_web" "check_web" (topS 21) f fd) : Df P w K mg base 5 "check_web" 1 none .F S_check_web :=
  def_d (kr := .F) (msk := none) hm Fn (fun z => by cases z) (fun z => by cases z) sc_check_web rfl (fun _ _ _ _ _ _ us hl => match us, hl with | [_], _ => rfl) (fun cdv A outer s H E hr => b_check_web hx D_is_web cdv f A outer s H E hr)

theorem sc_only_at : FnScope ["web", "place", "other"] ["web", "place"] (defScope (topS 30)) := ⟨rfl, rfl, rfl, by decide +kernel, rfl, by decide +kernel, by decide +kernel⟩
theorem b_only_at (hx : Fx K mg)  (cdv : Value) (f : Addr) (A : Around) (outer : List Env) (s : Shared) (H : Hp) (E : XK) (hr : Room 0 (A.deeper (PyProof.Rows.envOfC "only_at" (defScope (topS 30)) s.heap.objs.size f cdv))) :
    Pss (cxOf (L2N.CX P w) P w K mg base ["web", "place", "other"] "only_at" (defScope (topS 30)) f cdv A outer s H E) (clK K) (fun c d _ H => E c d H) .F (defBody (topS 30)) g_only_at :=
  (s_one (s_ret (m_t1 call_tuple_of is_tuple (by rfl) hx.f_tuple (by rfl) (m_b (m_f (m_lcO (hc := rfl) (hN := sc_only_at.nd) (own := [("other", 2)]) (i_rng1 (by rfl) hx.f_range (m_ixv 0 (pv 0) m_int (fun _ _ => rfl)) (by rfl)) (blkOk_by (by kernel_rfl)) (by decide) (fun _ _ _ _ _ => (g_name 2 (pg_name sc_only_at.nd (by rfl) (by first | exact Or.inl rfl | exact Or.inr rfl)))) (fun _ _ _ _ _ => ts_nil) (fun _ _ _ _ _ => (m_tup (a_cons (m_t1 call_int1 is_int (by rfl) hx.f_int (by rfl) (m_b (m_eq hr (m_var 2 (pv 2)) (m_var 1 (pv 1)))) (by decide) (by decide) (by rfl) (by rfl)) (a_cons m_int a_nil (by rfl)) (by rfl)))) (fun _ => rfl)))) (by decide) (by decide) (by rfl) (by rfl))))
theorem d_only_at (hx : Fx K mg)  {f : Addr} {fd : FuncData} (hm : mg "only_at" = some (.ref f)) (Fn : Fun K "only_at" "only_at" (topS 30) f fd) : Df P w K mg base 1 "only_at" 2 none .F S_only_at :=
  def_d (kr := .F) (msk := none) hm Fn (fun z => by cases z) (fun z => by cases z) sc_only_at rfl (fun _ _ _ _ _ _ us hl => match us, hl with | [_, _], _ => rfl) (fun cdv A outer s H E hr => b_only_at hx  cdv f A outer s H E hr)

theorem sc_are_tied : FnScope ["web", "a", "b"] ["web", "a", "b"] (defScope (topS 24)) := ⟨rfl, rfl, rfl, by decide +kernel, rfl, by decide +kernel, by decide +kernel⟩
theorem b_are_tied (hx : Fx K mg)  (cdv : Value) (f : Addr) (A : Around) (outer : List Env) (s : Shared) (H : Hp) (E : XK) (hr : Room 0 (A.deeper (PyProof.Rows.envOfC "are_tied" (defScope (topS 24)) s.heap.objs.size f cdv))) :
    Pss (cxOf (L2N.CX P w) P w K mg base ["web", "a", "b"] "are_tied" (defScope (topS 24)) f cdv A outer s H E) (clK K) (fun c d _ H => E c d H) .F (defBody (topS 24)) g_are_tied :=
  (s_one (s_ret (m_in hr (m_tup (a_cons (m_b2 (g := gMin) (call_min2 rfl) (by rfl) hx.f_min (by rfl) (m_var 1 (pv 1)) (m_var 2 (pv 2)) (by decide) (by decide) (by rfl) (by rfl) (by rfl)) (a_cons (m_b2 (g := gMax) (call_max2 rfl) (by rfl) hx.f_max (by rfl) (m_var 1 (pv 1)) (m_var 2 (pv 2)) (by decide) (by decide) (by rfl) (by rfl) (by rfl)) a_nil (by rfl)) (by rfl))) (m_b (m_ixv 0 (pv 0) m_int (fun _ _ => rfl))) (by rfl))))
theorem d_are_tied (hx : Fx K mg)  {f : Addr} {fd : FuncData} (hm : mg "are_tied" = some (.ref f)) (Fn : Fun K "are_tied" "are_tied" (topS 24) f fd) : Df P w K mg base 1 "are_tied" 3 none .F S_are_tied :=
  def_d (kr := .F) (msk := none) hm Fn (fun z => by cases z) (fun z => by cases z) sc_are_tied rfl (fun _ _ _ _ _ _ us hl => match us, hl with | [_, _, _], _ => rfl) (fun cdv A outer s H E hr => b_are_tied hx  cdv f A outer s H E hr)

theorem sc_near : FnScope ["web", "place", "other"] ["web", "place"] (defScope (topS 25)) := ⟨rfl, rfl, rfl, by decide +kernel, rfl, by decide +kernel, by decide +kernel⟩
theorem b_near (hx : Fx K mg) (D_are_tied : Df P w K mg base 1 "are_tied" 3 none .F S_are_tied) (cdv : Value) (f : Addr) (A : Around) (outer : List Env) (s : Shared) (H : Hp) (E : XK) (hr : Room 1 (A.deeper (PyProof.Rows.envOfC "near" (defScope (topS 25)) s.heap.objs.size f cdv))) :
    Pss (cxOf (L2N.CX P w) P w K mg base ["web", "place", "other"] "near" (defScope (topS 25)) f cdv A outer s H E) (clK K) (fun c d _ H => E c d H) .F (defBody (topS 25)) g_near :=
  (s_one (s_ret (m_t1 call_tuple_of is_tuple (by rfl) hx.f_tuple (by rfl) (m_b (m_f (m_lcO (hc := rfl) (hN := sc_near.nd) (own := [("other", 2)]) (i_rng1 (by rfl) hx.f_range (m_ixv 0 (pv 0) m_int (fun _ _ => rfl)) (by rfl)) (blkOk_by (by kernel_rfl)) (by decide) (fun _ _ _ _ _ => (g_name 2 (pg_name sc_near.nd (by rfl) (by first | exact Or.inl rfl | exact Or.inr rfl)))) (fun _ _ _ _ _ => (ts_one (t_val (m_callD (kr := .F) D_are_tied hr (by decide) takes_w0 (by rfl) (a_cons (m_var 0 (pv 0)) (a_cons (m_var 1 (pv 1)) (a_cons (m_var 2 (pv 2)) a_nil (by rfl)) (by rfl)) (by rfl)) (len_cons (len_cons (len_cons len_nil))) (by decide) (by rfl) (by rfl)) (fun _ => rfl)))) (fun _ _ _ _ _ => (m_var 2 (pv 2))) (fun _ => rfl)))) (by decide) (by decide) (by rfl) (by rfl))))
theorem d_near (hx : Fx K mg) (D_are_tied : Df P w K mg base 1 "are_tied" 3 none .F S_are_tied) {f : Addr} {fd : FuncData} (hm : mg "near" = some (.ref f)) (Fn : Fun K "near" "near" (topS 25) f fd) : Df P w K mg base 2 "near" 2 none .F S_near :=
  def_d (kr := .F) (msk := none) hm Fn (fun z => by cases z) (fun z => by cases z) sc_near rfl (fun _ _ _ _ _ _ us hl => match us, hl with | [_, _], _ => rfl) (fun cdv A outer s H E hr => b_near hx D_are_tied cdv f A outer s H E hr)

theorem sc_common : FnScope ["one", "other"] ["one", "other"] (defScope (topS 9)) := ⟨rfl, rfl, rfl, by decide +kernel, rfl, by decide +kernel, by decide +kernel⟩
theorem b_common (hx : Fx K mg)  (cdv : Value) (f : Addr) (A : Around) (outer : List Env) (s : Shared) (H : Hp) (E : XK) (hr : Room 0 (A.deeper (PyProof.Rows.envOfC "common" (defScope (topS 9)) s.heap.objs.size f cdv))) :
    Pss (cxOf (L2N.CX P w) P w K mg base ["one", "other"] "common" (defScope (topS 9)) f cdv A outer s H E) (clK K) (fun c d _ H => E c d H) .F (defBody (topS 9)) g_common :=
  (s_cons (s_while 6000 (passes_of rfl) (t_gt (m_var 1 (pv 1)) m_int) (s_one (s_par 0 1 rfl sc_common.nd (by rfl) (by rfl) (by decide) (by rfl) (by rfl) (a_cons (m_var 1 (pv 1)) (a_cons (m_mod (m_var 0 (pv 0)) (m_var 1 (pv 1))) a_nil (by rfl)) (by rfl)) (by rfl) (by rfl)))) (s_one (s_ret (m_var 0 (pv 0)))))
theorem d_common (hx : Fx K mg)  {f : Addr} {fd : FuncData} (hm : mg "common" = some (.ref f)) (Fn : Fun K "common" "common" (topS 9) f fd) : Df P w K mg base 1 "common" 2 none .F S_common :=
  def_d (kr := .F) (msk := none) hm Fn (fun z => by cases z) (fun z => by cases z) sc_common rfl (fun _ _ _ _ _ _ us hl => match us, hl with | [_, _], _ => rfl) (fun cdv A outer s H E hr => b_common hx  cdv f A outer s H E hr)

theorem sc_made : FnScope ["top", "bottom", "by"] ["top", "bottom"] (defScope (topS 10)) := ⟨rfl, rfl, rfl, by decide +kernel, rfl, by decide +kernel, by decide +kernel⟩
theorem b_made (hx : Fx K mg) (D_common : Df P w K mg base 1 "common" 2 none .F S_common) (cdv : Value) (f : Addr) (A : Around) (outer : List Env) (s : Shared) (H : Hp) (E : XK) (hr : Room 1 (A.deeper (PyProof.Rows.envOfC "made" (defScope (topS 10)) s.heap.objs.size f cdv))) :
    Pss (cxOf (L2N.CX P w) P w K mg base ["top", "bottom", "by"] "made" (defScope (topS 10)) f cdv A outer s H E) (clK K) (fun c d _ H => E c d H) .F (defBody (topS 10)) g_made :=
  (s_cons (s_if (t_lt hr (m_var 1 (pv 1)) m_int) (s_one (s_par 0 1 rfl sc_made.nd (by rfl) (by rfl) (by decide) (by rfl) (by rfl) (a_cons (m_sub m_int (m_var 0 (pv 0))) (a_cons (m_sub m_int (m_var 1 (pv 1))) a_nil (by rfl)) (by rfl)) (by rfl) (by rfl))) s_nil) (s_cons (s_set 2 sc_made.nd (by rfl) (Or.inl rfl) (m_callD (kr := .F) D_common hr (by decide) (L2N.takes_of rfl rfl rfl rfl) (by rfl) (a_cons (m_b1 call_abs is_abs (by rfl) hx.f_abs (by rfl) (m_bar 0 (pv 0)) (by decide) (by decide) (by rfl) (by rfl)) (a_cons (m_var 1 (pv 1)) a_nil (by rfl)) (by rfl)) (len_cons (len_cons len_nil)) (by decide) (by rfl) (by rfl)) (by rfl) (Or.inr rfl)) (s_one (s_ret (m_tup (a_cons (m_div (m_var 0 (pv 0)) (m_var 2 (pv 2))) (a_cons (m_div (m_var 1 (pv 1)) (m_var 2 (pv 2))) a_nil (by rfl)) (by rfl)))))))
theorem d_made (hx : Fx K mg) (D_common : Df P w K mg base 1 "common" 2 none .F S_common) {f : Addr} {fd : FuncData} (hm : mg "made" = some (.ref f)) (Fn : Fun K "made" "made" (topS 10) f fd) : Df P w K mg base 2 "made" 2 none .F S_made :=
  def_d (kr := .F) (msk := none) hm Fn (fun z => by cases z) (fun z => by cases z) sc_made rfl (fun _ _ _ _ _ _ us hl => match us, hl with | [_, _], _ => rfl) (fun cdv A outer s H E hr => b_made hx D_common cdv f A outer s H E hr)

theorem sc_times : FnScope ["one", "other"] ["one", "other"] (defScope (topS 13)) := ⟨rfl, rfl, rfl, by decide +kernel, rfl, by decide +kernel, by decide +kernel⟩
theorem b_times (hx : Fx K mg) (D_made : Df P w K mg base 2 "made" 2 none .F S_made) (cdv : Value) (f : Addr) (A : Around) (outer : List Env) (s : Shared) (H : Hp) (E : XK) (hr : Room 2 (A.deeper (PyProof.Rows.envOfC "times" (defScope (topS 13)) s.heap.objs.size f cdv))) :
    Pss (cxOf (L2N.CX P w) P w K mg base ["one", "other"] "times" (defScope (topS 13)) f cdv A outer s H E) (clK K) (fun c d _ H => E c d H) .F (defBody (topS 13)) g_times :=
  (s_one (s_ret (m_callD (kr := .F) D_made hr (by decide) (L2N.takes_of rfl rfl rfl rfl) (by rfl) (a_cons (m_mul (m_ixv 0 (pv 0) m_int (fun _ _ => rfl)) (m_ixv 1 (pv 1) m_int (fun _ _ => rfl))) (a_cons (m_mul (m_ixv 0 (pv 0) m_int (fun _ _ => rfl)) (m_ixv 1 (pv 1) m_int (fun _ _ => rfl))) a_nil (by rfl)) (by rfl)) (len_cons (len_cons len_nil)) (by decide) (by rfl) (by rfl))))
theorem d_times (hx : Fx K mg) (D_made : Df P w K mg base 2 "made" 2 none .F S_made) {f : Addr} {fd : FuncData} (hm : mg "times" = some (.ref f)) (Fn : Fun K "times" "times" (topS 13) f fd) : Df P w K mg base 3 "times" 2 none .F S_times :=
  def_d (kr := .F) (msk := none) hm Fn (fun z => by cases z) (fun z => by cases z) sc_times rfl (fun _ _ _ _ _ _ us hl => match us, hl with | [_, _], _ => rfl) (fun cdv A outer s H E hr => b_times hx D_made cdv f A outer s H E hr)

theorem sc_plus : FnScope ["one", "other"] ["one", "other"] (defScope (topS 12)) := ⟨rfl, rfl, rfl, by decide +kernel, rfl, by decide +kernel, by decide +kernel⟩
theorem b_plus (hx : Fx K mg) (D_made : Df P w K mg base 2 "made" 2 none .F S_made) (cdv : Value) (f : Addr) (A : Around) (outer : List Env) (s : Shared) (H : Hp) (E : XK) (hr : Room 2 (A.deeper (PyProof.Rows.envOfC "plus" (defScope (topS 12)) s.heap.objs.size f cdv))) :
    Pss (cxOf (L2N.CX P w) P w K mg base ["one", "other"] "plus" (defScope (topS 12)) f cdv A outer s H E) (clK K) (fun c d _ H => E c d H) .F (defBody (topS 12)) g_plus :=
  (s_one (s_ret (m_callD (kr := .F) D_made hr (by decide) (L2N.takes_of rfl rfl rfl rfl) (by rfl) (a_cons (m_add (m_mul (m_ixv 0 (pv 0) m_int (fun _ _ => rfl)) (m_ixv 1 (pv 1) m_int (fun _ _ => rfl))) (m_mul (m_ixv 1 (pv 1) m_int (fun _ _ => rfl)) (m_ixv 0 (pv 0) m_int (fun _ _ => rfl)))) (a_cons (m_mul (m_ixv 0 (pv 0) m_int (fun _ _ => rfl)) (m_ixv 1 (pv 1) m_int (fun _ _ => rfl))) a_nil (by rfl)) (by rfl)) (len_cons (len_cons len_nil)) (by decide) (by rfl) (by rfl))))
theorem d_plus (hx : Fx K mg) (D_made : Df P w K mg base 2 "made" 2 none .F S_made) {f : Addr} {fd : FuncData} (hm : mg "plus" = some (.ref f)) (Fn : Fun K "plus" "plus" (topS 12) f fd) : Df P w K mg base 3 "plus" 2 none .F S_plus :=
  def_d (kr := .F) (msk := none) hm Fn (fun z => by cases z) (fun z => by cases z) sc_plus rfl (fun _ _ _ _ _ _ us hl => match us, hl with | [_, _], _ => rfl) (fun cdv A outer s H E hr => b_plus hx D_made cdv f A outer s H E hr)

theorem sc_total : FnScope ["some", "found", "one"] ["some"] (defScope (topS 14)) := ⟨rfl, rfl, rfl, by decide +kernel, rfl, by decide +kernel, by decide +kernel⟩
theorem b_total (hx : Fx K mg) (D_plus : Df P w K mg base 3 "plus" 2 none .F S_plus) (cdv : Value) (f : Addr) (A : Around) (outer : List Env) (s : Shared) (H : Hp) (E : XK) (hr : Room 3 (A.deeper (PyProof.Rows.envOfC "total" (defScope (topS 14)) s.heap.objs.size f cdv))) :
    Pss (cxOf (L2N.CX P w) P w K mg base ["some", "found", "one"] "total" (defScope (topS 14)) f cdv A outer s H E) (clK K) (fun c d _ H => E c d H) .F (defBody (topS 14)) g_total :=
  (s_cons (s_set 1 sc_total.nd (by rfl) (Or.inl rfl) (m_tup (a_cons m_int (a_cons m_int a_nil (by rfl)) (by rfl))) (by rfl) (Or.inr rfl)) (s_cons (s_for (passes_of rfl) rfl (i_seq (m_var 0 (pv 0))) (g_name 2 (pg_name sc_total.nd (by rfl) (Or.inl rfl))) (s_one (s_set 1 sc_total.nd (by rfl) (Or.inl rfl) (m_callD (kr := .F) D_plus hr (by decide) (L2N.takes_of rfl rfl rfl rfl) (by rfl) (a_cons (m_var 1 (pv 1)) (a_cons (m_var 2 (pv 2)) a_nil (by rfl)) (by rfl)) (len_cons (len_cons len_nil)) (by decide) (by rfl) (by rfl)) (by rfl) (Or.inr rfl))) (fun _ => rfl)) (s_one (s_ret (m_var 1 (pv 1))))))
theorem d_total (hx : Fx K mg) (D_plus : Df P w K mg base 3 "plus" 2 none .F S_plus) {f : Addr} {fd : FuncData} (hm : mg "total" = some (.ref f)) (Fn : Fun K "total" "total" (topS 14) f fd) : Df P w K mg base 4 "total" 1 none .F S_total :=
  def_d (kr := .F) (msk := none) hm Fn (fun z => by cases z) (fun z => by cases z) sc_total rfl (fun _ _ _ _ _ _ us hl => match us, hl with | [_], _ => rfl) (fun cdv A outer s H E hr => b_total hx D_plus cdv f A outer s H E hr)

theorem sc_stepped_by : FnScope ["web", "shares", "found", "place", "other"] ["web", "shares"] (defScope (topS 29)) := ⟨rfl, rfl, rfl, by decide +kernel, rfl, by decide +kernel, by decide +kernel⟩
theorem b_stepped_by (hx : Fx K mg) (D_near : Df P w K mg base 2 "near" 2 none .F S_near) (D_times : Df P w K mg base 3 "times" 2 none .F S_times) (D_total : Df P w K mg base 4 "total" 1 none .F S_total) (cdv : Value) (f : Addr) (A : Around) (outer : List Env) (s : Shared) (H : Hp) (E : XK) (hr : Room 4 (A.deeper (PyProof.Rows.envOfC "stepped_by" (defScope (topS 29)) s.heap.objs.size f cdv))) :
    Pss (cxOf (L2N.CX P w) P w K mg base ["web", "shares", "found", "place", "other"] "stepped_by" (defScope (topS 29)) f cdv A outer s H E) (clK K) (fun c d _ H => E c d H) .F (defBody (topS 29)) g_stepped_by :=
  (s_cons (s_setO 2 sc_stepped_by.nd (by rfl) (Or.inl rfl) (m_lstO a_nil) (by rfl) (Or.inr rfl)) (s_cons (s_for (passes_of rfl) rfl (i_rng1 (by rfl) hx.f_range (m_ixv 0 (pv 0) m_int (fun _ _ => rfl)) (by rfl)) (g_name 3 (pg_name sc_stepped_by.nd (by rfl) (Or.inl rfl))) (s_one (s_expr (m_mt PySem.F.slot_list_append (by rfl) mt_append is_app (pv 2) (a_cons (m_callD (kr := .F) D_total hr (by decide) (L2N.takes_of rfl rfl rfl rfl) (by rfl) (a_cons (m_f (m_lcO (hc := rfl) (hN := sc_stepped_by.nd) (own := [("other", 4)]) (i_seq (m_callD (kr := .F) D_near hr (by decide) (L2N.takes_of rfl rfl rfl rfl) (by rfl) (a_cons (m_var 0 (pv 0)) (a_cons (m_var 3 (pv 3)) a_nil (by rfl)) (by rfl)) (len_cons (len_cons len_nil)) (by decide) (by rfl) (by rfl))) (blkOk_by (by kernel_rfl)) (by decide) (fun _ _ _ _ _ => (g_name 4 (pg_name sc_stepped_by.nd (by rfl) (by first | exact Or.inl rfl | exact Or.inr rfl)))) (fun _ _ _ _ _ => ts_nil) (fun _ _ _ _ _ => (m_callD (kr := .F) D_times hr (by decide) takes_w0 (by rfl) (a_cons (m_ixv 1 (pv 1) (m_var 4 (pv 4)) (fun _ _ => rfl)) (a_cons (m_tup (a_cons m_int (a_cons (m_b1 call_len is_len (by rfl) hx.f_len (by rfl) (m_b (m_callD (kr := .F) D_near hr (by decide) takes_w0 (by rfl) (a_cons (m_var 0 (pv 0)) (a_cons (m_var 4 (pv 4)) a_nil (by rfl)) (by rfl)) (len_cons (len_cons len_nil)) (by decide) (by rfl) (by rfl))) (by decide) (by decide) (by rfl) (by rfl)) a_nil (by rfl)) (by rfl))) a_nil (by rfl)) (by rfl)) (len_cons (len_cons len_nil)) (by decide) (by rfl) (by rfl))) (fun _ => rfl))) a_nil (by rfl)) (len_cons len_nil) (by decide) (by rfl) (by rfl)) a_nil (by rfl)) (by rfl) (by rfl) (by rfl) (by rfl) (by rfl)) (by rfl))) (fun _ => rfl)) (s_one (s_ret (m_t1 call_tuple_of is_tuple (by rfl) hx.f_tuple (by rfl) (m_bar 2 (pv 2)) (by decide) (by decide) (by rfl) (by rfl))))))
theorem d_stepped_by (hx : Fx K mg) (D_near : Df P w K mg base 2 "near" 2 none .F S_near) (D_times : Df P w K mg base 3 "times" 2 none .F S_times) (D_total : Df P w K mg base 4 "total" 1 none .F S_total) {f : Addr} {fd : FuncData} (hm : mg "stepped_by" = some (.ref f)) (Fn : Fun K "stepped_by" "stepped_by" (topS 29) f fd) : Df P w K mg base 5 "stepped_by" 2 none .F S_stepped_by :=
  def_d (kr := .F) (msk := none) hm Fn (fun z => by cases z) (fun z => by cases z) sc_stepped_by rfl (fun _ _ _ _ _ _ us hl => match us, hl with | [_, _], _ => rfl) (fun cdv A outer s H E hr => b_stepped_by hx D_near D_times D_total cdv f A outer s H E hr)

theorem sc_after : FnScope ["web", "place", "steps", "found", "turn"] ["web", "place", "steps"] (defScope (topS 31)) := ⟨rfl, rfl, rfl, by decide +kernel, rfl, by decide +kernel, by decide +kernel⟩
theorem b_after (hx : Fx K mg) (D_check_place : Df P w K mg base 3 "check_place" 2 none .F S_check_place) (D_check_steps : Df P w K mg base 3 "check_steps" 1 none .F S_check_steps) (D_check_web : Df P w K mg base 5 "check_web" 1 none .F S_check_web) (D_only_at : Df P w K mg base 1 "only_at" 2 none .F S_only_at) (D_stepped_by : Df P w K mg base 5 "stepped_by" 2 none .F S_stepped_by) (cdv : Value) (f : Addr) (A : Around) (outer : List Env) (s : Shared) (H : Hp) (E : XK) (hr : Room 5 (A.deeper (PyProof.Rows.envOfC "after" (defScope (topS 31)) s.heap.objs.size f cdv))) :
    Pss (cxOf (L2N.CX P w) P w K mg base ["web", "place", "steps", "found", "turn"] "after" (defScope (topS 31)) f cdv A outer s H E) (clK K) (fun c d _ H => E c d H) .F (defBody (topS 31)) g_after :=
  (s_cons (s_expr (m_callD (kr := .F) D_check_web hr (by decide) (L2N.takes_of rfl rfl rfl rfl) (by rfl) (a_cons (m_var 0 (pv 0)) a_nil (by rfl)) (len_cons len_nil) (by decide) (by rfl) (by rfl)) (by rfl)) (s_cons (s_expr (m_callD (kr := .F) D_check_place hr (by decide) (L2N.takes_of rfl rfl rfl rfl) (by rfl) (a_cons (m_var 0 (pv 0)) (a_cons (m_var 1 (pv 1)) a_nil (by rfl)) (by rfl)) (len_cons (len_cons len_nil)) (by decide) (by rfl) (by rfl)) (by rfl)) (s_cons (s_expr (m_callD (kr := .F) D_check_steps hr (by decide) (L2N.takes_of rfl rfl rfl rfl) (by rfl) (a_cons (m_var 2 (pv 2)) a_nil (by rfl)) (len_cons len_nil) (by decide) (by rfl) (by rfl)) (by rfl)) (s_cons (s_set 3 sc_after.nd (by rfl) (Or.inl rfl) (m_callD (kr := .F) D_only_at hr (by decide) (L2N.takes_of rfl rfl rfl rfl) (by rfl) (a_cons (m_var 0 (pv 0)) (a_cons (m_var 1 (pv 1)) a_nil (by rfl)) (by rfl)) (len_cons (len_cons len_nil)) (by decide) (by rfl) (by rfl)) (by rfl) (Or.inr rfl)) (s_cons (s_for (passes_of rfl) rfl (i_rng1 (by rfl) hx.f_range (m_var 2 (pv 2)) (by rfl)) (g_name 4 (pg_name sc_after.nd (by rfl) (Or.inl rfl))) (s_one (s_set 3 sc_after.nd (by rfl) (Or.inl rfl) (m_callD (kr := .F) D_stepped_by hr (by decide) (L2N.takes_of rfl rfl rfl rfl) (by rfl) (a_cons (m_var 0 (pv 0)) (a_cons (m_var 3 (pv 3)) a_nil (by rfl)) (by rfl)) (len_cons (len_cons len_nil)) (by decide) (by rfl) (by rfl)) (by rfl) (Or.inr rfl))) (fun _ => rfl)) (s_one (s_ret (m_var 3 (pv 3)))))))))
theorem d_after (hx : Fx K mg) (D_check_place : Df P w K mg base 3 "check_place" 2 none .F S_check_place) (D_check_steps : Df P w K mg base 3 "check_steps" 1 none .F S_check_steps) (D_check_web : Df P w K mg base 5 "check_web" 1 none .F S_check_web) (D_only_at : Df P w K mg base 1 "only_at" 2 none .F S_only_at) (D_stepped_by : Df P w K mg base 5 "stepped_by" 2 none .F S_stepped_by) {f : Addr} {fd : FuncData} (hm : mg "after" = some (.ref f)) (Fn : Fun K "after" "after" (topS 31) f fd) : Df P w K mg base 6 "after" 3 none .F S_after :=
  def_d (kr := .F) (msk := none) hm Fn (fun z => by cases z) (fun z => by cases z) sc_after rfl (fun _ _ _ _ _ _ us hl => match us, hl with | [_, _, _], _ => rfl) (fun cdv A outer s H E hr => b_after hx D_check_place D_check_steps D_check_web D_only_at D_stepped_by cdv f A outer s H E hr)

theorem sc_is_fraction : FnScope ["thing"] ["thing"] (defScope (topS 11)) := ⟨rfl, rfl, rfl, by decide +kernel, rfl, by decide +kernel, by decide +kernel⟩
theorem b_is_fraction (hx : Fx K mg) (D_common : Df P w K mg base 1 "common" 2 none .F S_common) (D_is_whole : Df P w K mg base 1 "is_whole" 1 none .F S_is_whole) (cdv : Value) (f : Addr) (A : Around) (outer : List Env) (s : Shared) (H : Hp) (E : XK) (hr : Room 1 (A.deeper (PyProof.Rows.envOfC "is_fraction" (defScope (topS 11)) s.heap.objs.size f cdv))) :
    Pss (cxOf (L2N.CX P w) P w K mg base ["thing"] "is_fraction" (defScope (topS 11)) f cdv A outer s H E) (clK K) (fun c d _ H => E c d H) .F (defBody (topS 11)) g_is_fraction :=
  (s_cons (s_if (t_pw (w_or (t_not (t_val (m_isi goodT_tuple (by rfl) hx.f_isinstance (by rfl) (by rfl) hx.f_tuple (by rfl) (by decide) (by decide) (m_bar 0 (pv 0)) (by rfl) (by rfl) (by rfl)) (fun _ => rfl))) (w_or (t_ne hr (m_b1 call_len is_len (by rfl) hx.f_len (by rfl) (m_bar 0 (pv 0)) (by decide) (by decide) (by rfl) (by rfl)) m_int) (w_or (t_not (t_val (m_callD (kr := .F) D_is_whole hr (by decide) (L2N.takes_of rfl rfl rfl rfl) (by rfl) (a_cons (m_ixv 0 (pv 0) m_int (fun _ _ => rfl)) a_nil (by rfl)) (len_cons len_nil) (by decide) (by rfl) (by rfl)) (fun _ => rfl))) (w_or1 (t_not (t_val (m_callD (kr := .F) D_is_whole hr (by decide) (L2N.takes_of rfl rfl rfl rfl) (by rfl) (a_cons (m_ixv 0 (pv 0) m_int (fun _ _ => rfl)) a_nil (by rfl)) (len_cons len_nil) (by decide) (by rfl) (by rfl)) (fun _ => rfl)))))))) (s_one (s_ret m_bl)) s_nil) (s_one (s_ret (m_and2 (m_gt (m_ixv 0 (pv 0) m_int (fun _ _ => rfl)) m_int) (m_one (m_eq hr (m_callD (kr := .F) D_common hr (by decide) (L2N.takes_of rfl rfl rfl rfl) (by rfl) (a_cons (m_b1 call_abs is_abs (by rfl) hx.f_abs (by rfl) (m_b (m_ixv 0 (pv 0) m_int (fun _ _ => rfl))) (by decide) (by decide) (by rfl) (by rfl)) (a_cons (m_ixv 0 (pv 0) m_int (fun _ _ => rfl)) a_nil (by rfl)) (by rfl)) (len_cons (len_cons len_nil)) (by decide) (by rfl) (by rfl)) m_int))))))
theorem d_is_fraction (hx : Fx K mg) (D_common : Df P w K mg base 1 "common" 2 none .F S_common) (D_is_whole : Df P w K mg base 1 "is_whole" 1 none .F S_is_whole) {f : Addr} {fd : FuncData} (hm : mg "is_fraction" = some (.ref f)) (Fn : Fun K "is_fraction" "is_fraction" (topS 11) f fd) : Df P w K mg base 2 "is_fraction" 1 none .F S_is_fraction :=
  def_d (kr := .F) (msk := none) hm Fn (fun z => by cases z) (fun z => by cases z) sc_is_fraction rfl (fun _ _ _ _ _ _ us hl => match us, hl with | [_], _ => rfl) (fun cdv A outer s H E hr => b_is_fraction hx D_common D_is_whole cdv f A outer s H E hr)

theorem sc_are_shares : FnScope ["web", "thing", "one"] ["web", "thing"] (defScope (topS 33)) := ⟨rfl, rfl, rfl, by decide +kernel, rfl, by decide +kernel, by decide +kernel⟩
theorem b_are_shares (hx : Fx K mg) (D_is_fraction : Df P w K mg base 2 "is_fraction" 1 none .F S_is_fraction) (D_total : Df P w K mg base 4 "total" 1 none .F S_total) (cdv : Value) (f : Addr) (A : Around) (outer : List Env) (s : Shared) (H : Hp) (E : XK) (hr : Room 4 (A.deeper (PyProof.Rows.envOfC "are_shares" (defScope (topS 33)) s.heap.objs.size f cdv))) :
    Pss (cxOf (L2N.CX P w) P w K mg base ["web", "thing", "one"] "are_shares" (defScope (topS 33)) f cdv A outer s H E) (clK K) (fun c d _ H => E c d H) .F (defBody (topS 33)) g_are_shares :=
  (s_cons (s_if (t_pw (w_or (t_not (t_val (m_isi goodT_tuple (by rfl) hx.f_isinstance (by rfl) (by rfl) hx.f_tuple (by rfl) (by decide) (by decide) (m_bar 1 (pv 1)) (by rfl) (by rfl) (by rfl)) (fun _ => rfl))) (w_or (t_ne hr (m_b1 call_len is_len (by rfl) hx.f_len (by rfl) (m_bar 1 (pv 1)) (by decide) (by decide) (by rfl) (by rfl)) (m_ixv 0 (pv 0) m_int (fun _ _ => rfl))) (w_or1 (t_not (t_val (m_b1 (cr_all rfl) is_all (by rfl) hx.f_all (by rfl) (m_b (m_f (m_lcO (hc := rfl) (hN := sc_are_shares.nd) (own := [("one", 2)]) (i_seq (m_var 1 (pv 1))) (blkOk_by (by kernel_rfl)) (by decide) (fun _ _ _ _ _ => (g_name 2 (pg_name sc_are_shares.nd (by rfl) (by first | exact Or.inl rfl | exact Or.inr rfl)))) (fun _ _ _ _ _ => ts_nil) (fun _ _ _ _ _ => (m_callD (kr := .F) D_is_fraction hr (by decide) takes_w0 (by rfl) (a_cons (m_var 2 (pv 2)) a_nil (by rfl)) (len_cons len_nil) (by decide) (by rfl) (by rfl))) (fun _ => rfl)))) (by decide) (by decide) (by rfl) (by rfl)) (fun _ => rfl))))))) (s_one (s_ret m_bl)) s_nil) (s_one (s_ret (m_and2 (m_ge (m_b1 (cr_min rfl) is_min (by rfl) hx.f_min (by rfl) (m_b (m_f (m_lcO (hc := rfl) (hN := sc_are_shares.nd) (own := [("one", 2)]) (i_seq (m_var 1 (pv 1))) (blkOk_by (by kernel_rfl)) (by decide) (fun _ _ _ _ _ => (g_name 2 (pg_name sc_are_shares.nd (by rfl) (by first | exact Or.inl rfl | exact Or.inr rfl)))) (fun _ _ _ _ _ => ts_nil) (fun _ _ _ _ _ => (m_ixv 2 (pv 2) m_int (fun _ _ => rfl))) (fun _ => rfl)))) (by decide) (by decide) (by rfl) (by rfl)) m_int) (m_one (m_eq hr (m_callD (kr := .F) D_total hr (by decide) (L2N.takes_of rfl rfl rfl rfl) (by rfl) (a_cons (m_var 1 (pv 1)) a_nil (by rfl)) (len_cons len_nil) (by decide) (by rfl) (by rfl)) (m_tup (a_cons m_int (a_cons m_int a_nil (by rfl)) (by rfl)))))))))
theorem d_are_shares (hx : Fx K mg) (D_is_fraction : Df P w K mg base 2 "is_fraction" 1 none .F S_is_fraction) (D_total : Df P w K mg base 4 "total" 1 none .F S_total) {f : Addr} {fd : FuncData} (hm : mg "are_shares" = some (.ref f)) (Fn : Fun K "are_shares" "are_shares" (topS 33) f fd) : Df P w K mg base 5 "are_shares" 2 none .F S_are_shares :=
  def_d (kr := .F) (msk := none) hm Fn (fun z => by cases z) (fun z => by cases z) sc_are_shares rfl (fun _ _ _ _ _ _ us hl => match us, hl with | [_, _], _ => rfl) (fun cdv A outer s H E hr => b_are_shares hx D_is_fraction D_total cdv f A outer s H E hr)

theorem sc_still_of : FnScope ["web", "place"] ["web"] (defScope (topS 35)) := ⟨rfl, rfl, rfl, by decide +kernel, rfl, by decide +kernel, by decide +kernel⟩
theorem b_still_of (hx : Fx K mg) (D_made : Df P w K mg base 2 "made" 2 none .F S_made) (D_near : Df P w K mg base 2 "near" 2 none .F S_near) (cdv : Value) (f : Addr) (A : Around) (outer : List Env) (s : Shared) (H : Hp) (E : XK) (hr : Room 2 (A.deeper (PyProof.Rows.envOfC "still_of" (defScope (topS 35)) s.heap.objs.size f cdv))) :
    Pss (cxOf (L2N.CX P w) P w K mg base ["web", "place"] "still_of" (defScope (topS 35)) f cdv A outer s H E) (clK K) (fun c d _ H => E c d H) .F (defBody (topS 35)) g_still_of :=
  (s_one (s_ret (m_t1 call_tuple_of is_tuple (by rfl) hx.f_tuple (by rfl) (m_b (m_f (m_lcO (hc := rfl) (hN := sc_still_of.nd) (own := [("place", 1)]) (i_rng1 (by rfl) hx.f_range (m_ixv 0 (pv 0) m_int (fun _ _ => rfl)) (by rfl)) (blkOk_by (by kernel_rfl)) (by decide) (fun _ _ _ _ _ => (g_name 1 (pg_name sc_still_of.nd (by rfl) (by first | exact Or.inl rfl | exact Or.inr rfl)))) (fun _ _ _ _ _ => ts_nil) (fun _ _ _ _ _ => (m_callD (kr := .F) D_made hr (by decide) takes_w0 (by rfl) (a_cons (m_b1 call_len is_len (by rfl) hx.f_len (by rfl) (m_b (m_callD (kr := .F) D_near hr (by decide) takes_w0 (by rfl) (a_cons (m_var 0 (pv 0)) (a_cons (m_var 1 (pv 1)) a_nil (by rfl)) (by rfl)) (len_cons (len_cons len_nil)) (by decide) (by rfl) (by rfl))) (by decide) (by decide) (by rfl) (by rfl)) (a_cons (m_mul m_int (m_b1 call_len is_len (by rfl) hx.f_len (by rfl) (m_b (m_ixv 0 (pv 0) m_int (fun _ _ => rfl))) (by decide) (by decide) (by rfl) (by rfl))) a_nil (by rfl)) (by rfl)) (len_cons (len_cons len_nil)) (by decide) (by rfl) (by rfl))) (fun _ => rfl)))) (by decide) (by decide) (by rfl) (by rfl))))
theorem d_still_of (hx : Fx K mg) (D_made : Df P w K mg base 2 "made" 2 none .F S_made) (D_near : Df P w K mg base 2 "near" 2 none .F S_near) {f : Addr} {fd : FuncData} (hm : mg "still_of" = some (.ref f)) (Fn : Fun K "still_of" "still_of" (topS 35) f fd) : Df P w K mg base 3 "still_of" 1 none .F S_still_of :=
  def_d (kr := .F) (msk := none) hm Fn (fun z => by cases z) (fun z => by cases z) sc_still_of rfl (fun _ _ _ _ _ _ us hl => match us, hl with | [_], _ => rfl) (fun cdv A outer s H E hr => b_still_of hx D_made D_near cdv f A outer s H E hr)

theorem sc_is_still : FnScope ["web", "thing"] ["web", "thing"] (defScope (topS 37)) := ⟨rfl, rfl, rfl, by decide +kernel, rfl, by decide +kernel, by decide +kernel⟩
theorem b_is_still (hx : Fx K mg) (D_are_shares : Df P w K mg base 5 "are_shares" 2 none .F S_are_shares) (D_check_web : Df P w K mg base 5 "check_web" 1 none .F S_check_web) (D_still_of : Df P w K mg base 3 "still_of" 1 none .F S_still_of) (cdv : Value) (f : Addr) (A : Around) (outer : List Env) (s : Shared) (H : Hp) (E : XK) (hr : Room 5 (A.deeper (PyProof.Rows.envOfC "is_still" (defScope (topS 37)) s.heap.objs.size f cdv))) :
    Pss (cxOf (L2N.CX P w) P w K mg base ["web", "thing"] "is_still" (defScope (topS 37)) f cdv A outer s H E) (clK K) (fun c d _ H => E c d H) .F (defBody (topS 37)) g_is_still :=
  (s_cons (s_expr (m_callD (kr := .F) D_check_web hr (by decide) (L2N.takes_of rfl rfl rfl rfl) (by rfl) (a_cons (m_var 0 (pv 0)) a_nil (by rfl)) (len_cons len_nil) (by decide) (by rfl) (by rfl)) (by rfl)) (s_one (s_ret (m_and2 (m_callD (kr := .F) D_are_shares hr (by decide) (L2N.takes_of rfl rfl rfl rfl) (by rfl) (a_cons (m_var 0 (pv 0)) (a_cons (m_var 1 (pv 1)) a_nil (by rfl)) (by rfl)) (len_cons (len_cons len_nil)) (by decide) (by rfl) (by rfl)) (m_one (m_eq hr (m_var 1 (pv 1)) (m_callD (kr := .F) D_still_of hr (by decide) (L2N.takes_of rfl rfl rfl rfl) (by rfl) (a_cons (m_var 0 (pv 0)) a_nil (by rfl)) (len_cons len_nil) (by decide) (by rfl) (by rfl))))))))
theorem d_is_still (hx : Fx K mg) (D_are_shares : Df P w K mg base 5 "are_shares" 2 none .F S_are_shares) (D_check_web : Df P w K mg base 5 "check_web" 1 none .F S_check_web) (D_still_of : Df P w K mg base 3 "still_of" 1 none .F S_still_of) {f : Addr} {fd : FuncData} (hm : mg "is_still" = some (.ref f)) (Fn : Fun K "is_still" "is_still" (topS 37) f fd) : Df P w K mg base 6 "is_still" 2 none .F S_is_still :=
  def_d (kr := .F) (msk := none) hm Fn (fun z => by cases z) (fun z => by cases z) sc_is_still rfl (fun _ _ _ _ _ _ us hl => match us, hl with | [_, _], _ => rfl) (fun cdv A outer s H E hr => b_is_still hx D_are_shares D_check_web D_still_of cdv f A outer s H E hr)

theorem sc_stepped : FnScope ["web", "shares"] ["web", "shares"] (defScope (topS 34)) := ⟨rfl, rfl, rfl, by decide +kernel, rfl, by decide +kernel, by decide +kernel⟩
theorem b_stepped (hx : Fx K mg) (D_are_shares : Df P w K mg base 5 "are_shares" 2 none .F S_are_shares) (D_check_web : Df P w K mg base 5 "check_web" 1 none .F S_check_web) (D_stepped_by : Df P w K mg base 5 "stepped_by" 2 none .F S_stepped_by) (cdv : Value) (f : Addr) (A : Around) (outer : List Env) (s : Shared) (H : Hp) (E : XK) (hr : Room 5 (A.deeper (PyProof.Rows.envOfC "stepped" (defScope (topS 34)) s.heap.objs.size f cdv))) :
    Pss (cxOf (L2N.CX P w) P w K mg base ["web", "shares"] "stepped" (defScope (topS 34)) f cdv A outer s H E) (clK K) (fun c d _ H => E c d H) .F (defBody (topS 34)) g_stepped :=
  (s_cons (s_expr (m_callD (kr := .F) D_check_web hr (by decide) (L2N.takes_of rfl rfl rfl rfl) (by rfl) (a_cons (m_var 0 (pv 0)) a_nil (by rfl)) (len_cons len_nil) (by decide) (by rfl) (by rfl)) (by rfl)) (s_cons (s_if (t_not (t_val (m_callD (kr := .F) D_are_shares hr (by decide) (L2N.takes_of rfl rfl rfl rfl) (by rfl) (a_cons (m_var 0 (pv 0)) (a_cons (m_var 1 (pv 1)) a_nil (by rfl)) (by rfl)) (len_cons (len_cons len_nil)) (by decide) (by rfl) (by rfl)) (fun _ => rfl))) (s_one (s_raise rfl (L2N.takes_of rfl rfl rfl rfl) exF hx.e_NoShares.1 hx.g_NoShares hx.e_NoShares.2.1 (raises_own hx.e_NoShares.2.2.1 hx.e_NoShares.2.2.2) (by rfl) (by rfl) (by decide))) s_nil) (s_one (s_ret (m_callD (kr := .F) D_stepped_by hr (by decide) (L2N.takes_of rfl rfl rfl rfl) (by rfl) (a_cons (m_var 0 (pv 0)) (a_cons (m_var 1 (pv 1)) a_nil (by rfl)) (by rfl)) (len_cons (len_cons len_nil)) (by decide) (by rfl) (by rfl))))))
theorem d_stepped (hx : Fx K mg) (D_are_shares : Df P w K mg base 5 "are_shares" 2 none .F S_are_shares) (D_check_web : Df P w K mg base 5 "check_web" 1 none .F S_check_web) (D_stepped_by : Df P w K mg base 5 "stepped_by" 2 none .F S_stepped_by) {f : Addr} {fd : FuncData} (hm : mg "stepped" = some (.ref f)) (Fn : Fun K "stepped" "stepped" (topS 34) f fd) : Df P w K mg base 6 "stepped" 2 none .F S_stepped :=
  def_d (kr := .F) (msk := none) hm Fn (fun z => by cases z) (fun z => by cases z) sc_stepped rfl (fun _ _ _ _ _ _ us hl => match us, hl with | [_, _], _ => rfl) (fun cdv A outer s H E hr => b_stepped hx D_are_shares D_check_web D_stepped_by cdv f A outer s H E hr)

theorem sc_still : FnScope ["web"] ["web"] (defScope (topS 36)) := ⟨rfl, rfl, rfl, by decide +kernel, rfl, by decide +kernel, by decide +kernel⟩
theorem b_still (hx : Fx K mg) (D_check_web : Df P w K mg base 5 "check_web" 1 none .F S_check_web) (D_still_of : Df P w K mg base 3 "still_of" 1 none .F S_still_of) (cdv : Value) (f : Addr) (A : Around) (outer : List Env) (s : Shared) (H : Hp) (E : XK) (hr : Room 5 (A.deeper (PyProof.Rows.envOfC "still" (defScope (topS 36)) s.heap.objs.size f cdv))) :
    Pss (cxOf (L2N.CX P w) P w K mg base ["web"] "still" (defScope (topS 36)) f cdv A outer s H E) (clK K) (fun c d _ H => E c d H) .F (defBody (topS 36)) g_still :=
  (s_cons (s_expr (m_callD (kr := .F) D_check_web hr (by decide) (L2N.takes_of rfl rfl rfl rfl) (by rfl) (a_cons (m_var 0 (pv 0)) a_nil (by rfl)) (len_cons len_nil) (by decide) (by rfl) (by rfl)) (by rfl)) (s_one (s_ret (m_callD (kr := .F) D_still_of hr (by decide) (L2N.takes_of rfl rfl rfl rfl) (by rfl) (a_cons (m_var 0 (pv 0)) a_nil (by rfl)) (len_cons len_nil) (by decide) (by rfl) (by rfl)))))
theorem d_still (hx : Fx K mg) (D_check_web : Df P w K mg base 5 "check_web" 1 none .F S_check_web) (D_still_of : Df P w K mg base 3 "still_of" 1 none .F S_still_of) {f : Addr} {fd : FuncData} (hm : mg "still" = some (.ref f)) (Fn : Fun K "still" "still" (topS 36) f fd) : Df P w K mg base 6 "still" 1 none .F S_still :=
  def_d (kr := .F) (msk := none) hm Fn (fun z => by cases z) (fun z => by cases z) sc_still rfl (fun _ _ _ _ _ _ us hl => match us, hl with | [_], _ => rfl) (fun cdv A outer s H E hr => b_still hx D_check_web D_still_of cdv f A outer s H E hr)

theorem sc_check_places : FnScope ["web", "a", "b"] ["web", "a", "b"] (defScope (topS 23)) := ⟨rfl, rfl, rfl, by decide +kernel, rfl, by decide +kernel, by decide +kernel⟩
theorem b_check_places (hx : Fx K mg) (D_check_place : Df P w K mg base 3 "check_place" 2 none .F S_check_place) (D_check_web : Df P w K mg base 5 "check_web" 1 none .F S_check_web) (cdv : Value) (f : Addr) (A : Around) (outer : List Env) (s : Shared) (H : Hp) (E : XK) (hr : Room 5 (A.deeper (PyProof.Rows.envOfC "check_places" (defScope (topS 23)) s.heap.objs.size f cdv))) :
    Pss (cxOf (L2N.CX P w) P w K mg base ["web", "a", "b"] "check_places" (defScope (topS 23)) f cdv A outer s H E) (clK K) (fun c d _ H => E c d H) .F (defBody (topS 23)) g_check_places :=
  (s_cons (s_expr (m_callD (kr := .F) D_check_web hr (by decide) (L2N.takes_of rfl rfl rfl rfl) (by rfl) (a_cons (m_var 0 (pv 0)) a_nil (by rfl)) (len_cons len_nil) (by decide) (by rfl) (by rfl)) (by rfl)) (s_cons (s_expr (m_callD (kr := .F) D_check_place hr (by decide) (L2N.takes_of rfl rfl rfl rfl) (by rfl) (a_cons (m_var 0 (pv 0)) (a_cons (m_var 1 (pv 1)) a_nil (by rfl)) (by rfl)) (len_cons (len_cons len_nil)) (by decide) (by rfl) (by rfl)) (by rfl)) (s_one (s_expr (m_callD (kr := .F) D_check_place hr (by decide) (L2N.takes_of rfl rfl rfl rfl) (by rfl) (a_cons (m_var 0 (pv 0)) (a_cons (m_var 2 (pv 2)) a_nil (by rfl)) (by rfl)) (len_cons (len_cons len_nil)) (by decide) (by rfl) (by rfl)) (by rfl)))))
theorem d_check_places (hx : Fx K mg) (D_check_place : Df P w K mg base 3 "check_place" 2 none .F S_check_place) (D_check_web : Df P w K mg base 5 "check_web" 1 none .F S_check_web) {f : Addr} {fd : FuncData} (hm : mg "check_places" = some (.ref f)) (Fn : Fun K "check_places" "check_places" (topS 23) f fd) : Df P w K mg base 6 "check_places" 3 none .F S_check_places :=
  def_d (kr := .F) (msk := none) hm Fn (fun z => by cases z) (fun z => by cases z) sc_check_places rfl (fun _ _ _ _ _ _ us hl => match us, hl with | [_, _, _], _ => rfl) (fun cdv A outer s H E hr => b_check_places hx D_check_place D_check_web cdv f A outer s H E hr)

theorem sc_ways : FnScope ["web", "a", "b", "steps", "found", "turn", "place", "other"] ["web", "a", "b", "steps"] (defScope (topS 32)) := ⟨rfl, rfl, rfl, by decide +kernel, rfl, by decide +kernel, by decide +kernel⟩
theorem b_ways (hx : Fx K mg) (D_check_places : Df P w K mg base 6 "check_places" 3 none .F S_check_places) (D_check_steps : Df P w K mg base 3 "check_steps" 1 none .F S_check_steps) (D_near : Df P w K mg base 2 "near" 2 none .F S_near) (cdv : Value) (f : Addr) (A : Around) (outer : List Env) (s : Shared) (H : Hp) (E : XK) (hr : Room 6 (A.deeper (PyProof.Rows.envOfC "ways" (defScope (topS 32)) s.heap.objs.size f cdv))) :
    Pss (cxOf (L2N.CX P w) P w K mg base ["web", "a", "b", "steps", "found", "turn", "place", "other"] "ways" (defScope (topS 32)) f cdv A outer s H E) (clK K) (fun c d _ H => E c d H) .F (defBody (topS 32)) g_ways :=
  (s_cons (s_expr (m_callD (kr := .F) D_check_places hr (by decide) (L2N.takes_of rfl rfl rfl rfl) (by rfl) (a_cons (m_var 0 (pv 0)) (a_cons (m_var 1 (pv 1)) (a_cons (m_var 2 (pv 2)) a_nil (by rfl)) (by rfl)) (by rfl)) (len_cons (len_cons (len_cons len_nil))) (by decide) (by rfl) (by rfl)) (by rfl)) (s_cons (s_expr (m_callD (kr := .F) D_check_steps hr (by decide) (L2N.takes_of rfl rfl rfl rfl) (by rfl) (a_cons (m_var 3 (pv 3)) a_nil (by rfl)) (len_cons len_nil) (by decide) (by rfl) (by rfl)) (by rfl)) (s_cons (s_set 4 sc_ways.nd (by rfl) (Or.inr rfl) (m_f (m_lcO (hc := rfl) (hN := sc_ways.nd) (own := [("place", 6)]) (i_rng1 (by rfl) hx.f_range (m_ixv 0 (pv 0) m_int (fun _ _ => rfl)) (by rfl)) (blkOk_by (by kernel_rfl)) (by decide) (fun _ _ _ _ _ => (g_name 6 (pg_name sc_ways.nd (by rfl) (by first | exact Or.inl rfl | exact Or.inr rfl)))) (fun _ _ _ _ _ => ts_nil) (fun _ _ _ _ _ => (m_t1 call_int1 is_int (by rfl) hx.f_int (by rfl) (m_b (m_eq hr (m_var 6 (pv 6)) (m_var 1 (pv 1)))) (by decide) (by decide) (by rfl) (by rfl))) (fun _ => rfl))) (by rfl) (Or.inl rfl)) (s_cons (s_for (passes_of rfl) rfl (i_rng1 (by rfl) hx.f_range (m_var 3 (pv 3)) (by rfl)) (g_name 5 (pg_name sc_ways.nd (by rfl) (Or.inl rfl))) (s_one (s_set 4 sc_ways.nd (by rfl) (Or.inr rfl) (m_f (m_lcO (hc := rfl) (hN := sc_ways.nd) (own := [("place", 6), ("other", 7)]) (i_rng1 (by rfl) hx.f_range (m_ixv 0 (pv 0) m_int (fun _ _ => rfl)) (by rfl)) (blkOk_by (by kernel_rfl)) (by decide) (fun _ _ _ _ _ => (g_name 6 (pg_name sc_ways.nd (by rfl) (by first | exact Or.inl rfl | exact Or.inr rfl)))) (fun _ _ _ _ _ => ts_nil) (fun _ _ _ _ _ => (m_b1 (cr_sum rfl) is_sum (by rfl) hx.f_sum (by rfl) (m_b (m_f (m_lcO (hc := rfl) (hN := sc_ways.nd) (own := [("other", 7)]) (i_seq (m_callD (kr := .F) D_near hr (by decide) takes_w0 (by rfl) (a_cons (m_var 0 (pv 0)) (a_cons (m_var 6 (pv 6)) a_nil (by rfl)) (by rfl)) (len_cons (len_cons len_nil)) (by decide) (by rfl) (by rfl))) (blkOk_by (by kernel_rfl)) (by decide) (fun _ _ _ _ _ => (g_name 7 (pg_name sc_ways.nd (by rfl) (by first | exact Or.inl rfl | exact Or.inr rfl)))) (fun _ _ _ _ _ => ts_nil) (fun _ _ _ _ _ => (m_ixv 4 (pv 4) (m_var 7 (pv 7)) (fun _ _ => rfl))) (fun _ => rfl)))) (by decide) (by decide) (by rfl) (by rfl))) (fun _ => rfl))) (by rfl) (Or.inl rfl))) (fun _ => rfl)) (s_one (s_ret (m_ixv 4 (pv 4) (m_var 2 (pv 2)) (fun _ _ => rfl))))))))
theorem d_ways (hx : Fx K mg) (D_check_places : Df P w K mg base 6 "check_places" 3 none .F S_check_places) (D_check_steps : Df P w K mg base 3 "check_steps" 1 none .F S_check_steps) (D_near : Df P w K mg base 2 "near" 2 none .F S_near) {f : Addr} {fd : FuncData} (hm : mg "ways" = some (.ref f)) (Fn : Fun K "ways" "ways" (topS 32) f fd) : Df P w K mg base 7 "ways" 4 none .F S_ways :=
  def_d (kr := .F) (msk := none) hm Fn (fun z => by cases z) (fun z => by cases z) sc_ways rfl (fun _ _ _ _ _ _ us hl => match us, hl with | [_, _, _, _], _ => rfl) (fun cdv A outer s H E hr => b_ways hx D_check_places D_check_steps D_near cdv f A outer s H E hr)

theorem sc_law : FnScope ["_law_script", "_law_k", "_law_pot_here", "_law_web_here", "_law_steps", "_law_further", "_law_a", "_law_b", "_law_both", "_law_here", "_law_there", "_law_shares", "_law_place"] ["_law_script"] (defScope (topS 47)) := ⟨rfl, rfl, rfl, by decide +kernel, rfl, by decide +kernel, by decide +kernel⟩
theorem b_law (hx : Fx K mg) (D__law_cell_at : Df P w K mg base 1 "_law_cell_at" 2 none .F S__law_cell_at) (D__law_pot : Df P w K mg base 1 "_law_pot" 1 none .O S__law_pot) (D__law_take : Df P w K mg base 1 "_law_take" 2 (some 0) .F S__law_take) (D__law_times : Df P w K mg base 2 "_law_times" 2 none .F S__law_times) (D__law_total : Df P w K mg base 3 "_law_total" 1 none .F S__law_total) (D__law_web : Df P w K mg base 2 "_law_web" 3 (some 0) .F S__law_web) (D_after : Df P w K mg base 6 "after" 3 none .F S_after) (D_is_still : Df P w K mg base 6 "is_still" 2 none .F S_is_still) (D_stepped : Df P w K mg base 6 "stepped" 2 none .F S_stepped) (D_still : Df P w K mg base 6 "still" 1 none .F S_still) (D_ways : Df P w K mg base 7 "ways" 4 none .F S_ways) (cdv : Value) (f : Addr) (s : Shared) (H : Hp) (hr : Room 7 (callerA.deeper (PyProof.Rows.envOfC "law" (defScope (topS 47)) s.heap.objs.size f cdv))) :
    Pss (cxOf (L2N.CX P w) P w K mg base ["_law_script", "_law_k", "_law_pot_here", "_law_web_here", "_law_steps", "_law_further", "_law_a", "_law_b", "_law_both", "_law_here", "_law_there", "_law_shares", "_law_place"] "law" (defScope (topS 47)) f cdv callerA [] s H (fun _ _ _ => False)) (clK K) (fun _ _ _ _ => False) .F (defBody (topS 47)) g_law :=
  (s_cons (s_for (passes_of rfl) rfl (i_rng1 (by rfl) hx.f_range (m_b2 (g := gMax) (call_max2 rfl) (by rfl) hx.f_max (by rfl) m_int (m_b2 (g := gMin) (call_min2 rfl) (by rfl) hx.f_min (by rfl) (m_b1 call_len is_len (by rfl) hx.f_len (by rfl) (m_bar 0 (pv 0)) (by decide) (by decide) (by rfl) (by rfl)) m_int (by decide) (by decide) (by rfl) (by rfl) (by rfl)) (by decide) (by decide) (by rfl) (by rfl) (by rfl)) (by rfl)) (g_name 1 (pg_name sc_law.nd (by rfl) (Or.inl rfl))) (s_cons (s_setO 2 sc_law.nd (by rfl) (Or.inl rfl) (m_callD (kr := .O) D__law_pot hr (by decide) (L2N.takes_of rfl rfl rfl rfl) (by rfl) (a_cons (m_callD (kr := .F) D__law_cell_at hr (by decide) (L2N.takes_of rfl rfl rfl rfl) (by rfl) (a_cons (m_var 0 (pv 0)) (a_cons (m_var 1 (pv 1)) a_nil (by rfl)) (by rfl)) (len_cons (len_cons len_nil)) (by decide) (by rfl) (by rfl)) a_nil (by rfl)) (len_cons len_nil) (by decide) (by rfl) (by rfl)) (by rfl) (Or.inr rfl)) (s_cons (s_set 3 sc_law.nd (by rfl) (Or.inr rfl) (m_callMD (kr := .F) 2 D__law_web hr (by decide) (L2N.takes_of rfl rfl rfl rfl) (by rfl) (pv 2) (a_cons m_int (a_cons m_int a_nil (by rfl)) (by rfl)) (len_cons (len_cons len_nil)) (by decide) (by rfl) (by rfl)) (by rfl) (Or.inl rfl)) (s_cons (s_set 4 sc_law.nd (by rfl) (Or.inr rfl) (m_callMD (kr := .F) 2 D__law_take hr (by decide) (L2N.takes_of rfl rfl rfl rfl) (by rfl) (pv 2) (a_cons m_int a_nil (by rfl)) (len_cons len_nil) (by decide) (by rfl) (by rfl)) (by rfl) (Or.inl rfl)) (s_cons (s_set 5 sc_law.nd (by rfl) (Or.inr rfl) (m_callMD (kr := .F) 2 D__law_take hr (by decide) (L2N.takes_of rfl rfl rfl rfl) (by rfl) (pv 2) (a_cons m_int a_nil (by rfl)) (len_cons len_nil) (by decide) (by rfl) (by rfl)) (by rfl) (Or.inl rfl)) (s_cons (s_set 6 sc_law.nd (by rfl) (Or.inr rfl) (m_callMD (kr := .F) 2 D__law_take hr (by decide) (L2N.takes_of rfl rfl rfl rfl) (by rfl) (pv 2) (a_cons (m_ixv 3 (pv 3) m_int (fun _ _ => rfl)) a_nil (by rfl)) (len_cons len_nil) (by decide) (by rfl) (by rfl)) (by rfl) (Or.inl rfl)) (s_cons (s_set 7 sc_law.nd (by rfl) (Or.inr rfl) (m_callMD (kr := .F) 2 D__law_take hr (by decide) (L2N.takes_of rfl rfl rfl rfl) (by rfl) (pv 2) (a_cons (m_ixv 3 (pv 3) m_int (fun _ _ => rfl)) a_nil (by rfl)) (len_cons len_nil) (by decide) (by rfl) (by rfl)) (by rfl) (Or.inl rfl)) (s_cons (s_par3 9 10 11 rfl sc_law.nd (by rfl) (by rfl) (by rfl) (by decide) (by decide) (by decide) (by rfl) (by rfl) (by rfl) (a_cons (m_callD (kr := .F) D_after hr (by decide) (L2N.takes_of rfl rfl rfl rfl) (by rfl) (a_cons (m_var 3 (pv 3)) (a_cons (m_var 6 (pv 6)) (a_cons (m_var 4 (pv 4)) a_nil (by rfl)) (by rfl)) (by rfl)) (len_cons (len_cons (len_cons len_nil))) (by decide) (by rfl) (by rfl)) (a_cons (m_callD (kr := .F) D_after hr (by decide) (L2N.takes_of rfl rfl rfl rfl) (by rfl) (a_cons (m_var 3 (pv 3)) (a_cons (m_var 7 (pv 7)) (a_cons (m_var 4 (pv 4)) a_nil (by rfl)) (by rfl)) (by rfl)) (len_cons (len_cons (len_cons len_nil))) (by decide) (by rfl) (by rfl)) (a_cons (m_callD (kr := .F) D_still hr (by decide) (L2N.takes_of rfl rfl rfl rfl) (by rfl) (a_cons (m_var 3 (pv 3)) a_nil (by rfl)) (len_cons len_nil) (by decide) (by rfl) (by rfl)) a_nil (by rfl)) (by rfl)) (by rfl)) (by rfl) (by rfl)) (s_cons (s_if (t_pw (w_or (t_ne hr (m_callD (kr := .F) D__law_total hr (by decide) (L2N.takes_of rfl rfl rfl rfl) (by rfl) (a_cons (m_var 9 (pv 9)) a_nil (by rfl)) (len_cons len_nil) (by decide) (by rfl) (by rfl)) (m_tup (a_cons m_int (a_cons m_int a_nil (by rfl)) (by rfl)))) (w_or1 (t_ne hr (m_callD (kr := .F) D_stepped hr (by decide) (L2N.takes_of rfl rfl rfl rfl) (by rfl) (a_cons (m_var 3 (pv 3)) (a_cons (m_var 9 (pv 9)) a_nil (by rfl)) (by rfl)) (len_cons (len_cons len_nil)) (by decide) (by rfl) (by rfl)) (m_callD (kr := .F) D_after hr (by decide) (L2N.takes_of rfl rfl rfl rfl) (by rfl) (a_cons (m_var 3 (pv 3)) (a_cons (m_var 6 (pv 6)) (a_cons (m_add (m_var 4 (pv 4)) m_int) a_nil (by rfl)) (by rfl)) (by rfl)) (len_cons (len_cons (len_cons len_nil))) (by decide) (by rfl) (by rfl)))))) (s_one (s_ret m_bl)) s_nil) (s_cons (s_if (t_pw (w_or (t_ne hr (m_callD (kr := .F) D_stepped hr (by decide) (L2N.takes_of rfl rfl rfl rfl) (by rfl) (a_cons (m_var 3 (pv 3)) (a_cons (m_var 11 (pv 11)) a_nil (by rfl)) (by rfl)) (len_cons (len_cons len_nil)) (by decide) (by rfl) (by rfl)) (m_var 11 (pv 11))) (w_or1 (t_isnot (m_callD (kr := .F) D_is_still hr (by decide) (L2N.takes_of rfl rfl rfl rfl) (by rfl) (a_cons (m_var 3 (pv 3)) (a_cons (m_var 11 (pv 11)) a_nil (by rfl)) (by rfl)) (len_cons (len_cons len_nil)) (by decide) (by rfl) (by rfl)) m_bl)))) (s_one (s_ret m_bl)) s_nil) (s_cons (s_if (t_ne hr (m_callD (kr := .F) D_is_still hr (by decide) (L2N.takes_of rfl rfl rfl rfl) (by rfl) (a_cons (m_var 3 (pv 3)) (a_cons (m_var 9 (pv 9)) a_nil (by rfl)) (by rfl)) (len_cons (len_cons len_nil)) (by decide) (by rfl) (by rfl)) (m_eq hr (m_var 9 (pv 9)) (m_var 11 (pv 11)))) (s_one (s_ret m_bl)) s_nil) (s_cons (s_if (t_ne hr (m_callD (kr := .F) D__law_times hr (by decide) (L2N.takes_of rfl rfl rfl rfl) (by rfl) (a_cons (m_ixv 11 (pv 11) (m_var 6 (pv 6)) (fun _ _ => rfl)) (a_cons (m_ixv 9 (pv 9) (m_var 7 (pv 7)) (fun _ _ => rfl)) a_nil (by rfl)) (by rfl)) (len_cons (len_cons len_nil)) (by decide) (by rfl) (by rfl)) (m_callD (kr := .F) D__law_times hr (by decide) (L2N.takes_of rfl rfl rfl rfl) (by rfl) (a_cons (m_ixv 11 (pv 11) (m_var 7 (pv 7)) (fun _ _ => rfl)) (a_cons (m_ixv 10 (pv 10) (m_var 6 (pv 6)) (fun _ _ => rfl)) a_nil (by rfl)) (by rfl)) (len_cons (len_cons len_nil)) (by decide) (by rfl) (by rfl))) (s_one (s_ret m_bl)) s_nil) (s_cons (s_if (t_ne hr (m_callD (kr := .F) D_ways hr (by decide) (L2N.takes_of rfl rfl rfl rfl) (by rfl) (a_cons (m_var 3 (pv 3)) (a_cons (m_var 6 (pv 6)) (a_cons (m_var 7 (pv 7)) (a_cons (m_var 4 (pv 4)) a_nil (by rfl)) (by rfl)) (by rfl)) (by rfl)) (len_cons (len_cons (len_cons (len_cons len_nil)))) (by decide) (by rfl) (by rfl)) (m_callD (kr := .F) D_ways hr (by decide) (L2N.takes_of rfl rfl rfl rfl) (by rfl) (a_cons (m_var 3 (pv 3)) (a_cons (m_var 7 (pv 7)) (a_cons (m_var 6 (pv 6)) (a_cons (m_var 4 (pv 4)) a_nil (by rfl)) (by rfl)) (by rfl)) (by rfl)) (len_cons (len_cons (len_cons (len_cons len_nil)))) (by decide) (by rfl) (by rfl))) (s_one (s_ret m_bl)) s_nil) (s_cons (s_if (t_pw (w_and (t_eq hr (m_var 1 (pv 1)) m_int) (w_and1 (t_ne hr (m_callD (kr := .F) D_stepped hr (by decide) (L2N.takes_of rfl rfl rfl rfl) (by rfl) (a_cons (m_var 3 (pv 3)) (a_cons (m_callD (kr := .F) D_after hr (by decide) (L2N.takes_of rfl rfl rfl rfl) (by rfl) (a_cons (m_var 3 (pv 3)) (a_cons (m_var 6 (pv 6)) (a_cons m_int a_nil (by rfl)) (by rfl)) (by rfl)) (len_cons (len_cons (len_cons len_nil))) (by decide) (by rfl) (by rfl)) a_nil (by rfl)) (by rfl)) (len_cons (len_cons len_nil)) (by decide) (by rfl) (by rfl)) (m_callD (kr := .F) D_after hr (by decide) (L2N.takes_of rfl rfl rfl rfl) (by rfl) (a_cons (m_var 3 (pv 3)) (a_cons (m_var 6 (pv 6)) (a_cons m_int a_nil (by rfl)) (by rfl)) (by rfl)) (len_cons (len_cons (len_cons len_nil))) (by decide) (by rfl) (by rfl)))))) (s_one (s_ret m_bl)) s_nil) (s_cons (s_lcF (i := 8) rfl sc_law.nd (by rfl) (by rfl) (by rfl) (own := [("_law_place", 12)]) (i_rng1 (by rfl) hx.f_range (m_ixv 3 (pv 3) m_int (fun _ _ => rfl)) (by rfl)) (blkOk_by (by kernel_rfl)) (by decide) (fun _ _ _ _ _ => (g_name 12 (pg_name sc_law.nd (by rfl) (by first | exact Or.inl rfl | exact Or.inr rfl)))) (fun _ _ _ _ _ => ts_nil) (fun _ _ _ _ _ => (m_mul (m_callD (kr := .F) D_ways hr (by decide) takes_w0 (by rfl) (a_cons (m_var 3 (pv 3)) (a_cons (m_var 6 (pv 6)) (a_cons (m_var 12 (pv 12)) (a_cons (m_var 4 (pv 4)) a_nil (by rfl)) (by rfl)) (by rfl)) (by rfl)) (len_cons (len_cons (len_cons (len_cons len_nil)))) (by decide) (by rfl) (by rfl)) (m_callD (kr := .F) D_ways hr (by decide) takes_w0 (by rfl) (a_cons (m_var 3 (pv 3)) (a_cons (m_var 12 (pv 12)) (a_cons (m_var 7 (pv 7)) (a_cons (m_var 5 (pv 5)) a_nil (by rfl)) (by rfl)) (by rfl)) (by rfl)) (len_cons (len_cons (len_cons (len_cons len_nil)))) (by decide) (by rfl) (by rfl)))) (fun _ => rfl)) (s_one (s_if (t_ne hr (m_b1 (cr_sum rfl) is_sum (by rfl) hx.f_sum (by rfl) (m_bar 8 (pv 8)) (by decide) (by decide) (by rfl) (by rfl)) (m_callD (kr := .F) D_ways hr (by decide) (L2N.takes_of rfl rfl rfl rfl) (by rfl) (a_cons (m_var 3 (pv 3)) (a_cons (m_var 6 (pv 6)) (a_cons (m_var 7 (pv 7)) (a_cons (m_add (m_var 4 (pv 4)) (m_var 5 (pv 5))) a_nil (by rfl)) (by rfl)) (by rfl)) (by rfl)) (len_cons (len_cons (len_cons (len_cons len_nil)))) (by decide) (by rfl) (by rfl))) (s_one (s_ret m_bl)) s_nil)))))))))))))))) (fun _ => rfl)) (s_one (s_ret m_bl)))

end
end K13

set_option maxRecDepth 100000
set_option maxHeartbeats 3900000
namespace K13
open PySem L2 Pw
open Kc
open PyProof.Rows PySem.Calls PySem.W
/-! ### the head -/
def hfn0 : List He.DefD := [defD "_law_cell_at" (topS 39), defD "_law_pot" (topS 40), defD "_law_take" (topS 41), defD "_law_fr" (topS 42), defD "_law_times" (topS 44), defD "_law_plus" (topS 43), defD "_law_total" (topS 45), defD "_law_web" (topS 46), defD "is_whole" (topS 7), defD "is_upto" (topS 8), defD "check_place" (topS 22), defD "check_steps" (topS 28), defD "is_tie" (topS 18), defD "reached" (topS 19), defD "is_web" (topS 20), defD "check_web" (topS 21), defD "only_at" (topS 30), defD "are_tied" (topS 24), defD "near" (topS 25), defD "common" (topS 9), defD "made" (topS 10), defD "times" (topS 13), defD "plus" (topS 12), defD "total" (topS 14), defD "stepped_by" (topS 29), defD "after" (topS 31), defD "is_fraction" (topS 11), defD "are_shares" (topS 33), defD "still_of" (topS 35), defD "is_still" (topS 37)]
def hfn1 : List He.DefD := [defD "stepped" (topS 34), defD "still" (topS 36), defD "check_places" (topS 23), defD "ways" (topS 32), defD "law" (topS 47)]
def hfn : List He.DefD := hfn0 ++ hfn1
def hfa0 : List He.Fa := [.free "abs", .free "all", .free "bool", .free "int", .free "isinstance", .free "len", .free "list", .free "max", .free "min", .free "range", .free "set", .free "sorted", .free "sum", .free "tuple", .free "zip", .int "LEAST_PLACES" 2, .int "MOST_PLACES" 8, .int "MOST_STEPS" 30, .glo "WalkError", .glo "NoWeb", .glo "NoPlace", .glo "NoNumber", .glo "NoShares", .exc "WalkError", .exc "NoWeb", .exc "NoPlace", .exc "NoNumber", .exc "NoShares", .glo "_law_cell_at", .glo "_law_pot"]
def hfa1 : List He.Fa := [.glo "_law_take", .glo "_law_fr", .glo "_law_times", .glo "_law_plus", .glo "_law_total", .glo "_law_web", .glo "is_whole", .glo "is_upto", .glo "check_place", .glo "check_steps", .glo "is_tie", .glo "reached", .glo "is_web", .glo "check_web", .glo "only_at", .glo "are_tied", .glo "near", .glo "common", .glo "made", .glo "times", .glo "plus", .glo "total", .glo "stepped_by", .glo "after", .glo "is_fraction", .glo "are_shares", .glo "still_of", .glo "is_still", .glo "stepped", .glo "still"]
def hfa2 : List He.Fa := [.glo "check_places", .glo "ways", .glo "law"]
def hfa : List He.Fa := hfa0 ++ hfa1 ++ hfa2
def hex (K : PySem.W.Frag) : Bool := (K.lookup sysModules).isSome
def loose0 : List PySem.Str := ["WalkError", "NoWeb", "NoPlace", "NoNumber", "NoShares", "is_whole", "is_upto", "common", "made", "is_fraction", "plus", "times", "total", "LEAST_PLACES", "MOST_PLACES", "is_tie", "reached", "is_web", "check_web", "check_place", "check_places", "are_tied", "near", "MOST_STEPS", "check_steps", "stepped_by", "only_at", "after", "ways", "are_shares"]
def loose1 : List PySem.Str := ["stepped", "still_of", "still", "is_still", "_law_cell_at", "_law_pot", "_law_take", "_law_fr", "_law_plus", "_law_times", "_law_total", "_law_web"]
def loose : List PySem.Str := loose0 ++ loose1
abbrev R : PySem.W.OpenRow := PySem.W.OpenLaw.row PySem.Challenge.rw_treewalkers_k13_whole_walks
abbrev hk : PySem.W.Hook := hookP 4 hfa hfn hex
def hob (s : PySem.W.SharedT) : AlP := obsP 4 hfa hfn hex (HandSHeadRun.getT s)
theorem hob_eq (s : PySem.W.SharedT) : hob s = hk.obs s.abs := obsP_eq (HandSHeadRun.getT_eq s)
theorem run (w : World) : HandSHeadRun.RunEq R (PySem.W.view R.prog [47]) hk hob 30000 loose w := by
  intro os
  kernel_rfl
theorem fx_of {K : PySem.W.Frag} {mg : Str → Option Value} {h : Heap} (X : K.In h) (G : h.Ns mainGlobals mg) (S : He.SaysD hfa hfn K) (e : hex K = true) : Fx K mg := by
  unfold hex at e
  exact { f_abs := He.free_ok X G (S.fact 0 (f := .free "abs") rfl), f_all := He.free_ok X G (S.fact 1 (f := .free "all") rfl), f_bool := He.free_ok X G (S.fact 2 (f := .free "bool") rfl), f_int := He.free_ok X G (S.fact 3 (f := .free "int") rfl), f_isinstance := He.free_ok X G (S.fact 4 (f := .free "isinstance") rfl), f_len := He.free_ok X G (S.fact 5 (f := .free "len") rfl), f_list := He.free_ok X G (S.fact 6 (f := .free "list") rfl), f_max := He.free_ok X G (S.fact 7 (f := .free "max") rfl), f_min := He.free_ok X G (S.fact 8 (f := .free "min") rfl), f_range := He.free_ok X G (S.fact 9 (f := .free "range") rfl), f_set := He.free_ok X G (S.fact 10 (f := .free "set") rfl), f_sorted := He.free_ok X G (S.fact 11 (f := .free "sorted") rfl), f_sum := He.free_ok X G (S.fact 12 (f := .free "sum") rfl), f_tuple := He.free_ok X G (S.fact 13 (f := .free "tuple") rfl), f_zip := He.free_ok X G (S.fact 14 (f := .free "zip") rfl), c_LEAST_PLACES := He.int_ok X G (S.fact 15 (f := .int "LEAST_PLACES" 2) rfl), c_MOST_PLACES := He.int_ok X G (S.fact 16 (f := .int "MOST_PLACES" 8) rfl), c_MOST_STEPS := He.int_ok X G (S.fact 17 (f := .int "MOST_STEPS" 30) rfl), g_WalkError := He.glo_ok X G (S.fact 18 (f := .glo "WalkError") rfl), g_NoWeb := He.glo_ok X G (S.fact 19 (f := .glo "NoWeb") rfl), g_NoPlace := He.glo_ok X G (S.fact 20 (f := .glo "NoPlace") rfl), g_NoNumber := He.glo_ok X G (S.fact 21 (f := .glo "NoNumber") rfl), g_NoShares := He.glo_ok X G (S.fact 22 (f := .glo "NoShares") rfl), e_WalkError := He.exc_ok (S.fact 23 (f := .exc "WalkError") rfl), e_NoWeb := He.exc_ok (S.fact 24 (f := .exc "NoWeb") rfl), e_NoPlace := He.exc_ok (S.fact 25 (f := .exc "NoPlace") rfl), e_NoNumber := He.exc_ok (S.fact 26 (f := .exc "NoNumber") rfl), e_NoShares := He.exc_ok (S.fact 27 (f := .exc "NoShares") rfl), sys := e }
theorem body_of {P : Program} {w : World} {K : PySem.W.Frag} {mg : Str → Option Value} {h base : Heap} (X : K.In h) (G : h.Ns mainGlobals mg) (S : He.SaysD hfa hfn K) (e : hex K = true) (cdv : Value) (s : Shared) (H : Hp) :
    Pss (cxOf (L2N.CX P w) P w K mg base ["_law_script", "_law_k", "_law_pot_here", "_law_web_here", "_law_steps", "_law_further", "_law_a", "_law_b", "_law_both", "_law_here", "_law_there", "_law_shares", "_law_place"] "law" (defScope (topS 47)) (He.ga K "law") cdv callerA [] s H (fun _ _ _ => False)) (clK K) (fun _ _ _ _ => False) .F (defBody (topS 47)) g_law := by
  have hx := fx_of X G S e
  obtain ⟨_, F__law_cell_at⟩ := defD_ok (mg := mg) S 0 (x := "_law_cell_at") (st := topS 39) rfl
  have D__law_cell_at := d__law_cell_at (P := P) (w := w) (base := base) hx  (He.glo_ok X G (S.fact 28 (f := .glo "_law_cell_at") rfl)) F__law_cell_at
  obtain ⟨_, F__law_pot⟩ := defD_ok (mg := mg) S 1 (x := "_law_pot") (st := topS 40) rfl
  have D__law_pot := d__law_pot (P := P) (w := w) (base := base) hx  (He.glo_ok X G (S.fact 29 (f := .glo "_law_pot") rfl)) F__law_pot
  obtain ⟨_, F__law_take⟩ := defD_ok (mg := mg) S 2 (x := "_law_take") (st := topS 41) rfl
  have D__law_take := d__law_take (P := P) (w := w) (base := base) hx  (He.glo_ok X G (S.fact 30 (f := .glo "_law_take") rfl)) F__law_take
  obtain ⟨_, F__law_fr⟩ := defD_ok (mg := mg) S 3 (x := "_law_fr") (st := topS 42) rfl
  have D__law_fr := d__law_fr (P := P) (w := w) (base := base) hx  (He.glo_ok X G (S.fact 31 (f := .glo "_law_fr") rfl)) F__law_fr
  obtain ⟨_, F__law_times⟩ := defD_ok (mg := mg) S 4 (x := "_law_times") (st := topS 44) rfl
  have D__law_times := d__law_times (P := P) (w := w) (base := base) hx D__law_fr (He.glo_ok X G (S.fact 32 (f := .glo "_law_times") rfl)) F__law_times
  obtain ⟨_, F__law_plus⟩ := defD_ok (mg := mg) S 5 (x := "_law_plus") (st := topS 43) rfl
  have D__law_plus := d__law_plus (P := P) (w := w) (base := base) hx D__law_fr (He.glo_ok X G (S.fact 33 (f := .glo "_law_plus") rfl)) F__law_plus
  obtain ⟨_, F__law_total⟩ := defD_ok (mg := mg) S 6 (x := "_law_total") (st := topS 45) rfl
  have D__law_total := d__law_total (P := P) (w := w) (base := base) hx D__law_plus (He.glo_ok X G (S.fact 34 (f := .glo "_law_total") rfl)) F__law_total
  obtain ⟨_, F__law_web⟩ := defD_ok (mg := mg) S 7 (x := "_law_web") (st := topS 46) rfl
  have D__law_web := d__law_web (P := P) (w := w) (base := base) hx D__law_take (He.glo_ok X G (S.fact 35 (f := .glo "_law_web") rfl)) F__law_web
  obtain ⟨_, F_is_whole⟩ := defD_ok (mg := mg) S 8 (x := "is_whole") (st := topS 7) rfl
  have D_is_whole := d_is_whole (P := P) (w := w) (base := base) hx  (He.glo_ok X G (S.fact 36 (f := .glo "is_whole") rfl)) F_is_whole
  obtain ⟨_, F_is_upto⟩ := defD_ok (mg := mg) S 9 (x := "is_upto") (st := topS 8) rfl
  have D_is_upto := d_is_upto (P := P) (w := w) (base := base) hx D_is_whole (He.glo_ok X G (S.fact 37 (f := .glo "is_upto") rfl)) F_is_upto
  obtain ⟨_, F_check_place⟩ := defD_ok (mg := mg) S 10 (x := "check_place") (st := topS 22) rfl
  have D_check_place := d_check_place (P := P) (w := w) (base := base) hx D_is_upto (He.glo_ok X G (S.fact 38 (f := .glo "check_place") rfl)) F_check_place
  obtain ⟨_, F_check_steps⟩ := defD_ok (mg := mg) S 11 (x := "check_steps") (st := topS 28) rfl
  have D_check_steps := d_check_steps (P := P) (w := w) (base := base) hx D_is_upto (He.glo_ok X G (S.fact 39 (f := .glo "check_steps") rfl)) F_check_steps
  obtain ⟨_, F_is_tie⟩ := defD_ok (mg := mg) S 12 (x := "is_tie") (st := topS 18) rfl
  have D_is_tie := d_is_tie (P := P) (w := w) (base := base) hx D_is_upto (He.glo_ok X G (S.fact 40 (f := .glo "is_tie") rfl)) F_is_tie
  obtain ⟨_, F_reached⟩ := defD_ok (mg := mg) S 13 (x := "reached") (st := topS 19) rfl
  have D_reached := d_reached (P := P) (w := w) (base := base) hx  (He.glo_ok X G (S.fact 41 (f := .glo "reached") rfl)) F_reached
  obtain ⟨_, F_is_web⟩ := defD_ok (mg := mg) S 14 (x := "is_web") (st := topS 20) rfl
  have D_is_web := d_is_web (P := P) (w := w) (base := base) hx D_is_tie D_is_upto D_reached (He.glo_ok X G (S.fact 42 (f := .glo "is_web") rfl)) F_is_web
  obtain ⟨_, F_check_web⟩ := defD_ok (mg := mg) S 15 (x := "check_web") (st := topS 21) rfl
  have D_check_web := d_check_web (P := P) (w := w) (base := base) hx D_is_web (He.glo_ok X G (S.fact 43 (f := .glo "check_web") rfl)) F_check_web
  obtain ⟨_, F_only_at⟩ := defD_ok (mg := mg) S 16 (x := "only_at") (st := topS 30) rfl
  have D_only_at := d_only_at (P := P) (w := w) (base := base) hx  (He.glo_ok X G (S.fact 44 (f := .glo "only_at") rfl)) F_only_at
  obtain ⟨_, F_are_tied⟩ := defD_ok (mg := mg) S 17 (x := "are_tied") (st := topS 24) rfl
  have D_are_tied := d_are_tied (P := P) (w := w) (base := base) hx  (He.glo_ok X G (S.fact 45 (f := .glo "are_tied") rfl)) F_are_tied
  obtain ⟨_, F_near⟩ := defD_ok (mg := mg) S 18 (x := "near") (st := topS 25) rfl
  have D_near := d_near (P := P) (w := w) (base := base) hx D_are_tied (He.glo_ok X G (S.fact 46 (f := .glo "near") rfl)) F_near
  obtain ⟨_, F_common⟩ := defD_ok (mg := mg) S 19 (x := "common") (st := topS 9) rfl
  have D_common := d_common (P := P) (w := w) (base := base) hx  (He.glo_ok X G (S.fact 47 (f := .glo "common") rfl)) F_common
  obtain ⟨_, F_made⟩ := defD_ok (mg := mg) S 20 (x := "made") (st := topS 10) rfl
  have D_made := d_made (P := P) (w := w) (base := base) hx D_common (He.glo_ok X G (S.fact 48 (f := .glo "made") rfl)) F_made
  obtain ⟨_, F_times⟩ := defD_ok (mg := mg) S 21 (x := "times") (st := topS 13) rfl
  have D_times := d_times (P := P) (w := w) (base := base) hx D_made (He.glo_ok X G (S.fact 49 (f := .glo "times") rfl)) F_times
  obtain ⟨_, F_plus⟩ := defD_ok (mg := mg) S 22 (x := "plus") (st := topS 12) rfl
  have D_plus := d_plus (P := P) (w := w) (base := base) hx D_made (He.glo_ok X G (S.fact 50 (f := .glo "plus") rfl)) F_plus
  obtain ⟨_, F_total⟩ := defD_ok (mg := mg) S 23 (x := "total") (st := topS 14) rfl
  have D_total := d_total (P := P) (w := w) (base := base) hx D_plus (He.glo_ok X G (S.fact 51 (f := .glo "total") rfl)) F_total
  obtain ⟨_, F_stepped_by⟩ := defD_ok (mg := mg) S 24 (x := "stepped_by") (st := topS 29) rfl
  have D_stepped_by := d_stepped_by (P := P) (w := w) (base := base) hx D_near D_times D_total (He.glo_ok X G (S.fact 52 (f := .glo "stepped_by") rfl)) F_stepped_by
  obtain ⟨_, F_after⟩ := defD_ok (mg := mg) S 25 (x := "after") (st := topS 31) rfl
  have D_after := d_after (P := P) (w := w) (base := base) hx D_check_place D_check_steps D_check_web D_only_at D_stepped_by (He.glo_ok X G (S.fact 53 (f := .glo "after") rfl)) F_after
  obtain ⟨_, F_is_fraction⟩ := defD_ok (mg := mg) S 26 (x := "is_fraction") (st := topS 11) rfl
  have D_is_fraction := d_is_fraction (P := P) (w := w) (base := base) hx D_common D_is_whole (He.glo_ok X G (S.fact 54 (f := .glo "is_fraction") rfl)) F_is_fraction
  obtain ⟨_, F_are_shares⟩ := defD_ok (mg := mg) S 27 (x := "are_shares") (st := topS 33) rfl
  have D_are_shares := d_are_shares (P := P) (w := w) (base := base) hx D_is_fraction D_total (He.glo_ok X G (S.fact 55 (f := .glo "are_shares") rfl)) F_are_shares
  obtain ⟨_, F_still_of⟩ := defD_ok (mg := mg) S 28 (x := "still_of") (st := topS 35) rfl
  have D_still_of := d_still_of (P := P) (w := w) (base := base) hx D_made D_near (He.glo_ok X G (S.fact 56 (f := .glo "still_of") rfl)) F_still_of
  obtain ⟨_, F_is_still⟩ := defD_ok (mg := mg) S 29 (x := "is_still") (st := topS 37) rfl
  have D_is_still := d_is_still (P := P) (w := w) (base := base) hx D_are_shares D_check_web D_still_of (He.glo_ok X G (S.fact 57 (f := .glo "is_still") rfl)) F_is_still
  obtain ⟨_, F_stepped⟩ := defD_ok (mg := mg) S 30 (x := "stepped") (st := topS 34) rfl
  have D_stepped := d_stepped (P := P) (w := w) (base := base) hx D_are_shares D_check_web D_stepped_by (He.glo_ok X G (S.fact 58 (f := .glo "stepped") rfl)) F_stepped
  obtain ⟨_, F_still⟩ := defD_ok (mg := mg) S 31 (x := "still") (st := topS 36) rfl
  have D_still := d_still (P := P) (w := w) (base := base) hx D_check_web D_still_of (He.glo_ok X G (S.fact 59 (f := .glo "still") rfl)) F_still
  obtain ⟨_, F_check_places⟩ := defD_ok (mg := mg) S 32 (x := "check_places") (st := topS 23) rfl
  have D_check_places := d_check_places (P := P) (w := w) (base := base) hx D_check_place D_check_web (He.glo_ok X G (S.fact 60 (f := .glo "check_places") rfl)) F_check_places
  obtain ⟨_, F_ways⟩ := defD_ok (mg := mg) S 33 (x := "ways") (st := topS 32) rfl
  have D_ways := d_ways (P := P) (w := w) (base := base) hx D_check_places D_check_steps D_near (He.glo_ok X G (S.fact 61 (f := .glo "ways") rfl)) F_ways
  exact b_law hx D__law_cell_at D__law_pot D__law_take D__law_times D__law_total D__law_web D_after D_is_still D_stepped D_still D_ways cdv _ s H (Room.deeper (k := 7) ⟨rfl, by decide, by decide⟩ _)
theorem holds_of (hR : ∀ ns : List Int, ns.length ≤ 63 → S_law [scrD ns] = .ok (.bool true, none)) : PySem.Challenge.rw_treewalkers_k13_whole_walks.Holds := by
  w_on; o_law
  refine HandSHeadRun.head_any (r := PySem.W.OpenLaw.row PySem.Challenge.rw_treewalkers_k13_whole_walks) (q := PySem.W.view (PySem.W.OpenLaw.row PySem.Challenge.rw_treewalkers_k13_whole_walks).prog [47]) (H := hk) (ob := hob) (M := 30000) (loose := loose) (d := HandSHeadRun.topDef (PySem.W.OpenLaw.row PySem.Challenge.rw_treewalkers_k13_whole_walks).prog 47) (kwd := []) hob_eq
    (by kernel_rfl) (fun s => by kernel_rfl) run (by kernel_rfl) (by kernel_rfl) (by kernel_rfl) (by rfl) (by first | assumption | decide +kernel) (by decide +kernel) ⟨rfl, rfl, rfl, rfl, rfl, by decide +kernel⟩ ?hw ?hc
  case hw => w_witness2
  case hc =>
    refine walk_pw (l := PySem.Challenge.rw_treewalkers_k13_whole_walks) (n := 63) rfl (by decide) (by kernel_rfl) ?F
    intro w mg fa h Y G hmg0
    obtain ⟨K, KX, c, e⟩ := Y
    have lg : mg ("law" : PySem.Str) = some (.ref fa) := by
      have q : (HandSHeadRun.topDef (PySem.W.OpenLaw.row PySem.Challenge.rw_treewalkers_k13_whole_walks).prog 47).name = ("law" : PySem.Str) := by kernel_rfl
      rw [← q]
      exact hmg0
    cases lg.symm.trans (He.glo_ok KX G (c.fact 62 (f := .glo "law") rfl))
    obtain ⟨fd, Fl⟩ := c.def_ 34 (d := defD "law" (topS 47)) rfl
    exact ⟨K, fd, "law", "law", topS 47, _, clK K, g_law, KX, fun_of Fl, sc_law, fun s u => FunD.bindsA (ps := ["_law_script"]) Fl (fun _ _ _ _ _ _ us hl => match us, hl with | [_], _ => rfl) s [u] rfl, fun base s H cdv _ _ => body_of KX G c e cdv s H, hR⟩
end K13

set_option maxRecDepth 100000
set_option maxHeartbeats 3900000
/-! ## k13: the law -/
namespace K13
open PySem L2 Pw Gr Kc
theorem tk_any {n f : Int} (h0 : 0 < f) (h1 : f ≤ 1000000) : S__law_take [potD n, .int f] = .ok (.int (n % f), some (potD (n / f))) := by
  have lz : f.natAbs.log2 < 9000 := by
    have := log_small (n := f) (k := 21) (by omega) (by
      have e : ((2 : Int) ^ 21) = 2097152 := by decide
      rw [e]; omega) (by decide)
    omega
  exact take_eq n f h0 lz
theorem ne_bool (b : Bool) : oNe (.bool b) (.bool b) = some (.bool false) := by
  cases b <;> rfl
abbrev Tt (m : Nat) (ps : Ts) (k : Nat) (a : Int) : Int → Int := itr (fwd m ps (wgt m ps)) k (ind a)
abbrev Wy (m : Nat) (ps : Ts) (k : Nat) (a : Int) : Int → Int := itr (fwd m ps c1) k (ind a)
theorem tt_gd {m : Nat} {ps : Ts} (w : WebOk m ps) {a : Int} (a0 : 0 ≤ a) (a1 : a < m) {k : Nat} (hk : k ≤ 30) : Gd m (Tt m ps k a) (420 ^ k) :=
  { toMs := ms_itr (m := m) (ps := ps) (fun t B hB ht p => fwd_bd (ps := ps) w.hi hB (wgt_bd m ps) ht p) a hk, sum := itr_sum w a0 a1 k }
theorem wy_bd {m : Nat} {ps : Ts} (w : WebOk m ps) (a : Int) {k : Nat} (hk : k ≤ 30) (x : Int) : (Wy m ps k a x).natAbs < 2 ^ 401 := by
  have h := (ms_itr (m := m) (ps := ps) (f := fwd m ps c1) (fun t B hB ht p => fwd_bd (ps := ps) w.hi hB c1_bd ht p) a hk).top x
  have e : (2 : Nat) ^ 400 < 2 ^ 401 := Nat.pow_lt_pow_right (by decide) (by decide)
  have key : ∀ (z : Int) (x4 x1 : Nat), (0 ≤ z ∧ z ≤ (x4 : Int)) → x4 < x1 → z.natAbs < x1 := fun z x4 x1 q1 q2 => by omega
  exact key _ _ _ h e
abbrev gC : Dv → Rs (Fl × Dv) := (gSeq (gIf (fOrT (fT (f2 oNe (fCall S__law_total (aCons (fVar 9) aNil)) (fTup (aCons (fC (.int 1)) (aCons (fC (.int 1)) aNil))))) (fT (f2 oNe (fCall S_stepped (aCons (fVar 3) (aCons (fVar 9) aNil))) (fCall S_after (aCons (fVar 3) (aCons (fVar 6) (aCons (f2 oAdd (fVar 4) (fC (.int 1))) aNil))))))) (gRet (fC (.bool false))) gNx) (gSeq (gIf (fOrT (fT (f2 oNe (fCall S_stepped (aCons (fVar 3) (aCons (fVar 11) aNil))) (fVar 11))) (fT (f2 oNotN (fCall S_is_still (aCons (fVar 3) (aCons (fVar 11) aNil))) (fC (.bool true))))) (gRet (fC (.bool false))) gNx) (gSeq (gIf (fT (f2 oNe (fCall S_is_still (aCons (fVar 3) (aCons (fVar 9) aNil))) (f2 oEq (fVar 9) (fVar 11)))) (gRet (fC (.bool false))) gNx) (gSeq (gIf (fT (f2 oNe (fCall S__law_times (aCons (fIxv 11 (fVar 6)) (aCons (fIxv 9 (fVar 7)) aNil))) (fCall S__law_times (aCons (fIxv 11 (fVar 7)) (aCons (fIxv 10 (fVar 6)) aNil))))) (gRet (fC (.bool false))) gNx) (gSeq (gIf (fT (f2 oNe (fCall S_ways (aCons (fVar 3) (aCons (fVar 6) (aCons (fVar 7) (aCons (fVar 4) aNil))))) (fCall S_ways (aCons (fVar 3) (aCons (fVar 7) (aCons (fVar 6) (aCons (fVar 4) aNil))))))) (gRet (fC (.bool false))) gNx) (gSeq (gIf (fAndT (fT (f2 oEq (fVar 1) (fC (.int 0)))) (fT (f2 oNe (fCall S_stepped (aCons (fVar 3) (aCons (fCall S_after (aCons (fVar 3) (aCons (fVar 6) (aCons (fC (.int 29)) aNil)))) aNil))) (fCall S_after (aCons (fVar 3) (aCons (fVar 6) (aCons (fC (.int 30)) aNil))))))) (gRet (fC (.bool false))) gNx) (gSeq (gSet 8 (fLc [12] (wRng1 (fIxv 3 (fC (.int 0)))) (bName 12) tYesD (f2 oMul (fCall S_ways (aCons (fVar 3) (aCons (fVar 6) (aCons (fVar 12) (aCons (fVar 4) aNil))))) (fCall S_ways (aCons (fVar 3) (aCons (fVar 12) (aCons (fVar 7) (aCons (fVar 5) aNil)))))))) (gIf (fT (f2 oNe (f1 oSum (fBar 8)) (fCall S_ways (aCons (fVar 3) (aCons (fVar 6) (aCons (fVar 7) (aCons (f2 oAdd (fVar 4) (fVar 5)) aNil))))))) (gRet (fC (.bool false))) gNx))))))))
abbrev gOut : Dv → Rs (Fl × Dv) := (gSeq (gSetO 2 (fCall S__law_pot (aCons (fCall S__law_cell_at (aCons (fVar 0) (aCons (fVar 1) aNil))) aNil))) (gSeq (gSet 3 (fCallM S__law_web 2 (aCons (fC (.int 8)) (aCons (fC (.int 1)) aNil)))) (gSeq (gSet 4 (fCallM S__law_take 2 (aCons (fC (.int 12)) aNil))) (gSeq (gSet 5 (fCallM S__law_take 2 (aCons (fC (.int 12)) aNil))) (gSeq (gSet 6 (fCallM S__law_take 2 (aCons (fIxv 3 (fC (.int 0))) aNil))) (gSeq (gSet 7 (fCallM S__law_take 2 (aCons (fIxv 3 (fC (.int 0))) aNil))) (gSeq (gPar [9, 10, 11] (aCons (fCall S_after (aCons (fVar 3) (aCons (fVar 6) (aCons (fVar 4) aNil)))) (aCons (fCall S_after (aCons (fVar 3) (aCons (fVar 7) (aCons (fVar 4) aNil)))) (aCons (fCall S_still (aCons (fVar 3) aNil)) aNil)))) gC)))))))
def Rw3 (ns : List Int) (δ : Dv) : Prop := ∃ x2 x1 x3 x4 x5 x6 x7 x8 x9 x10 x11, δ = [some (.v (scrD ns)), x1, x2, x3, x4, x5, x6, x7, x8, x9, x10, x11, none] ∧ freeB (some x2) = true ∧ isV x1 = true ∧ isV x3 = true ∧ isV x4 = true ∧ isV x5 = true ∧ isV x6 = true ∧ isV x7 = true ∧ isV x8 = true ∧ isV x9 = true ∧ isV x10 = true ∧ isV x11 = true
theorem both_lc {ns : List Int} {k s fu : Nat} {n a b : Int} {m : Nat} {ps : Ts} {x8 : Option SV} (w : WebOk m ps) (hz : ps.length < 64) (a0 : 0 ≤ a) (a1 : a < m) (b0 : 0 ≤ b) (b1 : b < m) (hs : s ≤ 30) (hf : fu ≤ 30) (v8 : isV x8 = true) :
    (fLc [12] (wRng1 (fIxv 3 (fC (.int 0)))) (bName 12) tYesD (f2 oMul (fCall S_ways (aCons (fVar 3) (aCons (fVar 6) (aCons (fVar 12) (aCons (fVar 4) aNil))))) (fCall S_ways (aCons (fVar 3) (aCons (fVar 12) (aCons (fVar 7) (aCons (fVar 5) aNil))))))) [some (.v (scrD ns)), some (.v (.int k)), some (.m (potD n)), some (.v (webD m ps)), some (.v (.int s)), some (.v (.int fu)), some (.v (.int a)), some (.v (.int b)), x8, some (.v (.tuple (shr m (Tt m ps s a) (420 ^ s)))), some (.v (.tuple (shr m (Tt m ps s b) (420 ^ s)))), some (.v (.tuple (shr m (dgI m ps) (2 * ps.length)))), none] = .ok (.list (((Gr.upTo m).map fun p => Wy m ps s a p * Wy m ps fu p b).map .int), [some (.v (scrD ns)), some (.v (.int k)), some (.m (potD n)), some (.v (webD m ps)), some (.v (.int s)), some (.v (.int fu)), some (.v (.int a)), some (.v (.int b)), x8, some (.v (.tuple (shr m (Tt m ps s a) (420 ^ s)))), some (.v (.tuple (shr m (Tt m ps s b) (420 ^ s)))), some (.v (.tuple (shr m (dgI m ps) (2 * ps.length)))), none]) := by
  have hm := w.hi
  have im : i62 (m : Int) = true := i62_small (by omega) (by omega)
  have w0 := atW0 m ps
  have ru := rngD_up m
  have a8 := isV_anch v8
  generalize (shr m (Tt m ps s a) (420 ^ s)) = he
  generalize (shr m (Tt m ps s b) (420 ^ s)) = th
  generalize (shr m (dgI m ps) (2 * ps.length)) = sh
  have z := lc_ok (own := [12]) (w := wRng1 (fIxv 3 (fC (.int 0)))) (b := bName 12) (t := tYesD) (f := f2 oMul (fCall S_ways (aCons (fVar 3) (aCons (fVar 6) (aCons (fVar 12) (aCons (fVar 4) aNil))))) (fCall S_ways (aCons (fVar 3) (aCons (fVar 12) (aCons (fVar 7) (aCons (fVar 5) aNil))))))
    (δ := [some (.v (scrD ns)), some (.v (.int k)), some (.m (potD n)), some (.v (webD m ps)), some (.v (.int s)), some (.v (.int fu)), some (.v (.int a)), some (.v (.int b)), x8, some (.v (.tuple he)), some (.v (.tuple th)), some (.v (.tuple sh)), none]) (ds := (Gr.upTo m).map .int) (e := fun d => .int (Wy m ps s a (intI d) * Wy m ps fu (intI d) b)) (by
      unfold webD
      generalize ps.map pairD = ts at *
      generalize scrD ns = sd
      simp [w0, im, ru]) (by rw [List.length_map, upTo_len, PySem.sizeLine_eq]; omega) rfl (fun d hd => by
      obtain ⟨p, hp, rfl⟩ := List.mem_map.mp hd
      have pb := Gr.mem_upTo.mp hp
      have y1 : S_ways [webD m ps, .int a, .int p, .int s] = .ok (.int (Wy m ps s a p), none) := ways_eq2 w hz a0 a1 pb.1 pb.2 hs
      have y2 : S_ways [webD m ps, .int p, .int b, .int fu] = .ok (.int (Wy m ps fu p b), none) := ways_eq2 w hz pb.1 pb.2 b0 b1 hf
      have mu := big_mul (wy_bd w a hs p) (wy_bd w p hf b) (by decide) (by decide) (by decide)
      refine ⟨[some (.v (scrD ns)), some (.v (.int k)), some (.a (potD n)), some (.v (webD m ps)), some (.v (.int s)), some (.v (.int fu)), some (.v (.int a)), some (.v (.int b)), x8, some (.v (.tuple he)), some (.v (.tuple th)), some (.v (.tuple sh)), some (.v (.int p))], ?_, ?_, ?_⟩
      · generalize webD m ps = wb
        generalize scrD ns = sd
        simp [anchD, wipeD, anch1, a8]
      · show _ = Rs.ok (PyData.int (Wy m ps s a p * Wy m ps fu p b), _)
        generalize Wy m ps s a p = q1 at *
        generalize Wy m ps fu p b = q2 at *
        generalize webD m ps = wb at *
        generalize scrD ns = sd
        simp [-oMul_int, y1, y2, mu]
      · generalize webD m ps = wb
        generalize scrD ns = sd
        simp [anchD, wipeD, anch1, a8])
  rw [z, List.map_map, List.map_map]
  rfl
theorem checks {ns : List Int} {k s fu : Nat} {n a b : Int} {m : Nat} {ps : Ts} {x8 : Option SV} (w : WebOk m ps) (hz : ps.length < 64) (hp : 0 < ps.length) (a0 : 0 ≤ a) (a1 : a < m) (b0 : 0 ≤ b) (b1 : b < m) (hs : s ≤ 11) (hf : fu ≤ 11) (v8 : isV x8 = true) :
    ∃ y8, isV y8 = true ∧ gC [some (.v (scrD ns)), some (.v (.int k)), some (.m (potD n)), some (.v (webD m ps)), some (.v (.int s)), some (.v (.int fu)), some (.v (.int a)), some (.v (.int b)), x8, some (.v (.tuple (shr m (Tt m ps s a) (420 ^ s)))), some (.v (.tuple (shr m (Tt m ps s b) (420 ^ s)))), some (.v (.tuple (shr m (dgI m ps) (2 * ps.length)))), none] = .ok (.nx, [some (.v (scrD ns)), some (.v (.int k)), some (.m (potD n)), some (.v (webD m ps)), some (.v (.int s)), some (.v (.int fu)), some (.v (.int a)), some (.v (.int b)), y8, some (.v (.tuple (shr m (Tt m ps s a) (420 ^ s)))), some (.v (.tuple (shr m (Tt m ps s b) (420 ^ s)))), some (.v (.tuple (shr m (dgI m ps) (2 * ps.length)))), none]) := by
  have hm := w.hi
  have ga := tt_gd w a0 a1 (k := s) (by omega)
  have gs := still_gd w hz hp
  have f8 := isV_free v8
  have one1 : oNe (.tuple [.int 1, .int 1]) (.tuple [.int 1, .int 1]) = some (.bool false) := by kernel_rfl
  have tot := (ga.total hm).2
  have st1 := stepped_eq w hz ga
  have e1 : fwd m ps (wgt m ps) (Tt m ps s a) = Tt m ps (s + 1) a := (itr_last (fwd m ps (wgt m ps)) s (ind a)).symm
  rw [e1, ← Nat.pow_succ] at st1
  have af1 : S_after [webD m ps, .int a, .int ((s : Int) + 1)] = .ok (.tuple (shr m (Tt m ps (s + 1) a) (420 ^ (s + 1))), none) := after_eq w hz a0 a1 (n := s + 1) (by omega)
  have same : ∀ (t : Int → Int) (N : Nat), oNe (.tuple (shr m t N)) (.tuple (shr m t N)) = some (.bool false) := fun t N => by
    rw [shr_P, ne_tp]
    simp
  have st2 := stepped_eq w hz gs
  have e2 : shr m (fwd m ps (wgt m ps) (dgI m ps)) (2 * ps.length * 420) = shr m (dgI m ps) (2 * ps.length) := by
    unfold shr
    (refine List.map_congr_left fun p _ => ?_)
    rw [fwd_still w]
    have := rd_mul (dgI m ps p) (2 * ps.length) (k := 420) (by decide)
    rw [show (((420 : Nat) : Int)) = 420 from rfl] at this
    rw [this]
  rw [e2] at st2
  have is1 := is_still_eq w hz hp gs
  rw [decide_eq_true rfl] at is1
  have is2 := is_still_eq w hz hp ga
  have eq2 := eq_tp (shP m (Tt m ps s a) (420 ^ s)) (shP m (dgI m ps) (2 * ps.length))
  rw [← shr_P, ← shr_P] at eq2
  have sa := shr_at (m := m) (dgI m ps) (2 * ps.length) a0 a1
  have sb := shr_at (m := m) (dgI m ps) (2 * ps.length) b0 b1
  have hb := shr_at (m := m) (Tt m ps s a) (420 ^ s) b0 b1
  have ta := shr_at (m := m) (Tt m ps s b) (420 ^ s) a0 a1
  have gb := tt_gd w b0 b1 (k := s) (by omega)
  have tm1 := ltimes_gen (gs.md a) (ga.md b)
  have tm2 := ltimes_gen (gs.md b) (gb.md a)
  have er : dgI m ps a * Tt m ps s a b = dgI m ps b * Tt m ps s b a := by
    have h1 := steps_eq w (wgt m ps) s a0 a1 b0 b1
    have h2 := rev_eq w b s a a0 a1
    show dgI m ps a * itr (fwd m ps (wgt m ps)) s (ind a) b = _
    rw [h1]
    exact h2
  rw [er] at tm1
  have nep : ∀ q : Int × Int, oNe (pairD q) (pairD q) = some (.bool false) := fun q => by rw [ne_pair]; simp
  have wy1 : S_ways [webD m ps, .int a, .int b, .int s] = .ok (.int (Wy m ps s a b), none) := ways_eq2 w hz a0 a1 b0 b1 (n := s) (by omega)
  have wy2 := ways_eq2 w hz b0 b1 a0 a1 (n := s) (by omega)
  have ew : Wy m ps s b a = Wy m ps s a b := by
    have := steps_eq w c1 s b0 b1 a0 a1
    rw [bwd1] at this
    exact this
  have wy2 : S_ways [webD m ps, .int b, .int a, .int s] = .ok (.int (Wy m ps s a b), none) := by rw [← ew]; exact wy2
  have af29 : S_after [webD m ps, .int a, .int 29] = .ok (.tuple (shr m (Tt m ps 29 a) (420 ^ 29)), none) := after_eq w hz a0 a1 (n := 29) (by decide)
  have af30 : S_after [webD m ps, .int a, .int 30] = .ok (.tuple (shr m (Tt m ps 30 a) (420 ^ 30)), none) := after_eq w hz a0 a1 (n := 30) (by decide)
  have st3 := stepped_eq w hz (tt_gd w a0 a1 (k := 29) (by decide))
  have e3 : fwd m ps (wgt m ps) (Tt m ps 29 a) = Tt m ps 30 a := (itr_last (fwd m ps (wgt m ps)) 29 (ind a)).symm
  have e4 : 420 ^ 29 * 420 = 420 ^ 30 := (Nat.pow_succ 420 29).symm
  rw [e3, e4] at st3
  have bl := both_lc (ns := ns) (k := k) (n := n) (x8 := x8) w hz a0 a1 b0 b1 (s := s) (fu := fu) (by omega) (by omega) v8
  have sm := sum_ints ((Gr.upTo m).map fun p => Wy m ps s a p * Wy m ps fu p b)
  rw [ways_add w b0 b1] at sm
  have wy3 : S_ways [webD m ps, .int a, .int b, .int ((s : Int) + (fu : Int))] = .ok (.int (itr (fwd m ps c1) (s + fu) (ind a) b), none) := ways_eq2 w hz a0 a1 b0 b1 (n := s + fu) (by omega)
  refine ⟨some (.v (.list (((Gr.upTo m).map fun p => Wy m ps s a p * Wy m ps fu p b).map .int))), rfl, ?_⟩
  have n1 := same (Tt m ps (s + 1) a) (420 ^ (s + 1))
  have n2 := same (dgI m ps) (2 * ps.length)
  have n3 := same (Tt m ps 30 a) (420 ^ 30)
  have n4 := nep (rd (dgI m ps b * Tt m ps s b a) (2 * ps.length * 420 ^ s))
  clear er ew e1 e2 e3 e4 same nep ga gs gb
  generalize hd : decide (shP m (Tt m ps s a) (420 ^ s) = shP m (dgI m ps) (2 * ps.length)) = dd at *
  clear hd
  have nb := ne_bool dd
  generalize ((Gr.upTo m).map fun p => Wy m ps s a p * Wy m ps fu p b).map PyData.int = bo at *
  generalize itr (fwd m ps c1) (s + fu) (ind a) b = w3 at *
  generalize pairD (rd (dgI m ps b * Tt m ps s b a) (2 * ps.length * 420 ^ s)) = d4 at *
  generalize pairD (rd (dgI m ps a) (2 * ps.length)) = d5 at *
  generalize pairD (rd (dgI m ps b) (2 * ps.length)) = d6 at *
  generalize pairD (rd (Tt m ps s a b) (420 ^ s)) = d7 at *
  generalize pairD (rd (Tt m ps s b a) (420 ^ s)) = d8 at *
  generalize shr m (Tt m ps (s + 1) a) (420 ^ (s + 1)) = h1 at *
  generalize shr m (Tt m ps 30 a) (420 ^ 30) = h30 at *
  generalize shr m (Tt m ps 29 a) (420 ^ 29) = h29 at *
  generalize (shr m (Tt m ps s a) (420 ^ s)) = he at *
  generalize (shr m (Tt m ps s b) (420 ^ s)) = th at *
  generalize (shr m (dgI m ps) (2 * ps.length)) = sh at *
  generalize Wy m ps s a b = w1 at *
  generalize webD m ps = wb at *
  generalize scrD ns = sd at *
  have tr : oNotN (.bool true) (.bool true) = some (.bool false) := rfl
  unfold gC
  refine sq (δ1 := [some (.v sd), some (.v (.int k)), some (.m (potD n)), some (.v wb), some (.v (.int s)), some (.v (.int fu)), some (.v (.int a)), some (.v (.int b)), x8, some (.v (.tuple he)), some (.v (.tuple th)), some (.v (.tuple sh)), none]) (by simp [tot, one1, st1, af1, n1, PySem.sizeLine_eq]) ?_
  refine sq (δ1 := [some (.v sd), some (.v (.int k)), some (.m (potD n)), some (.v wb), some (.v (.int s)), some (.v (.int fu)), some (.v (.int a)), some (.v (.int b)), x8, some (.v (.tuple he)), some (.v (.tuple th)), some (.v (.tuple sh)), none]) (by simp [st2, n2, is1, tr]) ?_
  refine sq (δ1 := [some (.v sd), some (.v (.int k)), some (.m (potD n)), some (.v wb), some (.v (.int s)), some (.v (.int fu)), some (.v (.int a)), some (.v (.int b)), x8, some (.v (.tuple he)), some (.v (.tuple th)), some (.v (.tuple sh)), none]) (by simp [is2, eq2, nb]) ?_
  refine sq (δ1 := [some (.v sd), some (.v (.int k)), some (.m (potD n)), some (.v wb), some (.v (.int s)), some (.v (.int fu)), some (.v (.int a)), some (.v (.int b)), x8, some (.v (.tuple he)), some (.v (.tuple th)), some (.v (.tuple sh)), none]) (by simp [sa, sb, hb, ta, tm1, tm2, n4]) ?_
  refine sq (δ1 := [some (.v sd), some (.v (.int k)), some (.m (potD n)), some (.v wb), some (.v (.int s)), some (.v (.int fu)), some (.v (.int a)), some (.v (.int b)), x8, some (.v (.tuple he)), some (.v (.tuple th)), some (.v (.tuple sh)), none]) (by simp [wy1, wy2, oNe_int]) ?_
  refine sq (δ1 := [some (.v sd), some (.v (.int k)), some (.m (potD n)), some (.v wb), some (.v (.int s)), some (.v (.int fu)), some (.v (.int a)), some (.v (.int b)), x8, some (.v (.tuple he)), some (.v (.tuple th)), some (.v (.tuple sh)), none]) (by
    by_cases hk : k = 0
    · simp [oEq_int, hk, af29, af30, st3, n3]
    · simp [oEq_int, hk]) ?_
  refine sq (δ1 := [some (.v sd), some (.v (.int k)), some (.m (potD n)), some (.v wb), some (.v (.int s)), some (.v (.int fu)), some (.v (.int a)), some (.v (.int b)), some (.v (.list bo)), some (.v (.tuple he)), some (.v (.tuple th)), some (.v (.tuple sh)), none]) (by rw [ev_set, bl]; simp [f8]) ?_
  simp [sm, wy3, oNe_int]
theorem out_step {ns : List Int} {k : Nat} {δ : Dv} (h : Rw3 ns δ) : ∃ δ1 δ2, bName 1 (.int k) δ = some δ1 ∧ gOut δ1 = .ok (.nx, δ2) ∧ Rw3 ns δ2 := by
  obtain ⟨x2, x1, x3, x4, x5, x6, x7, x8, x9, x10, x11, rfl, g2, v1, v3, v4, v5, v6, v7, v8, v9, v10, v11⟩ := h
  have g1 := isV_free v1
  have g3 := isV_free v3
  have g4 := isV_free v4
  have g5 := isV_free v5
  have g6 := isV_free v6
  have g7 := isV_free v7
  have g8 := isV_free v8
  have g9 := isV_free v9
  have g10 := isV_free v10
  have g11 := isV_free v11
  have ce := cell_at_eq ns k
  obtain ⟨n0, hn0, hp⟩ := pot_eq (ns.getD k 0)
  generalize ns.getD k 0 = cc at *
  obtain ⟨m, ps, n1, w1, _, ne1, z1, hn1, e1⟩ := web_eq (most := 8) (thick := 1) hn0 (by decide) (by decide) (by decide)
  have hm := w1.hi
  have hm2 := w1.lo
  have lp : 0 < ps.length := List.length_pos_iff.mpr ne1
  have t1 := tk_any (n := n1) (f := 12) (by omega) (by omega)
  have s0 : 0 ≤ n1 % (12) := Int.emod_nonneg _ (by omega)
  have s1 : n1 % (12) < 12 := Int.emod_lt_of_pos _ (by omega)
  have hn2 : 0 ≤ n1 / (12) := Int.ediv_nonneg hn1 (by omega)
  generalize n1 % (12) = s at *
  generalize n1 / (12) = n2 at *
  have t2 := tk_any (n := n2) (f := 12) (by omega) (by omega)
  have fu0 : 0 ≤ n2 % (12) := Int.emod_nonneg _ (by omega)
  have fu1 : n2 % (12) < 12 := Int.emod_lt_of_pos _ (by omega)
  have hn3 : 0 ≤ n2 / (12) := Int.ediv_nonneg hn2 (by omega)
  generalize n2 % (12) = fu at *
  generalize n2 / (12) = n3 at *
  obtain ⟨s, rfl⟩ : ∃ st : Nat, s = st := ⟨s.toNat, by omega⟩
  obtain ⟨fu, rfl⟩ : ∃ st : Nat, fu = st := ⟨fu.toNat, by omega⟩
  have t3 := tk_any (n := n3) (f := (m : Int)) (by omega) (by omega)
  have a0 : 0 ≤ n3 % ((m : Int)) := Int.emod_nonneg _ (by omega)
  have a1 : n3 % ((m : Int)) < (m : Int) := Int.emod_lt_of_pos _ (by omega)
  have hn4 : 0 ≤ n3 / ((m : Int)) := Int.ediv_nonneg hn3 (by omega)
  generalize n3 % ((m : Int)) = a at *
  generalize n3 / ((m : Int)) = n4 at *
  have t4 := tk_any (n := n4) (f := (m : Int)) (by omega) (by omega)
  have b0 : 0 ≤ n4 % ((m : Int)) := Int.emod_nonneg _ (by omega)
  have b1 : n4 % ((m : Int)) < (m : Int) := Int.emod_lt_of_pos _ (by omega)
  have hn5 : 0 ≤ n4 / ((m : Int)) := Int.ediv_nonneg hn4 (by omega)
  generalize n4 % ((m : Int)) = b at *
  generalize n4 / ((m : Int)) = n5 at *
  obtain ⟨y8, vy, ck⟩ := checks (ns := ns) (k := k) (n := n5) (x8 := x8) w1 (by omega) lp a0 a1 b0 b1 (s := s) (fu := fu) (by omega) (by omega) v8
  have fa := after_eq w1 (by omega) a0 a1 (n := s) (by omega)
  have fb := after_eq w1 (by omega) b0 b1 (n := s) (by omega)
  have fs := still_eq w1 (by omega) lp
  refine ⟨[some (.v (scrD ns)), some (.v (.int k)), x2, x3, x4, x5, x6, x7, x8, x9, x10, x11, none], [some (.v (scrD ns)), some (.v (.int k)), some (.m (potD n5)), some (.v (webD m ps)), some (.v (.int s)), some (.v (.int fu)), some (.v (.int a)), some (.v (.int b)), y8, some (.v (.tuple (shr m (Tt m ps s a) (420 ^ s)))), some (.v (.tuple (shr m (Tt m ps s b) (420 ^ s)))), some (.v (.tuple (shr m (dgI m ps) (2 * ps.length)))), none], ?_, ?_, ⟨_, _, _, _, _, _, _, _, _, _, _, rfl, by rfl, by rfl, by rfl, by rfl, by rfl, by rfl, by rfl, vy, by rfl, by rfl, by rfl⟩⟩
  · generalize scrD ns = sd
    simp [g1]
  · have w0 := atW0 m ps
    unfold gOut
    refine sq (δ1 := [some (.v (scrD ns)), some (.v (.int k)), some (.m (potD n0)), x3, x4, x5, x6, x7, x8, x9, x10, x11, none]) (by
      generalize scrD ns = sd at ce ⊢
      simp [ce, hp, g2]) ?_
    refine sq (δ1 := [some (.v (scrD ns)), some (.v (.int k)), some (.m (potD n1)), some (.v (webD m ps)), x4, x5, x6, x7, x8, x9, x10, x11, none]) (by
      have e1 : S__law_web [potD n0, .int 8, .int 1] = _ := e1
      generalize webD m ps = wb at e1 ⊢
      generalize scrD ns = sd
      simp [e1, g3]) ?_
    refine sq (δ1 := [some (.v (scrD ns)), some (.v (.int k)), some (.m (potD n2)), some (.v (webD m ps)), some (.v (.int s)), x5, x6, x7, x8, x9, x10, x11, none]) (by
      generalize webD m ps = wb
      generalize scrD ns = sd
      simp [t1, g4]) ?_
    refine sq (δ1 := [some (.v (scrD ns)), some (.v (.int k)), some (.m (potD n3)), some (.v (webD m ps)), some (.v (.int s)), some (.v (.int fu)), x6, x7, x8, x9, x10, x11, none]) (by
      generalize webD m ps = wb
      generalize scrD ns = sd
      simp [t2, g5]) ?_
    refine sq (δ1 := [some (.v (scrD ns)), some (.v (.int k)), some (.m (potD n4)), some (.v (webD m ps)), some (.v (.int s)), some (.v (.int fu)), some (.v (.int a)), x7, x8, x9, x10, x11, none]) (by
      unfold webD
      generalize ps.map pairD = ts at w0 ⊢
      generalize scrD ns = sd
      simp [w0, t3, g6]) ?_
    refine sq (δ1 := [some (.v (scrD ns)), some (.v (.int k)), some (.m (potD n5)), some (.v (webD m ps)), some (.v (.int s)), some (.v (.int fu)), some (.v (.int a)), some (.v (.int b)), x8, x9, x10, x11, none]) (by
      unfold webD
      generalize ps.map pairD = ts at w0 ⊢
      generalize scrD ns = sd
      simp [w0, t4, g7]) ?_
    refine sq (δ1 := [some (.v (scrD ns)), some (.v (.int k)), some (.m (potD n5)), some (.v (webD m ps)), some (.v (.int s)), some (.v (.int fu)), some (.v (.int a)), some (.v (.int b)), x8, some (.v (.tuple (shr m (Tt m ps s a) (420 ^ s)))), some (.v (.tuple (shr m (Tt m ps s b) (420 ^ s)))), some (.v (.tuple (shr m (dgI m ps) (2 * ps.length)))), none]) (by
      have fa : S_after [webD m ps, .int a, .int s] = .ok (.tuple (shr m (Tt m ps s a) (420 ^ s)), none) := fa
      have fb : S_after [webD m ps, .int b, .int s] = .ok (.tuple (shr m (Tt m ps s b) (420 ^ s)), none) := fb
      generalize (shr m (Tt m ps s a) (420 ^ s)) = he at fa ⊢
      generalize (shr m (Tt m ps s b) (420 ^ s)) = th at fb ⊢
      generalize (shr m (dgI m ps) (2 * ps.length)) = sh at fs ⊢
      generalize webD m ps = wb at fa fb fs ⊢
      generalize scrD ns = sd
      simp [fa, fb, fs, g9, g10, g11]) ?_
    exact ck
theorem law_eq (ns : List Int) (hl : ns.length ≤ 63) : S_law [scrD ns] = .ok (.bool true, none) := by
  obtain ⟨c, hc, hc8⟩ : ∃ c : Nat, gMax 1 (gMin (ns.length : Int) 5) = c ∧ c ≤ 5 := ⟨(gMax 1 (gMin (ns.length : Int) 5)).toNat, by unfold gMax gMin; split <;> split <;> omega, by unfold gMax gMin; split <;> split <;> omega⟩
  obtain ⟨δ', h1, x2, x1, x3, x4, x5, x6, x7, x8, x9, x10, x11, rfl, _⟩ := for_rel (α := Unit) (b := bName 1) (g := gOut) (fun _ δ => Rw3 ns δ) (fun _ _ => ()) (ds := rngD 0 c) (s := ()) (δ := [some (.v (scrD ns)), none, none, none, none, none, none, none, none, none, none, none, none]) (fun d hd _ δ h => by
    unfold rngD at hd
    obtain ⟨k, _, rfl⟩ := List.mem_map.mp hd
    rw [Int.zero_add]
    exact out_step h) ⟨_, _, _, _, _, _, _, _, _, _, _, rfl, by rfl, by rfl, by rfl, by rfl, by rfl, by rfl, by rfl, by rfl, by rfl, by rfl, by rfl⟩
  refine run_rt (g := g_law) (δ := [some (.v (scrD ns)), x1, x2, x3, x4, x5, x6, x7, x8, x9, x10, x11, none]) ?_ rfl
  show g_law [some (.v (scrD ns)), none, none, none, none, none, none, none, none, none, none, none, none] = _
  unfold g_law
  have ic : i62 (c : Int) = true := i62_small (by omega) (by omega)
  have hlen := len_scr ns
  refine sq (δ1 := [some (.v (scrD ns)), x1, x2, x3, x4, x5, x6, x7, x8, x9, x10, x11, none]) ?_ ?_
  · rw [ev_for, ev_rng1]
    have e : fB2 gMax (fC (.int 1)) (fB2 gMin (f1 oLen (fBar 0)) (fC (.int 5))) [some (.v (scrD ns)), none, none, none, none, none, none, none, none, none, none, none, none] = .ok (.int c, [some (.v (scrD ns)), none, none, none, none, none, none, none, none, none, none, none, none]) := by
      generalize scrD ns = sd at *
      simp [hlen, hc]
    rw [e]
    simp only [Rs.bind_ok, onI_int, ic, if_true, Int.toNat_natCast]
    exact h1
  · generalize scrD ns = sd
    simp
end K13

theorem PySem.Challenge.cw_treewalkers_k13_whole_walks_holds : PySem.Challenge.rw_treewalkers_k13_whole_walks.Holds :=
  K13.holds_of K13.law_eq
