import PyProof.Rows.All
import HandS.Base
import HandS.Call
import HandS.List
import HandS.Comp
import HandS.Dict
import HandS.Iter
import HandS.Words
import HandS.WordsList
import HandS.WordsDict
import HandS.Exc
import HandS.ExcInit
import HandS.ExcField
import HandS.ExcOwn
import HandS.TryOnly
import HandS.CallSlots
import HandS.WordsExc
import HandS.Deep
import HandS.TupAny
import HandS.TupMul
import HandS.TupLe
import HandS.Defaults
import HandS.Style
import KE.GoesEnum
import KE.DataMinMax
import HandS.IsInst
import HandS.Zip
import KE.SortData
import HandS.Conv
import HandS.SetFor
import HandS.Strs
import HandS.Ends
import HandS.Text
import PySem.Challenge.RW_playvalues_k11_heaps_and_their_periods
set_option Elab.async false
set_option linter.all false
set_option maxRecDepth 100000
set_option maxHeartbeats 8000000
namespace Gv
open PySem PySem.Spec L2

/-! ### values, stores, results -/
inductive D where
  | non | bl (b : Bool) | int (i : Int) | str (x : Str) | tup (xs : List D) | obj (i : Nat)
inductive Ob where
  | lst (xs : List D) | fls (xs : List D) | dK (kvs : List (Key × D)) | dT (kvs : List (List Key × D))
def Ob.mu : Ob → Prop
  | .fls _ => False
  | _ => True
abbrev Sto := List Ob
abbrev En := List (Option D)
structure Ex where
  cls : Nat
  code : D
  place : D
inductive Re (α : Type) where
  | ok (a : α) (s : Sto) | er (e : Ex) (s : Sto) | no
def Re.bind {α β : Type} (r : Re α) (f : α → Sto → Re β) : Re β := match r with
  | .ok a s => f a s
  | .er e s => .er e s
  | .no => .no
@[simp] theorem Re.bind_ok {α β : Type} (a : α) (s : Sto) (f : α → Sto → Re β) : (Re.ok a s).bind f = f a s := rfl
@[simp] theorem Re.bind_er {α β : Type} (e : Ex) (s : Sto) (f : α → Sto → Re β) : (Re.er e s : Re α).bind f = .er e s := rfl
@[simp] theorem Re.bind_no {α β : Type} (f : α → Sto → Re β) : (Re.no : Re α).bind f = .no := rfl
abbrev ED := En → Sto → Re D
abbrev AD := En → Sto → Re (List D)
abbrev BD := En → Sto → Re Bool
inductive Rs where
  | nx (e : En) (s : Sto) | rt (d : D) (s : Sto) | bk (e : En) (s : Sto) | ct (e : En) (s : Sto) | er (x : Ex) (e : En) (s : Sto) | no
abbrev SD := En → Sto → Rs

/-! ### what stands for what -/
mutual
inductive RV (K : PySem.W.Frag) (as : List Addr) (H : Hp) : V → D → Prop
  | non : RV K as H .non .non
  | bl (b : Bool) : RV K as H (.bl b) (.bl b)
  | int (i : Int) : RV K as H (.int i) (.int i)
  | str (x : Str) : RV K as H (.str x) (.str x)
  | tup {a : Addr} {xs : List V} {ds : List D} : H a = some (.tup xs) → RVs K as H xs ds → RV K as H (.ref a) (.tup ds)
  | obj {a : Addr} {i : Nat} : as[i]? = some a → RV K as H (.ref a) (.obj i)
inductive RVs (K : PySem.W.Frag) (as : List Addr) (H : Hp) : List V → List D → Prop
  | nil : RVs K as H [] []
  | cons {v : V} {vs : List V} {d : D} {ds : List D} : RV K as H v d → RVs K as H vs ds → RVs K as H (v :: vs) (d :: ds)
end
def RKs {κ : Type} (K : PySem.W.Frag) (as : List Addr) (H : Hp) (xs : List (κ × V)) (ys : List (κ × D)) : Prop := Paired (fun p q => p.1 = q.1 ∧ RV K as H p.2 q.2) xs ys
/-- a list that is only read -/
def SqF (K : PySem.W.Frag) (H : Hp) (a : Addr) (xs : List V) : Prop := (∃ o, H a = some (.frz o (.lst xs))) ∨ SqL K (fun _ => none) a xs
theorem SqF.sq {K : PySem.W.Frag} {H : Hp} {a : Addr} {xs : List V} (h : SqF K H a xs) : SqL K H a xs := by
  rcases h with ⟨o, h⟩ | (h | ⟨o, h⟩) | h
  · exact .inl (.inr ⟨o, h⟩)
  · cases h
  · cases h
  · exact .inr h
def RO (K : PySem.W.Frag) (as : List Addr) (H : Hp) (a : Addr) : Ob → Prop
  | .lst ds => ∃ xs, H a = some (.lst xs) ∧ RVs K as H xs ds
  | .fls ds => ∃ xs, SqF K H a xs ∧ RVs K as H xs ds
  | .dK kvs => ∃ ks, H a = some (.dK ks) ∧ RKs K as H ks kvs
  | .dT kvs => ∃ ks, H a = some (.dT ks) ∧ RKs K as H ks kvs
structure RS (K : PySem.W.Frag) (as : List Addr) (H : Hp) (st : Sto) : Prop where
  len : as.length = st.length
  inj : ∀ (i j : Nat) (a : Addr) (o u : Ob), as[i]? = some a → as[j]? = some a → st[i]? = some o → st[j]? = some u → o.mu → u.mu → i = j
  ob : ∀ (i : Nat) (o : Ob), st[i]? = some o → ∃ a, as[i]? = some a ∧ RO K as H a o
structure RE (K : PySem.W.Frag) (as : List Addr) (H : Hp) (σ : St) (en : En) : Prop where
  len : σ.length = en.length
  at' : ∀ (i : Nat) (d : D), en[i]? = some (some d) → ∃ v, σ[i]? = some (some v) ∧ RV K as H v d
/-- a step of the world: more objects, tuples stay -/
structure Stp (as : List Addr) (H : Hp) (as' : List Addr) (H' : Hp) : Prop where
  pre : ∃ e, as' = as ++ e ∧ ∀ a ∈ e, H a = none
  tup : ∀ b xs, H b = some (.tup xs) → H' b = some (.tup xs)
  fr : ∀ b o, b ∉ as → H b = some o → H' b = some o
  lv : ∀ b o, H b = some o → ∃ o', H' b = some o'

section
variable {K : PySem.W.Frag} {as as' as'' : List Addr} {H H' H'' : Hp} {st : Sto} {σ : St} {en : En}
theorem Stp.refl : Stp as H as H := ⟨⟨[], (List.append_nil _).symm, fun _ h => nomatch h⟩, fun _ _ h => h, fun _ _ _ h => h, fun _ o h => ⟨o, h⟩⟩
theorem Stp.trans (a : Stp as H as' H') (b : Stp as' H' as'' H'') : Stp as H as'' H'' := by
  obtain ⟨⟨e, rfl, n⟩, t, f, l⟩ := a
  obtain ⟨⟨e', rfl, n'⟩, t', f', l'⟩ := b
  refine ⟨⟨e ++ e', by rw [List.append_assoc], fun a h => ?_⟩, fun c xs h => t' c xs (t c xs h), fun b o hb h => f' b o (fun hm => ?_) (f b o hb h), fun b o h => let ⟨_, h1⟩ := l b o h; l' b _ h1⟩
  · rcases List.mem_append.mp h with h | h
    · exact n a h
    · cases ho : H a with
      | none => rfl
      | some o =>
        obtain ⟨o', h1⟩ := l a o ho
        rw [n' a h] at h1
        cases h1
  · rcases List.mem_append.mp hm with hm | hm
    · exact hb hm
    · rw [n b hm] at h
      cases h
theorem Stp.get (a : Stp as H as' H') {i : Nat} {c : Addr} (h : as[i]? = some c) : as'[i]? = some c := by
  obtain ⟨⟨e, rfl, _⟩, _⟩ := a
  have := (List.getElem?_eq_some_iff.mp h).1
  rw [List.getElem?_append_left this]
  exact h
mutual
theorem RV.mono (s : Stp as H as' H') : ∀ {d : D} {v : V}, RV K as H v d → RV K as' H' v d
  | .non, _, .non => .non
  | .bl _, _, .bl b => .bl b
  | .int _, _, .int i => .int i
  | .str _, _, .str x => .str x
  | .tup _, _, .tup h r => .tup (s.tup _ _ h) (RVs.mono s r)
  | .obj _, _, .obj h => .obj (s.get h)
theorem RVs.mono (s : Stp as H as' H') : ∀ {ds : List D} {vs : List V}, RVs K as H vs ds → RVs K as' H' vs ds
  | [], _, .nil => .nil
  | _ :: _, _, .cons h r => .cons (RV.mono s h) (RVs.mono s r)
end
theorem RKs.mono {κ : Type} (s : Stp as H as' H') {xs : List (κ × V)} {ys : List (κ × D)} (r : RKs K as H xs ys) : RKs K as' H' xs ys := Paired.mapP r fun p q z => ⟨z.1, z.2.mono s⟩
theorem RE.mono (s : Stp as H as' H') (r : RE K as H σ en) : RE K as' H' σ en := ⟨r.len, fun i d h => let ⟨v, e, q⟩ := r.at' i d h; ⟨v, e, q.mono s⟩⟩
theorem RVs.length : ∀ {vs : List V} {ds : List D}, RVs K as H vs ds → vs.length = ds.length
  | _, _, .nil => rfl
  | _, _, .cons _ r => by rw [List.length_cons, List.length_cons, RVs.length r]
theorem RVs.get : ∀ {vs : List V} {ds : List D} {i : Nat} {d : D}, RVs K as H vs ds → ds[i]? = some d → ∃ v, vs[i]? = some v ∧ RV K as H v d
  | _, _, _, _, .nil, e => by simp at e
  | _, _, 0, _, .cons h _, e => by simp at e; subst e; exact ⟨_, rfl, h⟩
  | _, _, i + 1, d, .cons _ r, e => by
    obtain ⟨v, h1, h2⟩ := RVs.get (i := i) (d := d) r (by simpa using e)
    exact ⟨v, by simpa using h1, h2⟩
theorem RVs.append : ∀ {vs ws : List V} {ds es : List D}, RVs K as H vs ds → RVs K as H ws es → RVs K as H (vs ++ ws) (ds ++ es)
  | _, _, _, _, .nil, s => s
  | _, _, _, _, .cons h r, s => .cons h (RVs.append r s)
theorem RVs.set {v : V} {d : D} (h : RV K as H v d) : ∀ {vs : List V} {ds : List D} (i : Nat), RVs K as H vs ds → RVs K as H (vs.set i v) (ds.set i d)
  | _, _, _, .nil => .nil
  | _, _, 0, .cons _ r => .cons h r
  | _, _, i + 1, .cons q r => .cons q (RVs.set h i r)
theorem RVs.take : ∀ {vs : List V} {ds : List D} (n : Nat), RVs K as H vs ds → RVs K as H (vs.take n) (ds.take n)
  | _, _, 0, _ => .nil
  | _, _, _ + 1, .nil => .nil
  | _, _, n + 1, .cons h r => .cons h (RVs.take n r)
theorem RVs.drop : ∀ {vs : List V} {ds : List D} (n : Nat), RVs K as H vs ds → RVs K as H (vs.drop n) (ds.drop n)
  | _, _, 0, r => r
  | _, _, _ + 1, .nil => .nil
  | _, _, n + 1, .cons _ r => RVs.drop n r
theorem RVs.dropLast {vs : List V} {ds : List D} (r : RVs K as H vs ds) : RVs K as H vs.dropLast ds.dropLast := by
  rw [List.dropLast_eq_take, List.dropLast_eq_take, r.length]
  exact r.take _

/-! ### the heap's steps -/
theorem tup_alloc {p : Addr} {o : HO} (hp : H p = none) {b : Addr} {xs : List V} (h : H b = some (.tup xs)) : upd H p o b = some (.tup xs) := by rw [upd_ne (ne_of_none h hp)]; exact h
/-- what a store may overwrite -/
def Wr : HO → Prop
  | .lst _ => True
  | .dK _ => True
  | .dT _ => True
  | _ => False
theorem tup_write {p : Addr} {o u : HO} (hp : H p = some u) (hw : Wr u) {b : Addr} {xs : List V} (h : H b = some (.tup xs)) : upd H p o b = some (.tup xs) := by
  rw [upd_ne (fun q => by subst q; rw [hp] at h; cases h; exact hw)]
  exact h
theorem Stp.alloc {p : Addr} {o : HO} (hp : H p = none) : Stp as H (as ++ [p]) (upd H p o) := ⟨⟨[p], rfl, fun a h => by rw [List.mem_singleton.mp h]; exact hp⟩, fun _ _ h => tup_alloc hp h, fun b u _ h => by rw [upd_ne (ne_of_none h hp)]; exact h, fun b u h => ⟨u, by rw [upd_ne (ne_of_none h hp)]; exact h⟩⟩
theorem Stp.new {p : Addr} {o : HO} (hp : H p = none) : Stp as H as (upd H p o) := ⟨⟨[], (List.append_nil _).symm, fun _ h => nomatch h⟩, fun _ _ h => tup_alloc hp h, fun b u _ h => by rw [upd_ne (ne_of_none h hp)]; exact h, fun b u h => ⟨u, by rw [upd_ne (ne_of_none h hp)]; exact h⟩⟩
theorem Stp.write {p : Addr} {o u : HO} {i : Nat} (hi : as[i]? = some p) (hp : H p = some u) (hw : Wr u) : Stp as H as (upd H p o) := ⟨⟨[], (List.append_nil _).symm, fun _ h => nomatch h⟩, fun _ _ h => tup_write hp hw h,
  fun b v hb h => by rw [upd_ne (fun z => hb (by rw [z]; exact List.mem_of_getElem? hi))]; exact h, fun b v h => by
    by_cases z : b = p
    · subst z; exact ⟨o, upd_same⟩
    · exact ⟨v, by rw [upd_ne z]; exact h⟩⟩
/-- the object at b keeps what it is, when p is written or laid -/
theorem RO.keep {p b : Addr} {o : HO} {x : Ob} (s : Stp as H as' (upd H p o)) (hb : x.mu → b ≠ p) (hn : ∀ u, H p = some u → Wr u) (h : RO K as H b x) : RO K as' (upd H p o) b x := by
  cases x with
  | lst ds =>
    obtain ⟨xs, e, r⟩ := h
    exact ⟨xs, by rw [upd_ne (hb trivial)]; exact e, r.mono s⟩
  | dK ds =>
    obtain ⟨xs, e, r⟩ := h
    exact ⟨xs, by rw [upd_ne (hb trivial)]; exact e, r.mono s⟩
  | dT ds =>
    obtain ⟨xs, e, r⟩ := h
    exact ⟨xs, by rw [upd_ne (hb trivial)]; exact e, r.mono s⟩
  | fls ds =>
    obtain ⟨xs, e, r⟩ := h
    refine ⟨xs, ?_, r.mono s⟩
    rcases e with ⟨u, h⟩ | h
    · exact .inl ⟨u, by rw [upd_ne (fun q => by subst q; exact hn _ h)]; exact h⟩
    · exact .inr h
theorem RO.ex {a : Addr} {x : Ob} (h : RO K as H a x) (m : x.mu) : ∃ u, H a = some u ∧ Wr u := by
  cases x with
  | lst ds => obtain ⟨xs, e, _⟩ := h; exact ⟨_, e, trivial⟩
  | dK ds => obtain ⟨xs, e, _⟩ := h; exact ⟨_, e, trivial⟩
  | dT ds => obtain ⟨xs, e, _⟩ := h; exact ⟨_, e, trivial⟩
  | fls ds => exact m.elim
/-- a new object -/
theorem RS.alloc {p : Addr} {o : HO} {x : Ob} (r : RS K as H st) (hp : H p = none) (hx : RO K (as ++ [p]) (upd H p o) p x) : RS K (as ++ [p]) (upd H p o) (st ++ [x]) := by
  have hl := r.len
  refine ⟨by rw [List.length_append, List.length_append, hl] <;> rfl, fun i j a u v h1 h2 h3 h4 m1 m2 => ?_, fun i u h => ?_⟩
  · have key : ∀ {i : Nat} {a : Addr} {u : Ob}, (as ++ [p])[i]? = some a → (st ++ [x])[i]? = some u → u.mu → (i < as.length ∧ as[i]? = some a ∧ st[i]? = some u ∧ a ≠ p) ∨ (i = as.length ∧ a = p) := fun {i a u} h1 h2 m => by
      by_cases hi : i < as.length
      · rw [List.getElem?_append_left hi] at h1
        rw [List.getElem?_append_left (by omega)] at h2
        obtain ⟨c, e, ro⟩ := r.ob i u h2
        rw [h1] at e
        cases e
        obtain ⟨w, e, _⟩ := ro.ex m
        exact .inl ⟨hi, h1, h2, ne_of_none e hp⟩
      · rw [List.getElem?_append_right (by omega)] at h1
        obtain ⟨h3, h4⟩ := List.getElem?_eq_some_iff.mp h1
        have h5 : i - as.length = 0 := by simp at h3; omega
        simp [h5] at h4
        exact .inr ⟨by omega, h4.symm⟩
    rcases key h1 h3 m1 with ⟨a1, a2, a3, a4⟩ | ⟨a1, a2⟩ <;> rcases key h2 h4 m2 with ⟨b1, b2, b3, b4⟩ | ⟨b1, b2⟩
    · exact r.inj i j a u v a2 b2 a3 b3 m1 m2
    · exact absurd b2 a4
    · exact absurd a2 b4
    · omega
  · by_cases hi : i < st.length
    · rw [List.getElem?_append_left hi] at h
      obtain ⟨a, e, ro⟩ := r.ob i u h
      refine ⟨a, by rw [List.getElem?_append_left (by omega)]; exact e, ro.keep (Stp.alloc hp) (fun m => ?_) fun w e => by rw [hp] at e; cases e⟩
      obtain ⟨w, e, _⟩ := ro.ex m
      exact ne_of_none e hp
    · rw [List.getElem?_append_right (by omega)] at h
      obtain ⟨h3, h4⟩ := List.getElem?_eq_some_iff.mp h
      have h5 : i - st.length = 0 := by simp at h3; omega
      simp [h5] at h4
      subst h4
      exact ⟨p, by rw [List.getElem?_append_right (by omega), show i - as.length = 0 by omega]; rfl, hx⟩
/-- a tuple, or a thing of no one's, is laid -/
theorem RS.new {p : Addr} {o : HO} (r : RS K as H st) (hp : H p = none) : RS K as (upd H p o) st :=
  ⟨r.len, r.inj, fun i u h => by
    obtain ⟨a, e, ro⟩ := r.ob i u h
    refine ⟨a, e, ro.keep (Stp.new hp) (fun m => ?_) fun w e => by rw [hp] at e; cases e⟩
    obtain ⟨w, e, _⟩ := ro.ex m
    exact ne_of_none e hp⟩
/-- an object is written -/
theorem RS.write {p : Addr} {o : HO} {i : Nat} {x y : Ob} (r : RS K as H st) (hi : as[i]? = some p) (hx : st[i]? = some x) (mx : x.mu) (my : y.mu) (hy : RO K as (upd H p o) p y) : RS K as (upd H p o) (st.set i y) := by
  obtain ⟨a, e, ro⟩ := r.ob i x hx
  rw [hi] at e
  cases e
  obtain ⟨u, hu, wu⟩ := ro.ex mx
  have hlt := (List.getElem?_eq_some_iff.mp hx).1
  have mu : ∀ {j : Nat} {v : Ob}, (st.set i y)[j]? = some v → v.mu → ∃ v', st[j]? = some v' ∧ v'.mu := fun {j v} h m => by
    by_cases hj : i = j
    · subst hj
      exact ⟨x, hx, mx⟩
    · rw [List.getElem?_set_ne hj] at h
      exact ⟨v, h, m⟩
  refine ⟨by rw [List.length_set]; exact r.len, fun j k a v w h1 h2 h3 h4 m1 m2 => ?_, fun j v h => ?_⟩
  · obtain ⟨v', e1, n1⟩ := mu h3 m1
    obtain ⟨w', e2, n2⟩ := mu h4 m2
    exact r.inj j k a v' w' h1 h2 e1 e2 n1 n2
  · by_cases hj : i = j
    · subst hj
      rw [List.getElem?_set_self hlt] at h
      cases h
      exact ⟨p, hi, hy⟩
    · rw [List.getElem?_set_ne hj] at h
      obtain ⟨a, e, rv⟩ := r.ob j v h
      refine ⟨a, e, rv.keep (Stp.write hi hu wu) (fun m z => ?_) fun w e => by rw [hu] at e; cases e; exact wu⟩
      subst z
      exact hj (r.inj i j a x v hi e hx h mx m)
theorem RS.at' (r : RS K as H st) {i : Nat} {a : Addr} {o : Ob} (h : as[i]? = some a) (e : st[i]? = some o) : RO K as H a o := by
  obtain ⟨b, e', ro⟩ := r.ob i o e
  rw [h] at e'
  cases e'
  exact ro
theorem RS.obj (r : RS K as H st) {v : V} {i : Nat} {o : Ob} (h : RV K as H v (.obj i)) (e : st[i]? = some o) : ∃ a, v = .ref a ∧ as[i]? = some a ∧ RO K as H a o := by
  cases h with
  | obj h => exact ⟨_, rfl, h, r.at' h e⟩
/-- a list read -/
def Ob.seq : Ob → Option (List D)
  | .lst xs => some xs
  | .fls xs => some xs
  | _ => none
theorem RO.seq {a : Addr} {o : Ob} {ds : List D} (h : RO K as H a o) (e : o.seq = some ds) : ∃ xs, SqL K H a xs ∧ RVs K as H xs ds := by
  cases o with
  | lst xs => cases e; obtain ⟨xs, e, r⟩ := h; exact ⟨xs, SqL.of e, r⟩
  | fls xs => cases e; obtain ⟨xs, e, r⟩ := h; exact ⟨xs, e.sq, r⟩
  | dK _ => cases e
  | dT _ => cases e
theorem RE.set (r : RE K as H σ en) {i : Nat} {v : V} {d : D} (h : RV K as H v d) : RE K as H (σ.set i (some v)) (en.set i (some d)) := by
  refine ⟨by rw [List.length_set, List.length_set]; exact r.len, fun j e q => ?_⟩
  by_cases hj : i = j
  · subst hj
    have hl : i < en.length := by
      have := (List.getElem?_eq_some_iff.mp q).1
      rw [List.length_set] at this
      exact this
    rw [List.getElem?_set_self hl] at q
    cases q
    exact ⟨v, List.getElem?_set_self (by rw [r.len]; exact hl), h⟩
  · rw [List.getElem?_set_ne hj] at q
    obtain ⟨w, e1, e2⟩ := r.at' j e q
    exact ⟨w, by rw [List.getElem?_set_ne hj]; exact e1, e2⟩
theorem RE.unset (r : RE K as H σ en) {i : Nat} : RE K as H (σ.set i none) (en.set i none) := by
  refine ⟨by rw [List.length_set, List.length_set]; exact r.len, fun j e q => ?_⟩
  by_cases hj : i = j
  · subst hj
    have hl : i < en.length := by
      have := (List.getElem?_eq_some_iff.mp q).1
      rw [List.length_set] at this
      exact this
    rw [List.getElem?_set_self hl] at q
    cases q
  · rw [List.getElem?_set_ne hj] at q
    obtain ⟨w, e1, e2⟩ := r.at' j e q
    exact ⟨w, by rw [List.getElem?_set_ne hj]; exact e1, e2⟩
end
end Gv
namespace Gv
open PySem PySem.Spec L2

/-! ### what is wanted behind a part -/
structure RX (K : PySem.W.Frag) (T : Nat → Addr) (as : List Addr) (H : Hp) (cls : Value) (dx : Option Addr) (e : Ex) : Prop where
  cls : cls = .ref (T e.cls)
  fld : ∃ d vc vp, dx = some d ∧ H d = some (.xd [("place", vp), ("code", vc)]) ∧ RV K as H vc e.code ∧ RV K as H vp e.place
section
variable (K : PySem.W.Frag) (T : Nat → Addr)
def Post {α β : Type} (rel : List Addr → Hp → β → α → Prop) (W : WX) (σ : L2.St) (as : List Addr) (H : Hp) (r : Re α) (Q : β → Hp → Prop) : Prop :=
  match r with
  | .ok x s => ∀ v H' as', Stp as H as' H' → RS K as' H' s → rel as' H' v x → Q v H'
  | .er e s => ∀ cls dx H' as', Stp as H as' H' → RS K as' H' s → RX K T as' H' cls dx e → W cls dx σ H'
  | .no => False
def PostS (W : WX) (as : List Addr) (H : Hp) (r : Rs) (D : Ends) : Prop :=
  match r with
  | .nx en s => ∀ σ' H' as', Stp as H as' H' → RS K as' H' s → RE K as' H' σ' en → D.nx σ' H'
  | .rt d s => ∀ v H' as', Stp as H as' H' → RS K as' H' s → RV K as' H' v d → D.rt v H'
  | .bk en s => ∀ σ' H' as', Stp as H as' H' → RS K as' H' s → RE K as' H' σ' en → D.bk σ' H'
  | .ct en s => ∀ σ' H' as', Stp as H as' H' → RS K as' H' s → RE K as' H' σ' en → D.ct σ' H'
  | .er e en s => ∀ cls dx σ' H' as', Stp as H as' H' → RS K as' H' s → RE K as' H' σ' en → RX K T as' H' cls dx e → W cls dx σ' H'
  | .no => False
def relB (_ : List Addr) (_ : Hp) (b c : Bool) : Prop := b = c
def tE (W : WX) (d : ED) : TE := fun σ H Q => ∃ en st as, RS K as H st ∧ RE K as H σ en ∧ Post K T (RV K) W σ as H (d en st) Q
def tA (W : WX) (d : AD) : TA := fun σ H Q => ∃ en st as, RS K as H st ∧ RE K as H σ en ∧ Post K T (RVs K) W σ as H (d en st) Q
def tT (W : WX) (d : BD) : TT := fun σ H Q => ∃ en st as, RS K as H st ∧ RE K as H σ en ∧ Post K T relB W σ as H (d en st) Q
def tS (W : WX) (d : SD) : TS := fun D σ H => ∃ en st as, RS K as H st ∧ RE K as H σ en ∧ PostS K T W as H (d en st) D
/-- values in, a value out -/
abbrev Vr := Option (D × Sto)
def Vr.re : Vr → Re D
  | some (x, s) => .ok x s
  | none => .no
@[simp] theorem Vr.re_some (x : D) (s : Sto) : Vr.re (some (x, s)) = .ok x s := rfl
@[simp] theorem Vr.re_none : Vr.re none = .no := rfl
def PostV (as : List Addr) (H : Hp) (r : Vr) (Q : VK) : Prop :=
  match r with
  | some (x, s) => ∀ v H' as', Stp as H as' H' → RS K as' H' s → RV K as' H' v x → Q v H'
  | none => False
abbrev F2 := D → D → Sto → Vr
abbrev FN := List D → Sto → Vr
def rOf (f : F2) : R2 := fun x y H Q => ∃ as st dx dy, RS K as H st ∧ RV K as H x dx ∧ RV K as H y dy ∧ PostV K as H (f dx dy st) Q
def cOf (f : FN) : List V → Hp → VK → Prop := fun vs H Q => ∃ as st ds, RS K as H st ∧ RVs K as H vs ds ∧ PostV K as H (f ds st) Q
end

section
variable {K : PySem.W.Frag} {T : Nat → Addr} {α β γ δ : Type} {rel : List Addr → Hp → β → α → Prop} {rel' : List Addr → Hp → δ → γ → Prop} {W : WX} {σ : L2.St} {as as1 as2 : List Addr} {H H1 H2 : Hp} {r : Re α} {st : Sto} {en : En}
theorem Stp.trans' (a : Stp as H as1 H1) (b : Stp as1 H1 as2 H2) : Stp as H as2 H2 := a.trans b
theorem Post.imp {Q Q' : β → Hp → Prop} (h : Post K T rel W σ as H r Q) (m : ∀ v H', Q v H' → Q' v H') : Post K T rel W σ as H r Q' := by
  cases r with
  | ok x s => exact fun v H' as' a b c => m _ _ (h v H' as' a b c)
  | er e s => exact h
  | no => exact h
theorem Post.shift {Q : β → Hp → Prop} (h : Post K T rel W σ as H r Q) (s : Stp as H as1 H1) : Post K T rel W σ as1 H1 r Q := by
  cases r with
  | ok x s' => exact fun v H' as' a b c => h v H' as' (s.trans a) b c
  | er e s' => exact fun cls dx H' as' a b c => h cls dx H' as' (s.trans a) b c
  | no => exact h
theorem Post.bind {f : α → Sto → Re γ} {Q : δ → Hp → Prop} (h : Post K T rel' W σ as H (r.bind f) Q) :
    Post K T rel W σ as H r (fun v H1 => ∃ as1 s1 x, Stp as H as1 H1 ∧ RS K as1 H1 s1 ∧ rel as1 H1 v x ∧ Post K T rel' W σ as1 H1 (f x s1) Q) := by
  cases r with
  | ok x s => exact fun v H' as' a b c => ⟨as', s, x, a, b, c, h.shift a⟩
  | er e s => exact h
  | no => exact h
theorem Post.v {r : Vr} {Q : VK} (h : Post K T (RV K) W σ as H r.re Q) : PostV K as H r Q := by
  cases r with
  | none => exact h
  | some p => exact h
theorem PostV.imp {r : Vr} {Q Q' : VK} (h : PostV K as H r Q) (m : ∀ v H', Q v H' → Q' v H') : PostV K as H r Q' := by
  cases r with
  | none => exact h
  | some p => exact fun v H' as' a b c => m _ _ (h v H' as' a b c)
theorem PostS.shift {r : Rs} {D : Ends} (h : PostS K T W as H r D) (s : Stp as H as1 H1) : PostS K T W as1 H1 r D := by
  cases r with
  | nx e s' => exact fun σ' H' as' a b c => h σ' H' as' (s.trans a) b c
  | rt e s' => exact fun σ' H' as' a b c => h σ' H' as' (s.trans a) b c
  | bk e s' => exact fun σ' H' as' a b c => h σ' H' as' (s.trans a) b c
  | ct e s' => exact fun σ' H' as' a b c => h σ' H' as' (s.trans a) b c
  | er e en' s' => exact fun cls dx σ' H' as' a b c d => h cls dx σ' H' as' (s.trans a) b c d
  | no => exact h
/-- an expression's end in a statement -/
def Re.toS {α : Type} (r : Re α) (en : En) (f : α → Sto → Rs) : Rs := match r with
  | .ok x s => f x s
  | .er e s => .er e en s
  | .no => .no
@[simp] theorem Re.toS_ok {α : Type} (x : α) (s : Sto) (en : En) (f : α → Sto → Rs) : (Re.ok x s).toS en f = f x s := rfl
@[simp] theorem Re.toS_er {α : Type} (x : Ex) (s : Sto) (en : En) (f : α → Sto → Rs) : (Re.er x s : Re α).toS en f = .er x en s := rfl
@[simp] theorem Re.toS_no {α : Type} (en : En) (f : α → Sto → Rs) : (Re.no : Re α).toS en f = .no := rfl
theorem PostS.bind {f : α → Sto → Rs} {D : Ends} (re : RE K as H σ en) (h : PostS K T W as H (r.toS en f) D) :
    Post K T rel W σ as H r (fun v H1 => ∃ as1 s1 x, Stp as H as1 H1 ∧ RS K as1 H1 s1 ∧ rel as1 H1 v x ∧ RE K as1 H1 σ en ∧ PostS K T W as1 H1 (f x s1) D) := by
  cases r with
  | ok x s => exact fun v H' as' a b c => ⟨as', s, x, a, b, c, re.mono a, h.shift a⟩
  | er e s => exact fun cls dx H' as' a b c => h cls dx σ H' as' a b (re.mono a) c
  | no => exact h
end

/-! ### rules made weaker -/
section
variable {X : Cx} {e : Expr} {es : List Expr} {s : Stmt} {ss : List Stmt}
theorem pe_mono {t t' : TE} (h : PE X e t) (m : ∀ σ H Q, t' σ H Q → t σ H Q) : PE X e t' := ⟨fun pins s σ H Q I q => h.run pins s σ H Q I (m _ _ _ q)⟩
theorem pt_mono {t t' : TT} (h : PT X e t) (m : ∀ σ H Q, t' σ H Q → t σ H Q) : PT X e t' := ⟨fun pins s σ H Q I q => h.run pins s σ H Q I (m _ _ _ q)⟩
theorem pw_mono {t t' : TT} (h : PW X e t) (m : ∀ σ H Q, t' σ H Q → t σ H Q) : PW X e t' := ⟨fun wh pins s σ H Q I q => h.run wh pins s σ H Q I (m _ _ _ q)⟩
theorem pa_mono {t t' : TA} (h : PA X es t) (m : ∀ σ H Q, t' σ H Q → t σ H Q) : PA X es t' := ⟨fun pos pins s σ H Q I q => h.run pos pins s σ H Q I (m _ _ _ q)⟩
theorem ps_mono {t t' : TS} (h : PS X s t) (m : ∀ D σ H, t' D σ H → t D σ H) : PS X s t' := ⟨fun pins s σ H D I q => h.run pins s σ H D I (m _ _ _ q)⟩
theorem pss_mono {t t' : TS} (h : PSs X ss t) (m : ∀ D σ H, t' D σ H → t D σ H) : PSs X ss t' := ⟨fun pins s σ H D I q => h.run pins s σ H D I (m _ _ _ q)⟩
theorem pe_orT' {t t' : TE} (h : PE X e t) (h' : PE X e t') : PE X e (fun σ H Q => t σ H Q ∨ t' σ H Q) := ⟨fun pins s σ H Q I q => q.elim (h.run pins s σ H Q I) (h'.run pins s σ H Q I)⟩
theorem ps_orT' {t t' : TS} (h : PS X s t) (h' : PS X s t') : PS X s (fun D σ H => t D σ H ∨ t' D σ H) := ⟨fun pins s σ H D I q => q.elim (h.run pins s σ H D I) (h'.run pins s σ H D I)⟩
end

/-! ### expressions -/
def dV (i : Nat) : ED := fun en st => match en[i]? with
  | some (some d) => .ok d st
  | _ => .no
def dC (d : D) : ED := fun _ st => .ok d st
def dOp (f : F2) (a b : ED) : ED := fun en st => (a en st).bind fun x s1 => (b en s1).bind fun y s2 => (f x y s2).re
def dUn (f : D → Sto → Vr) (a : ED) : ED := fun en st => (a en st).bind fun x s1 => (f x s1).re
def dNil : AD := fun _ st => .ok [] st
def dCons (a : ED) (r : AD) : AD := fun en st => (a en st).bind fun x s1 => (r en s1).bind fun xs s2 => .ok (x :: xs) s2
def dCB (f : FN) (a : AD) : ED := fun en st => (a en st).bind fun xs s1 => (f xs s1).re
def dIf (c : BD) (a b : ED) : ED := fun en st => (c en st).bind fun k s1 => if k = true then a en s1 else b en s1
def dTup (a : AD) : ED := fun en st => (a en st).bind fun xs s1 => if xs.length ≤ 16777216 then .ok (.tup xs) s1 else .no
def dLst (a : AD) : ED := fun en st => (a en st).bind fun xs s1 => if xs.length ≤ 16777216 then .ok (.obj s1.length) (s1 ++ [.lst xs]) else .no
/-- tests -/
def truD (st : Sto) : D → Option Bool
  | .non => some false
  | .bl b => some b
  | .int i => some (i != 0)
  | .str y => if y.length ≤ sizeLine then some ((y.length : Int) != 0) else none
  | .tup xs => some (!xs.isEmpty)
  | .obj i => match st[i]? with
    | some (.lst xs) => some (!xs.isEmpty)
    | some (.fls xs) => some (!xs.isEmpty)
    | some (.dK kvs) => some (!kvs.isEmpty)
    | _ => none
def bTru (a : ED) : BD := fun en st => (a en st).bind fun x s1 => match truD s1 x with
  | some b => .ok b s1
  | none => .no
def bCmp (f : F2) (a b : ED) : BD := fun en st => (a en st).bind fun x s1 => (b en s1).bind fun y s2 => match f x y s2 with
  | some (.bl k, s3) => .ok k s3
  | _ => .no
def bChain (f g : F2) (a b c : ED) : BD := fun en st => (a en st).bind fun x s1 => (b en s1).bind fun y s2 => match f x y s2 with
  | some (.bl k, s3) => if k = true then (c en s3).bind fun z s4 => match g y z s4 with
      | some (.bl k2, s5) => .ok k2 s5
      | _ => .no
    else .ok false s3
  | _ => .no
def dChain (f g : F2) (a b c : ED) : ED := fun en st => (a en st).bind fun x s1 => (b en s1).bind fun y s2 => match f x y s2 with
  | some (.bl k, s3) => if k = true then (c en s3).bind fun z s4 => (g y z s4).re else .ok (.bl false) s3
  | _ => .no
def bAnd (a b : BD) : BD := fun en st => (a en st).bind fun k s1 => if k = true then b en s1 else .ok false s1
def bOr (a b : BD) : BD := fun en st => (a en st).bind fun k s1 => if k = true then .ok true s1 else b en s1
def bNot (a : BD) : BD := fun en st => (a en st).bind fun k s1 => .ok (!k) s1
def dAnd (a b : ED) : ED := fun en st => (a en st).bind fun x s1 => match x with
  | .bl k => if k = true then b en s1 else .ok (.bl false) s1
  | _ => .no
def dOr (a b : ED) : ED := fun en st => (a en st).bind fun x s1 => match x with
  | .bl k => if k = true then .ok (.bl true) s1 else b en s1
  | _ => .no
def dNot (a : ED) : ED := fun en st => (a en st).bind fun x s1 => match x with
  | .bl k => .ok (.bl (!k)) s1
  | _ => .no

section
variable {X : Cx} {T : Nat → Addr} {W : WX} {a b c : Expr} {es : List Expr} {da db dc : ED} {ds : AD} {ba bb : BD} {pos : Pos}
theorem g_v (i : Nat) {x : Str} {pos : Pos} (hN : X.N[i]? = some x := by rfl) (hv : Vis X.env.scope x := by first | exact Or.inl rfl | exact Or.inr (Or.inl rfl) | exact Or.inr (Or.inr rfl)) (hd : (x == ("__debug__" : Str)) = false := by decide)
    (hcd : (x == ("__classdict__" : Str)) = false := by decide) : PE X (.Name x pos) (tE X.K T W (dV i)) := by
  refine pe_mono (pe_var hN hv hd hcd) fun σ H Q ⟨en, st, as, rs, re, q⟩ => ?_
  unfold dV at q
  cases e : en[i]? with
  | none => rw [e] at q; exact q.elim
  | some o =>
    cases o with
    | none => rw [e] at q; exact q.elim
    | some d =>
      rw [e] at q
      obtain ⟨v, hv, rv⟩ := re.at' i d e
      exact ⟨v, hv, q v H as Stp.refl rs rv⟩
theorem g_const {t : V} {d : D} (h : PE X a (tC t)) (r : ∀ as H, RV X.K as H t d) : PE X a (tE X.K T W (dC d)) :=
  pe_mono h fun σ H Q ⟨en, st, as, rs, re, q⟩ => q t H as Stp.refl rs (r _ _)
theorem g_int {i j pos} : PE X (.Constant (.int i) j pos) (tE X.K T W (dC (.int i))) := g_const pe_int fun _ _ => .int _
theorem g_bl {i j pos} : PE X (.Constant (.bool i) j pos) (tE X.K T W (dC (.bl i))) := g_const pe_bl fun _ _ => .bl _
theorem g_non {j pos} : PE X (.Constant .none j pos) (tE X.K T W (dC .non)) := g_const pe_non fun _ _ => .non
theorem g_str {i j pos} : PE X (.Constant (.str i) j pos) (tE X.K T W (dC (.str i))) := g_const pe_str fun _ _ => .str _
theorem g_gint {x : Str} {i : Int} {t : Tok} {pos : Pos} (hm : X.mg x = some (.int i t)) (hg : Gl X x := by rfl) (hd : (x == ("__debug__" : Str)) = false := by decide) : PE X (.Name x pos) (tE X.K T W (dC (.int i))) :=
  g_const (pe_glob (v := .int i) hg hm ⟨_, rfl⟩ hd) fun _ _ => .int _

theorem g_op {op : Operator} {f : F2} (ho : OpR X (binaryOp op) (rOf X.K f)) (ha : PE X a (tE X.K T W da)) (hb : PE X b (tE X.K T W db)) : PE X (.BinOp a op b pos) (tE X.K T W (dOp f da db)) := by
  refine pe_mono (pe_op ho ha hb) fun σ H Q ⟨en, st, as, rs, re, q⟩ => ?_
  refine ⟨en, st, as, rs, re, q.bind.imp fun x H1 ⟨as1, s1, dx, p1, rs1, rx, q1⟩ => ?_⟩
  refine ⟨en, s1, as1, rs1, re.mono p1, q1.bind.imp fun y H2 ⟨as2, s2, dy, p2, rs2, ry, q2⟩ => ?_⟩
  exact ⟨as2, s2, dx, dy, rs2, rx.mono p2, ry, q2.v⟩
theorem g_cmp {op : CmpOp} {f : F2} (ho : OpR X (compareOp op) (rOf X.K f)) (ha : PE X a (tE X.K T W da)) (hb : PE X b (tE X.K T W db)) (hm : behindInMarks op b = false := by first | exact nomark _ | rfl) : PE X (.Compare a [op] [b] pos) (tE X.K T W (dOp f da db)) := by
  refine pe_mono (pe_cmpR ho ha hb hm) fun σ H Q ⟨en, st, as, rs, re, q⟩ => ?_
  refine ⟨en, st, as, rs, re, q.bind.imp fun x H1 ⟨as1, s1, dx, p1, rs1, rx, q1⟩ => ?_⟩
  refine ⟨en, s1, as1, rs1, re.mono p1, q1.bind.imp fun y H2 ⟨as2, s2, dy, p2, rs2, ry, q2⟩ => ?_⟩
  exact ⟨as2, s2, dx, dy, rs2, rx.mono p2, ry, q2.v⟩
theorem g_un {op : UnaryOp} {f : D → Sto → Vr} (ho : UnR X (unaryOp op) (fun x H Q => ∃ as st dx, RS X.K as H st ∧ RV X.K as H x dx ∧ PostV X.K as H (f dx st) Q)) (ha : PE X a (tE X.K T W da)) : PE X (.UnaryOp op a pos) (tE X.K T W (dUn f da)) := by
  refine pe_mono (pe_un ho ha) fun σ H Q ⟨en, st, as, rs, re, q⟩ => ?_
  refine ⟨en, st, as, rs, re, q.bind.imp fun x H1 ⟨as1, s1, dx, p1, rs1, rx, q1⟩ => ?_⟩
  exact ⟨as1, s1, dx, rs1, rx, q1.v⟩
theorem g_nil : PA X [] (tA X.K T W dNil) := pa_mono pa_nil fun σ H Q ⟨en, st, as, rs, re, q⟩ => q [] H as Stp.refl rs .nil
theorem g_cons (ha : PE X a (tE X.K T W da)) (hr : PA X es (tA X.K T W ds)) (hs : starEach (a :: es) X.env = (false, eval a X.env) :: starEach es X.env := by rfl) : PA X (a :: es) (tA X.K T W (dCons da ds)) := by
  refine pa_mono (pa_cons ha hr hs) fun σ H Q ⟨en, st, as, rs, re, q⟩ => ?_
  refine ⟨en, st, as, rs, re, q.bind.imp fun x H1 ⟨as1, s1, dx, p1, rs1, rx, q1⟩ => ?_⟩
  refine ⟨en, s1, as1, rs1, re.mono p1, q1.bind.imp fun xs H2 ⟨as2, s2, dxs, p2, rs2, rxs, q2⟩ => ?_⟩
  exact q2 _ _ _ Stp.refl rs2 (.cons (rx.mono p2) rxs)
theorem g_if (hc : PT X c (tT X.K T W ba)) (ha : PE X a (tE X.K T W da)) (hb : PE X b (tE X.K T W db)) : PE X (.IfExp c a b pos) (tE X.K T W (dIf ba da db)) := by
  refine pe_mono (pe_ifExp hc ha hb) fun σ H Q ⟨en, st, as, rs, re, q⟩ => ?_
  refine ⟨en, st, as, rs, re, q.bind.imp fun k H1 ⟨as1, s1, kk, p1, rs1, rk, q1⟩ => ?_⟩
  cases rk
  cases k with
  | true => rw [if_pos rfl]; exact ⟨en, s1, as1, rs1, re.mono p1, q1⟩
  | false => rw [if_neg Bool.false_ne_true]; exact ⟨en, s1, as1, rs1, re.mono p1, q1⟩
theorem g_tup {k : Nat} (h : PA X es (tA X.K T W ds)) : PE X (.Tuple es k pos) (tE X.K T W (dTup ds)) := by
  refine pe_mono (pe_tup h) fun σ H Q ⟨en, st, as, rs, re, q⟩ => ?_
  refine ⟨en, st, as, rs, re, q.bind.imp fun vs H1 ⟨as1, s1, xs, p1, rs1, rx, q1⟩ => ?_⟩
  by_cases hl : xs.length ≤ 16777216
  · rw [if_pos hl] at q1
    refine ⟨by rw [rx.length, sizeLine_eq]; exact hl, fun p hp => ?_⟩
    exact q1 _ _ as1 (Stp.new hp) (rs1.new hp) (.tup upd_same (rx.mono (Stp.new hp)))
  · rw [if_neg hl] at q1
    exact q1.elim
theorem g_lst (h : PA X es (tA X.K T W ds)) : PE X (.List es pos) (tE X.K T W (dLst ds)) := by
  refine pe_mono (pe_lst h) fun σ H Q ⟨en, st, as, rs, re, q⟩ => ?_
  refine ⟨en, st, as, rs, re, q.bind.imp fun vs H1 ⟨as1, s1, xs, p1, rs1, rx, q1⟩ => ?_⟩
  by_cases hl : xs.length ≤ 16777216
  · rw [if_pos hl] at q1
    refine ⟨by rw [rx.length, sizeLine_eq]; exact hl, fun p hp => ?_⟩
    exact q1 _ _ (as1 ++ [p]) (Stp.alloc hp) (rs1.alloc hp ⟨vs, upd_same, rx.mono (Stp.alloc hp)⟩) (.obj (by rw [← rs1.len, List.getElem?_append_right (Nat.le_refl _), Nat.sub_self]; rfl))
  · rw [if_neg hl] at q1
    exact q1.elim
/-! tests -/
theorem tru_of {as : List Addr} {H : Hp} {st : Sto} {x : V} {d : D} {k : Bool} {K : PySem.W.Frag} (rs : RS K as H st) (rx : RV K as H x d) (e : truD st d = some k) : TruV K x H k := by
  cases rx with
  | non => cases e; rfl
  | bl b => cases e; rfl
  | int i => cases e; rfl
  | str y =>
    simp only [truD] at e
    split at e
    · cases e; exact ⟨‹_›, rfl⟩
    · cases e
  | @tup a xs ds h r =>
    cases e
    refine .inr (.inl ⟨xs, SqT.of h, ?_⟩)
    cases r <;> rfl
  | @obj a i h =>
    simp only [truD] at e
    split at e
    · rename_i xs hx
      cases e
      obtain ⟨ys, ey, r⟩ := rs.at' h hx
      refine .inl ⟨ys, SqL.of ey, ?_⟩
      cases r <;> rfl
    · rename_i xs hx
      cases e
      obtain ⟨ys, ey, r⟩ := rs.at' h hx
      refine .inl ⟨ys, ey.sq, ?_⟩
      cases r <;> rfl
    · rename_i xs hx
      cases e
      obtain ⟨ys, ey, r⟩ := rs.at' h hx
      refine .inr (.inr ⟨ys, ey, ?_⟩)
      cases r <;> rfl
    · cases e
theorem gt_tru (ha : PE X a (tE X.K T W da)) (he : ∀ whole, isTrue a X.env whole = (do let v ← whole; standAt a.pos; holding [v] (truthy v)) := by intro _; rfl) : PT X a (tT X.K T W (bTru da)) := by
  refine pt_mono (pt_truth ha he) fun σ H Q ⟨en, st, as, rs, re, q⟩ => ?_
  refine ⟨en, st, as, rs, re, q.bind.imp fun x H1 ⟨as1, s1, dx, p1, rs1, rx, q1⟩ => ?_⟩
  cases e : truD s1 dx with
  | none => rw [e] at q1; exact q1.elim
  | some k =>
    rw [e] at q1
    exact ⟨k, tru_of rs1 rx e, q1 k H1 as1 Stp.refl rs1 rfl⟩
theorem postv_bl {as : List Addr} {H : Hp} {σ : L2.St} {K : PySem.W.Frag} {r : Vr} {Q : Bool → Hp → Prop} (h : Post K T relB W σ as H (match r with | some (.bl k, s3) => .ok k s3 | _ => .no) Q) :
    PostV K as H r (fun x H' => ∃ k, x = .bl k ∧ Q k H') := by
  cases r with
  | none => exact h
  | some p =>
    obtain ⟨x, s⟩ := p
    cases x with
    | bl k =>
      intro v H' as' a b c
      cases c
      exact ⟨k, rfl, h k H' as' a b rfl⟩
    | _ => exact h.elim
theorem gt_cmp {op : CmpOp} {f : F2} (ho : OpR X (compareOp op) (rOf X.K f)) (ha : PE X a (tE X.K T W da)) (hb : PE X b (tE X.K T W db)) (hm : behindInMarks op b = false := by first | exact nomark _ | rfl) : PT X (.Compare a [op] [b] pos) (tT X.K T W (bCmp f da db)) := by
  refine pt_mono (pt_cmpR ho ha hb hm) fun σ H Q ⟨en, st, as, rs, re, q⟩ => ?_
  refine ⟨en, st, as, rs, re, q.bind.imp fun x H1 ⟨as1, s1, dx, p1, rs1, rx, q1⟩ => ?_⟩
  refine ⟨en, s1, as1, rs1, re.mono p1, q1.bind.imp fun y H2 ⟨as2, s2, dy, p2, rs2, ry, q2⟩ => ?_⟩
  exact ⟨as2, s2, dx, dy, rs2, rx.mono p2, ry, postv_bl q2⟩
theorem gw_and1 (ha : PT X a (tT X.K T W ba)) : PW X (.BoolOp .And [a] pos) (tT X.K T W ba) := pw_and1 ha
theorem gw_or1 (ha : PT X a (tT X.K T W ba)) : PW X (.BoolOp .Or [a] pos) (tT X.K T W ba) := pw_or1 ha
theorem gw_and (ha : PT X a (tT X.K T W ba)) (hb : PW X (.BoolOp .And (b :: es) pos) (tT X.K T W bb)) : PW X (.BoolOp .And (a :: b :: es) pos) (tT X.K T W (bAnd ba bb)) := by
  refine pw_mono (pw_and ha hb) fun σ H Q ⟨en, st, as, rs, re, q⟩ => ?_
  refine ⟨en, st, as, rs, re, q.bind.imp fun k H1 ⟨as1, s1, kk, p1, rs1, rk, q1⟩ => ?_⟩
  cases rk
  cases k with
  | true => rw [if_pos rfl]; exact ⟨en, s1, as1, rs1, re.mono p1, q1⟩
  | false => rw [if_neg Bool.false_ne_true]; exact q1 false H1 as1 Stp.refl rs1 rfl
theorem gw_or (ha : PT X a (tT X.K T W ba)) (hb : PW X (.BoolOp .Or (b :: es) pos) (tT X.K T W bb)) : PW X (.BoolOp .Or (a :: b :: es) pos) (tT X.K T W (bOr ba bb)) := by
  refine pw_mono (pw_or ha hb) fun σ H Q ⟨en, st, as, rs, re, q⟩ => ?_
  refine ⟨en, st, as, rs, re, q.bind.imp fun k H1 ⟨as1, s1, kk, p1, rs1, rk, q1⟩ => ?_⟩
  cases rk
  cases k with
  | true => rw [if_pos rfl]; exact q1 true H1 as1 Stp.refl rs1 rfl
  | false => rw [if_neg Bool.false_ne_true]; exact ⟨en, s1, as1, rs1, re.mono p1, q1⟩
theorem gt_w (h : PW X a (tT X.K T W ba)) : PT X a (tT X.K T W ba) := h.pt
theorem gt_not (ha : PT X a (tT X.K T W ba)) : PT X (.UnaryOp .Not a pos) (tT X.K T W (bNot ba)) := by
  refine pt_mono (pt_not ha) fun σ H Q ⟨en, st, as, rs, re, q⟩ => ?_
  refine ⟨en, st, as, rs, re, q.bind.imp fun k H1 ⟨as1, s1, kk, p1, rs1, rk, q1⟩ => ?_⟩
  cases rk
  exact q1 _ H1 as1 Stp.refl rs1 rfl
theorem g_one {op : PySem.BoolOp} (ha : PE X a (tE X.K T W da)) : PE X (.BoolOp op [a] pos) (tE X.K T W da) := pe_one ha
theorem g_and (ha : PE X a (tE X.K T W da)) (hb : PE X (.BoolOp .And (b :: es) pos) (tE X.K T W db)) : PE X (.BoolOp .And (a :: b :: es) pos) (tE X.K T W (dAnd da db)) := by
  refine pe_mono (pe_and ha hb) fun σ H Q ⟨en, st, as, rs, re, q⟩ => ?_
  refine ⟨en, st, as, rs, re, q.bind.imp fun x H1 ⟨as1, s1, dx, p1, rs1, rx, q1⟩ => ?_⟩
  cases rx with
  | bl k =>
    refine ⟨k, rfl, ?_⟩
    cases k with
    | true => rw [if_pos rfl]; exact ⟨en, s1, as1, rs1, re.mono p1, q1⟩
    | false => rw [if_neg Bool.false_ne_true]; exact q1 _ H1 as1 Stp.refl rs1 (.bl _)
  | _ => exact q1.elim
theorem g_or (ha : PE X a (tE X.K T W da)) (hb : PE X (.BoolOp .Or (b :: es) pos) (tE X.K T W db)) : PE X (.BoolOp .Or (a :: b :: es) pos) (tE X.K T W (dOr da db)) := by
  refine pe_mono (pe_or ha hb) fun σ H Q ⟨en, st, as, rs, re, q⟩ => ?_
  refine ⟨en, st, as, rs, re, q.bind.imp fun x H1 ⟨as1, s1, dx, p1, rs1, rx, q1⟩ => ?_⟩
  cases rx with
  | bl k =>
    refine ⟨k, rfl, ?_⟩
    cases k with
    | true => rw [if_pos rfl]; exact q1 _ H1 as1 Stp.refl rs1 (.bl _)
    | false => rw [if_neg Bool.false_ne_true]; exact ⟨en, s1, as1, rs1, re.mono p1, q1⟩
  | _ => exact q1.elim
theorem g_not (ha : PE X a (tE X.K T W da)) : PE X (.UnaryOp .Not a pos) (tE X.K T W (dNot da)) := by
  refine pe_mono (pe_not ha) fun σ H Q ⟨en, st, as, rs, re, q⟩ => ?_
  refine ⟨en, st, as, rs, re, q.bind.imp fun x H1 ⟨as1, s1, dx, p1, rs1, rx, q1⟩ => ?_⟩
  cases rx with
  | bl k => exact ⟨k, rfl, q1 _ H1 as1 Stp.refl rs1 (.bl _)⟩
  | _ => exact q1.elim
theorem gt_chain {op op' : CmpOp} {f g : F2} (ho : OpR X (compareOp op) (rOf X.K f)) (ho' : OpR X (compareOp op') (rOf X.K g)) (ha : PE X a (tE X.K T W da)) (hb : PE X b (tE X.K T W db)) (hc : PE X c (tE X.K T W dc)) (hm : lastMarks [op, op'] [b, c] = false := by with_unfolding_all rfl) :
    PT X (.Compare a [op, op'] [b, c] pos) (tT X.K T W (bChain f g da db dc)) := by
  refine pt_mono (pt_chain ho ho' ha hb hc hm) fun σ H Q ⟨en, st, as, rs, re, q⟩ => ?_
  refine ⟨en, st, as, rs, re, q.bind.imp fun x H1 ⟨as1, s1, dx, p1, rs1, rx, q1⟩ => ?_⟩
  refine ⟨en, s1, as1, rs1, re.mono p1, q1.bind.imp fun y H2 ⟨as2, s2, dy, p2, rs2, ry, q2⟩ => ?_⟩
  refine ⟨as2, s2, dx, dy, rs2, rx.mono p2, ry, ?_⟩
  cases e : f dx dy s2 with
  | none => rw [e] at q2; exact q2.elim
  | some p =>
    obtain ⟨z, s3⟩ := p
    rw [e] at q2
    cases z with
    | bl k =>
      intro v H3 as3 p3 rs3 rv
      cases rv
      refine ⟨k, rfl, ?_⟩
      have q3 := Post.shift q2 p3
      cases k with
      | false => exact ⟨false, rfl, q3 false H3 as3 Stp.refl rs3 rfl⟩
      | true =>
        refine ⟨en, s3, as3, rs3, (re.mono p1).mono (p2.trans p3), (Post.bind q3).imp fun z H4 ⟨as4, s4, dz, p4, rs4, rz, q4⟩ => ?_⟩
        exact ⟨as4, s4, dy, dz, rs4, ry.mono (p3.trans p4), rz, postv_bl q4⟩
    | _ => exact q2.elim
theorem g_chain {op op' : CmpOp} {f g : F2} (ho : OpR X (compareOp op) (rOf X.K f)) (ho' : OpR X (compareOp op') (rOf X.K g)) (ha : PE X a (tE X.K T W da)) (hb : PE X b (tE X.K T W db)) (hc : PE X c (tE X.K T W dc)) (hm : lastMarks [op, op'] [b, c] = false := by with_unfolding_all rfl) :
    PE X (.Compare a [op, op'] [b, c] pos) (tE X.K T W (dChain f g da db dc)) := by
  refine pe_mono (pe_chain ho ho' ha hb hc hm) fun σ H Q ⟨en, st, as, rs, re, q⟩ => ?_
  refine ⟨en, st, as, rs, re, q.bind.imp fun x H1 ⟨as1, s1, dx, p1, rs1, rx, q1⟩ => ?_⟩
  refine ⟨en, s1, as1, rs1, re.mono p1, q1.bind.imp fun y H2 ⟨as2, s2, dy, p2, rs2, ry, q2⟩ => ?_⟩
  refine ⟨as2, s2, dx, dy, rs2, rx.mono p2, ry, ?_⟩
  cases e : f dx dy s2 with
  | none => rw [e] at q2; exact q2.elim
  | some p =>
    obtain ⟨z, s3⟩ := p
    rw [e] at q2
    cases z with
    | bl k =>
      intro v H3 as3 p3 rs3 rv
      cases rv
      refine ⟨k, rfl, ?_⟩
      have q3 := Post.shift q2 p3
      cases k with
      | false => exact q3 _ H3 as3 Stp.refl rs3 (.bl _)
      | true =>
        refine ⟨en, s3, as3, rs3, (re.mono p1).mono (p2.trans p3), (Post.bind q3).imp fun z H4 ⟨as4, s4, dz, p4, rs4, rz, q4⟩ => ?_⟩
        exact ⟨as4, s4, dy, dz, rs4, ry.mono (p3.trans p4), rz, q4.v⟩
    | _ => exact q2.elim
end
end Gv
namespace Gv
open PySem PySem.Spec L2

/-! ### data of a value -/
mutual
def pd : D → Option PyData
  | .non => some .none
  | .bl b => some (.bool b)
  | .int i => some (.int i)
  | .str x => some (.str x)
  | .tup xs => (pds xs).map .tuple
  | .obj _ => none
def pds : List D → Option (List PyData)
  | [] => some []
  | x :: xs => match pd x, pds xs with
    | some p, some ps => some (p :: ps)
    | _, _ => none
end
def pdS (st : Sto) : D → Option PyData
  | .obj i => match st[i]? with
    | some (.lst xs) => (pds xs).map .list
    | some (.fls xs) => (pds xs).map .list
    | _ => none
  | d => pd d
def fEqD (neg : Bool) : F2 := fun x y st => match pdS st x, pdS st y with
  | some p, some q => if SeqAt.shaped p = true ∧ SeqAt.shaped q = true then some (.bl (if neg then !PyData.eqv p q else PyData.eqv p q), st) else none
  | _, _ => none
def fEq : F2 := fun x y st => match x, y with
  | .int i, .int j => some (.bl (decide (i = j)), st)
  | .str i, .str j => some (.bl (decide (i = j)), st)
  | .bl i, .bl j => some (.bl (decide (i = j)), st)
  | x, y => fEqD false x y st
def fNe : F2 := fun x y st => match x, y with
  | .int i, .int j => some (.bl (!decide (i = j)), st)
  | .str i, .str j => some (.bl (!decide (i = j)), st)
  | .bl i, .bl j => some (.bl (!decide (i = j)), st)
  | x, y => fEqD true x y st
def fInt (g : Int → Int → D) : F2 := fun x y st => match x, y with
  | .int i, .int j => some (g i j, st)
  | _, _ => none
def fIntC (C : Int → Int → Bool) (g : Int → Int → D) : F2 := fun x y st => match x, y with
  | .int i, .int j => if C i j = true then some (g i j, st) else none
  | _, _ => none
abbrev fLt : F2 := fInt fun i j => .bl (decide (i < j))
abbrev fLe : F2 := fInt fun i j => .bl (decide (i ≤ j))
abbrev fGt : F2 := fInt fun i j => .bl (decide (j < i))
abbrev fGe : F2 := fInt fun i j => .bl (decide (j ≤ i))
abbrev fSub : F2 := fInt fun i j => .int (i - j)
abbrev fXor : F2 := fInt fun i j => .int (Builtin.bitXor i j)
abbrev fAnd : F2 := fInt fun i j => .int (Builtin.bitAnd i j)
abbrev fOr : F2 := fInt fun i j => .int (Builtin.bitOr i j)
abbrev fDiv : F2 := fIntC (fun _ j => decide (0 < j) && decide (j < 1073741824)) fun i j => .int (i / j)
abbrev fMod : F2 := fIntC (fun _ j => decide (0 < j)) fun i j => .int (i % j)
def cPow (i j : Int) : Bool := decide (0 ≤ j) && (decide (j ≤ 1000000) && decide (i.natAbs < 18446744073709551616))
abbrev fPow : F2 := fIntC cPow fun i j => .int (i ^ j.toNat)
abbrev fShl : F2 := fIntC cPow fun i j => .int (i * 2 ^ j.toNat)
abbrev fShr : F2 := fIntC (fun _ j => decide (0 ≤ j)) fun i j => .int (i / 2 ^ j.toNat)
def cMul (i j : Int) : Bool := decide (i.natAbs < 18446744073709551616) || decide (j.natAbs < 18446744073709551616)
def fMul : F2 := fun x y st => match x, y with
  | .int i, .int j => if cMul i j = true then some (.int (i * j), st) else none
  | .tup xs, .int k => if xs ≠ [] ∧ 2 ≤ k ∧ k ≤ 1000 ∧ xs.length ≤ 1000 then some (.tup (List.replicate k.toNat xs).flatten, st) else
      (if xs ≠ [] ∧ k = 1 ∧ xs.length ≤ 1000 then none else none)
  | .obj i, .int k => match st[i]? with
    | some (.lst xs) => if -9223372036854775808 ≤ k ∧ k < 9223372036854775808 ∧ xs.length * k.toNat ≤ 16777216 then some (.obj st.length, st ++ [.lst (List.replicate k.toNat xs).flatten]) else none
    | _ => none
  | _, _ => none
def fAdd : F2 := fun x y st => match x, y with
  | .int i, .int j => some (.int (i + j), st)
  | .str a, .str b => if a.length + b.length ≤ 16777216 then some (.str (a ++ b), st) else none
  | .tup xs, .tup ys => if xs.length + ys.length ≤ 16777216 then some (.tup (xs ++ ys), st) else none
  | .obj i, .obj j => match st[i]?, st[j]? with
    | some (.lst xs), some (.lst ys) => if xs.length + ys.length ≤ 16777216 then some (.obj st.length, st ++ [.lst (xs ++ ys)]) else none
    | _, _ => none
  | _, _ => none

section
variable {K : PySem.W.Frag} {as : List Addr} {H : Hp} {st : Sto}
theorem postv1 {d : D} {s : Sto} {Q : VK} {v : V} (rs : RS K as H s) (r : RV K as H v d) (q : PostV K as H (some (d, s)) Q) : Q v H := q v H as Stp.refl rs r
mutual
theorem pd_dp : ∀ {d : D} {v : V} {p : PyData}, RV K as H v d → pd d = some p → Dp K H v p
  | .non, _, _, .non, e => by cases e; exact .non
  | .bl _, _, _, .bl b, e => by cases e; exact .bl b
  | .int _, _, _, .int i, e => by cases e; exact .int i
  | .str _, _, _, .str i, e => by cases e; exact .str i
  | .tup ds, _, _, .tup h r, e => by
    simp only [pd] at e
    cases q : pds ds with
    | none => rw [q] at e; cases e
    | some ps =>
      rw [q] at e
      cases e
      exact .tup (SqT.of h) (pds_dp r q)
  | .obj _, _, _, _, e => by cases e
theorem pds_dp : ∀ {ds : List D} {vs : List V} {ps : List PyData}, RVs K as H vs ds → pds ds = some ps → DpAll K H vs ps
  | [], _, _, .nil, e => by cases e; exact .nil
  | d :: ds, _, _, .cons h r, e => by
    simp only [pds] at e
    cases q : pd d with
    | none => rw [q] at e; cases e
    | some p =>
      cases q2 : pds ds with
      | none => rw [q, q2] at e; cases e
      | some ps =>
        rw [q, q2] at e
        cases e
        exact .cons (pd_dp h q) (pds_dp r q2)
end
theorem pdS_dp (rs : RS K as H st) {d : D} {v : V} {p : PyData} (r : RV K as H v d) (e : pdS st d = some p) : Dp K H v p := by
  cases r with
  | @obj a i h =>
    simp only [pdS] at e
    split at e
    · rename_i xs hx
      obtain ⟨ys, ey, ry⟩ := rs.at' h hx
      cases q : pds xs with
      | none => rw [q] at e; cases e
      | some ps => rw [q] at e; cases e; exact .lst (SqL.of ey) (pds_dp ry q)
    · rename_i xs hx
      obtain ⟨ys, ey, ry⟩ := rs.at' h hx
      cases q : pds xs with
      | none => rw [q] at e; cases e
      | some ps => rw [q] at e; cases e; exact .lst ey.sq (pds_dp ry q)
    · cases e
  | non => exact pd_dp (as := as) .non e
  | bl b => exact pd_dp (as := as) (.bl b) e
  | int b => exact pd_dp (as := as) (.int b) e
  | str b => exact pd_dp (as := as) (.str b) e
  | tup h r => exact pd_dp (.tup h r) e
end

section
variable {X : Cx}
theorem og_eqD (hu : X.A.units + 64 < cLine) : OpR X (compareOp .Eq) (rOf X.K (fEqD false)) := by
  intro pins s σ H x y v u Q I rx ry ⟨as, st, dx, dy, rs, hx, hy, q⟩
  unfold fEqD at q
  cases e1 : pdS st dx with
  | none => rw [e1] at q; exact q.elim
  | some p =>
    cases e2 : pdS st dy with
    | none => rw [e1, e2] at q; exact q.elim
    | some p2 =>
      rw [e1, e2] at q
      dsimp only at q
      split at q
      · rename_i hs
        exact op_eqD hu pins s σ H x y v u Q I rx ry ⟨p, p2, pdS_dp rs hx e1, pdS_dp rs hy e2, hs.1, hs.2, postv1 rs (.bl _) q⟩
      · exact q.elim
theorem og_neD (hu : X.A.units + 64 < cLine) : OpR X (compareOp .NotEq) (rOf X.K (fEqD true)) := by
  intro pins s σ H x y v u Q I rx ry ⟨as, st, dx, dy, rs, hx, hy, q⟩
  unfold fEqD at q
  cases e1 : pdS st dx with
  | none => rw [e1] at q; exact q.elim
  | some p =>
    cases e2 : pdS st dy with
    | none => rw [e1, e2] at q; exact q.elim
    | some p2 =>
      rw [e1, e2] at q
      dsimp only at q
      split at q
      · rename_i hs
        exact op_neD hu pins s σ H x y v u Q I rx ry ⟨p, p2, pdS_dp rs hx e1, pdS_dp rs hy e2, hs.1, hs.2, postv1 rs (.bl _) q⟩
      · exact q.elim
theorem og_eq (hu : X.A.units + 64 < cLine) : OpR X (compareOp .Eq) (rOf X.K fEq) := by
  intro pins s σ H x y v u Q I rx ry ⟨as, st, dx, dy, rs, hx, hy, q⟩
  unfold fEq at q
  split at q
  · cases hx; cases hy
    exact op_eq pins s σ H _ _ v u Q I rx ry ⟨rfl, by rw [show ∀ a b : Int, decide (V.int a = V.int b) = decide (a = b) from fun a b => by simp]; exact postv1 rs (.bl _) q⟩
  · cases hx; cases hy
    exact op_eq pins s σ H _ _ v u Q I rx ry ⟨rfl, by rw [show ∀ a b : Str, decide (V.str a = V.str b) = decide (a = b) from fun a b => by simp]; exact postv1 rs (.bl _) q⟩
  · cases hx; cases hy
    exact op_eq pins s σ H _ _ v u Q I rx ry ⟨rfl, by rw [show ∀ a b : Bool, decide (V.bl a = V.bl b) = decide (a = b) from fun a b => by simp]; exact postv1 rs (.bl _) q⟩
  · exact og_eqD hu pins s σ H x y v u Q I rx ry ⟨as, st, _, _, rs, hx, hy, q⟩
theorem og_ne (hu : X.A.units + 64 < cLine) : OpR X (compareOp .NotEq) (rOf X.K fNe) := by
  intro pins s σ H x y v u Q I rx ry ⟨as, st, dx, dy, rs, hx, hy, q⟩
  unfold fNe at q
  split at q
  · cases hx; cases hy
    exact op_ne pins s σ H _ _ v u Q I rx ry ⟨rfl, by rw [show ∀ a b : Int, decide (V.int a = V.int b) = decide (a = b) from fun a b => by simp]; exact postv1 rs (.bl _) q⟩
  · cases hx; cases hy
    exact op_ne pins s σ H _ _ v u Q I rx ry ⟨rfl, by rw [show ∀ a b : Str, decide (V.str a = V.str b) = decide (a = b) from fun a b => by simp]; exact postv1 rs (.bl _) q⟩
  · cases hx; cases hy
    exact op_ne pins s σ H _ _ v u Q I rx ry ⟨rfl, by rw [show ∀ a b : Bool, decide (V.bl a = V.bl b) = decide (a = b) from fun a b => by simp]; exact postv1 rs (.bl _) q⟩
  · exact og_neD hu pins s σ H x y v u Q I rx ry ⟨as, st, _, _, rs, hx, hy, q⟩
/-- ints in -/
theorem og_int {f : Value → Value → Sem Value} {g : Int → Int → D} {g' : Int → Int → V} (ho : OpR X f (rI0 g')) (hr : ∀ as H i j, RV X.K as H (g' i j) (g i j)) : OpR X f (rOf X.K (fInt g)) := by
  intro pins s σ H x y v u Q I rx ry ⟨as, st, dx, dy, rs, hx, hy, q⟩
  unfold fInt at q
  split at q
  · cases hx; cases hy
    exact ho pins s σ H _ _ v u Q I rx ry ⟨_, _, rfl, rfl, postv1 rs (hr _ _ _ _) q⟩
  · exact q.elim
theorem og_intC {f : Value → Value → Sem Value} {C : Int → Int → Bool} {C' : Int → Int → Prop} {g : Int → Int → D} {g' : Int → Int → V} (ho : OpR X f (rI C' g')) (hc : ∀ i j, C i j = true → C' i j) (hr : ∀ as H i j, RV X.K as H (g' i j) (g i j)) : OpR X f (rOf X.K (fIntC C g)) := by
  intro pins s σ H x y v u Q I rx ry ⟨as, st, dx, dy, rs, hx, hy, q⟩
  unfold fIntC at q
  split at q
  · cases hx; cases hy
    split at q
    · exact ho pins s σ H _ _ v u Q I rx ry ⟨_, _, rfl, rfl, hc _ _ ‹_›, postv1 rs (hr _ _ _ _) q⟩
    · exact q.elim
  · exact q.elim
theorem og_lt : OpR X (compareOp .Lt) (rOf X.K fLt) := og_int op_lt fun _ _ _ _ => .bl _
theorem og_le : OpR X (compareOp .LtE) (rOf X.K fLe) := og_int op_le fun _ _ _ _ => .bl _
theorem og_gt : OpR X (compareOp .Gt) (rOf X.K fGt) := og_int op_gt fun _ _ _ _ => .bl _
theorem og_ge : OpR X (compareOp .GtE) (rOf X.K fGe) := og_int op_ge fun _ _ _ _ => .bl _
theorem og_sub : OpR X (binaryOp .Sub) (rOf X.K fSub) := og_int op_sub fun _ _ _ _ => .int _
theorem og_xor : OpR X (binaryOp .BitXor) (rOf X.K fXor) := og_int op_xor fun _ _ _ _ => .int _
theorem og_and : OpR X (binaryOp .BitAnd) (rOf X.K fAnd) := og_int op_and fun _ _ _ _ => .int _
theorem og_or : OpR X (binaryOp .BitOr) (rOf X.K fOr) := og_int op_or fun _ _ _ _ => .int _
theorem og_div : OpR X (binaryOp .FloorDiv) (rOf X.K fDiv) := og_intC op_fdiv (fun i j h => by simpa [CDiv] using h) fun _ _ _ _ => .int _
theorem og_mod : OpR X (binaryOp .Mod) (rOf X.K fMod) := og_intC op_mod (fun i j h => by simpa using h) fun _ _ _ _ => .int _
theorem cpow_ok (i j : Int) (h : cPow i j = true) : CPow i j := by
  simp only [cPow, Bool.and_eq_true, decide_eq_true_eq] at h
  exact ⟨h.1, h.2.1, by have := h.2.2; omega⟩
theorem og_pow : OpR X (binaryOp .Pow) (rOf X.K fPow) := og_intC op_pow cpow_ok fun _ _ _ _ => .int _
theorem og_shl : OpR X (binaryOp .LShift) (rOf X.K fShl) := og_intC op_shl cpow_ok fun _ _ _ _ => .int _
theorem og_shr : OpR X (binaryOp .RShift) (rOf X.K fShr) := og_intC op_shr (fun i j h => by simpa using h) fun _ _ _ _ => .int _
theorem cmul_ok (i j : Int) (h : cMul i j = true) : CMul i j := by
  simp only [cMul, Bool.or_eq_true, decide_eq_true_eq] at h
  rcases h with h | h
  · exact .inl ⟨by omega, by omega⟩
  · exact .inr ⟨by omega, by omega⟩
theorem RVs.flat {K : PySem.W.Frag} {as : List Addr} {H : Hp} {vs : List V} {ds : List D} (r : RVs K as H vs ds) : ∀ k : Nat, RVs K as H (List.replicate k vs).flatten (List.replicate k ds).flatten
  | 0 => .nil
  | k + 1 => by
    rw [List.replicate_succ, List.replicate_succ, List.flatten_cons, List.flatten_cons]
    exact r.append (RVs.flat r k)
theorem RVs.nil_iff {K : PySem.W.Frag} {as : List Addr} {H : Hp} {vs : List V} {ds : List D} (r : RVs K as H vs ds) : vs = [] ↔ ds = [] := by
  cases r <;> simp
theorem og_mul : OpR X (binaryOp .Mult) (rOf X.K fMul) := by
  intro pins s σ H x y v u Q I rx ry ⟨as, st, dx, dy, rs, hx, hy, q⟩
  unfold fMul at q
  split at q
  · cases hx; cases hy
    split at q
    · exact op_mul pins s σ H _ _ v u Q I rx ry ⟨_, _, rfl, rfl, cmul_ok _ _ ‹_›, postv1 rs (.int _) q⟩
    · exact q.elim
  · cases hy
    cases hx with
    | @tup a ys _ h r =>
      split at q
      · rename_i hc
        refine op_repT pins s σ H _ _ v u Q I rx ry ⟨_, _, _, rfl, rfl, SqT.of h, fun e => hc.1 (r.nil_iff.mp e), hc.2.1, hc.2.2.1, by rw [r.length]; exact hc.2.2.2, fun p hp => ?_⟩
        exact q _ _ as (Stp.new hp) (rs.new hp) (.tup upd_same ((r.flat _).mono (Stp.new hp)))
      · split at q <;> exact q.elim
  · cases hy
    split at q
    · rename_i xs hx'
      obtain ⟨a, rfl, ha, ys, ey, r⟩ := rs.obj hx hx'
      split at q
      · rename_i hc
        refine op_rep pins s σ H _ _ v u Q I rx ry ⟨_, _, _, rfl, rfl, ey, by omega, by omega, by rw [r.length, sizeLine_eq]; exact hc.2.2, fun p hp => ?_⟩
        exact q _ _ (as ++ [p]) (Stp.alloc hp) (rs.alloc hp ⟨_, upd_same, (r.flat _).mono (Stp.alloc hp)⟩) (.obj (by rw [← rs.len, List.getElem?_append_right (Nat.le_refl _), Nat.sub_self]; rfl))
      · exact q.elim
    · exact q.elim
  · exact q.elim
theorem newAt {K : PySem.W.Frag} {as : List Addr} {H H' : Hp} {st : Sto} {p : Addr} (rs : RS K as H st) : RV K (as ++ [p]) H' (.ref p) (.obj st.length) :=
  .obj (by rw [← rs.len, List.getElem?_append_right (Nat.le_refl _), Nat.sub_self]; rfl)
theorem og_add : OpR X (binaryOp .Add) (rOf X.K fAdd) := by
  intro pins s σ H x y v u Q I rx ry ⟨as, st, dx, dy, rs, hx, hy, q⟩
  unfold fAdd at q
  split at q
  · cases hx; cases hy
    exact op_add pins s σ H _ _ v u Q I rx ry ⟨_, _, rfl, rfl, postv1 rs (.int _) q⟩
  · cases hx; cases hy
    split at q
    · exact op_add_str pins s σ H _ _ v u Q I rx ry ⟨_, _, rfl, rfl, by rw [sizeLine_eq]; assumption, postv1 rs (.str _) q⟩
    · exact q.elim
  · cases hx with
    | @tup a xs _ h r =>
    cases hy with
    | @tup b ys _ h2 r2 =>
      split at q
      · rename_i hl
        refine op_catA pins s σ H _ _ v u Q I rx ry ⟨_, _, _, _, rfl, rfl, SqT.of h, SqT.of h2, by rw [r.length, r2.length, sizeLine_eq]; exact hl, fun e => ?_, fun e e2 => ?_, fun e e2 p hp => ?_⟩
        · have e' := r.nil_iff.mp e
          rw [e', List.nil_append] at q
          exact postv1 rs (.tup h2 r2) q
        · have e' := r2.nil_iff.mp e2
          rw [e', List.append_nil] at q
          exact postv1 rs (.tup h r) q
        · exact q _ _ as (Stp.new hp) (rs.new hp) (.tup upd_same ((r.append r2).mono (Stp.new hp)))
      · exact q.elim
  · split at q
    · rename_i xs ys h1 h2
      obtain ⟨a, rfl, ha, ws, ew, r⟩ := rs.obj hx h1
      obtain ⟨b, rfl, hb, zs, ez, r2⟩ := rs.obj hy h2
      split at q
      · rename_i hl
        refine op_cat pins s σ H _ _ v u Q I rx ry ⟨_, _, _, _, rfl, rfl, ew, ez, by rw [r.length, r2.length, sizeLine_eq]; exact hl, fun p hp => ?_⟩
        exact q _ _ (as ++ [p]) (Stp.alloc hp) (rs.alloc hp ⟨_, upd_same, (r.append r2).mono (Stp.alloc hp)⟩) (newAt rs)
      · exact q.elim
    · exact q.elim
  · exact q.elim
end
end Gv
namespace Gv
open PySem PySem.Spec L2

mutual
def beqD : D → D → Bool
  | .non, .non => true
  | .bl a, .bl b => a == b
  | .int a, .int b => a == b
  | .str a, .str b => decide (a = b)
  | .tup a, .tup b => beqDs a b
  | .obj a, .obj b => a == b
  | _, _ => false
def beqDs : List D → List D → Bool
  | [], [] => true
  | a :: as, b :: bs => beqD a b && beqDs as bs
  | _, _ => false
end
mutual
theorem beqD_eq : ∀ {a b : D}, beqD a b = true → a = b
  | .non, b, h => by cases b <;> simp_all [beqD]
  | .bl x, b, h => by cases b <;> simp_all [beqD]
  | .int x, b, h => by cases b <;> simp_all [beqD]
  | .str x, b, h => by cases b <;> simp_all [beqD]
  | .tup xs, b, h => by
    cases b with
    | tup ys => rw [beqDs_eq (a := xs) (b := ys) (by simpa [beqD] using h)]
    | _ => simp [beqD] at h
  | .obj x, b, h => by cases b <;> simp_all [beqD]
theorem beqDs_eq : ∀ {a b : List D}, beqDs a b = true → a = b
  | [], [], _ => rfl
  | [], _ :: _, h => by simp [beqDs] at h
  | _ :: _, [], h => by simp [beqDs] at h
  | x :: xs, y :: ys, h => by
    simp only [beqDs, Bool.and_eq_true] at h
    rw [beqD_eq h.1, beqDs_eq h.2]
end
mutual
theorem beqD_self : ∀ a : D, beqD a a = true
  | .non => rfl
  | .bl x => by simp [beqD]
  | .int x => by simp [beqD]
  | .str x => by simp [beqD]
  | .tup xs => by simp [beqD, beqDs_self xs]
  | .obj x => by simp [beqD]
theorem beqDs_self : ∀ a : List D, beqDs a a = true
  | [] => rfl
  | x :: xs => by simp [beqDs, beqD_self x, beqDs_self xs]
end
def beqO : Ob → Ob → Bool
  | .lst a, .lst b => beqDs a b
  | .fls a, .fls b => beqDs a b
  | .dK a, .dK b => decide (a.map (·.1) = b.map (·.1)) && beqDs (a.map (·.2)) (b.map (·.2))
  | .dT a, .dT b => decide (a.map (·.1) = b.map (·.1)) && beqDs (a.map (·.2)) (b.map (·.2))
  | _, _ => false
theorem map_pair_eq {κ : Type} : ∀ {a b : List (κ × D)}, a.map (·.1) = b.map (·.1) → a.map (·.2) = b.map (·.2) → a = b
  | [], [], _, _ => rfl
  | [], _ :: _, h, _ => by simp at h
  | _ :: _, [], h, _ => by simp at h
  | (k, v) :: a, (k', v') :: b, h, h' => by
    simp only [List.map_cons, List.cons.injEq] at h h'
    obtain ⟨rfl, h⟩ := h
    obtain ⟨rfl, h'⟩ := h'
    rw [map_pair_eq h h']
theorem beqO_eq : ∀ {a b : Ob}, beqO a b = true → a = b := by
  intro a b h
  cases a <;> cases b <;> simp only [beqO, Bool.and_eq_true, decide_eq_true_eq, Bool.false_eq_true] at h
  · rw [beqDs_eq h]
  · rw [beqDs_eq h]
  · rw [map_pair_eq h.1 (beqDs_eq h.2)]
  · rw [map_pair_eq h.1 (beqDs_eq h.2)]
theorem beqO_self (a : Ob) : beqO a a = true := by
  cases a <;> simp [beqO, beqDs_self]
def beqS : Sto → Sto → Bool
  | [], [] => true
  | a :: as, b :: bs => beqO a b && beqS as bs
  | _, _ => false
theorem beqS_eq : ∀ {a b : Sto}, beqS a b = true → a = b
  | [], [], _ => rfl
  | [], _ :: _, h => by simp [beqS] at h
  | _ :: _, [], h => by simp [beqS] at h
  | x :: xs, y :: ys, h => by
    simp only [beqS, Bool.and_eq_true] at h
    rw [beqO_eq h.1, beqS_eq h.2]
theorem beqS_self : ∀ a : Sto, beqS a a = true
  | [] => rfl
  | x :: xs => by simp [beqS, beqO_self x, beqS_self xs]

/-! ### dropping what no one holds -/
mutual
def D.cl (n : Nat) : D → Bool
  | .tup xs => clDs n xs
  | .obj i => decide (i < n)
  | _ => true
def clDs (n : Nat) : List D → Bool
  | [] => true
  | x :: xs => x.cl n && clDs n xs
end
/-- what was made and is not handed on goes, where all that stood is as it was -/
def gc {α : Type} (cl : Nat → α → Bool) (st : Sto) (r : Re α) : Re α := match r with
  | .ok x s => if cl st.length x = true ∧ beqS (s.take st.length) st = true then .ok x st else .ok x s
  | .er e s => if e.code.cl st.length = true ∧ e.place.cl st.length = true ∧ beqS (s.take st.length) st = true then .er e st else .er e s
  | .no => .no
abbrev gcD : Sto → Re D → Re D := gc D.cl
section
variable {K : PySem.W.Frag} {T : Nat → Addr} {as as' : List Addr} {H H' : Hp} {st s : Sto} {W : WX} {σ : L2.St}
mutual
theorem RV.cut {n : Nat} : ∀ {d : D} {v : V}, RV K as H v d → d.cl n = true → RV K (as.take n) H v d
  | .non, _, .non, _ => .non
  | .bl _, _, .bl b, _ => .bl b
  | .int _, _, .int i, _ => .int i
  | .str _, _, .str i, _ => .str i
  | .tup _, _, .tup h r, e => .tup h (RVs.cut r (by simpa [D.cl] using e))
  | .obj i, _, .obj h, e => .obj (by
      have e : i < n := by simpa [D.cl] using e
      rw [List.getElem?_take_of_lt e]
      exact h)
theorem RVs.cut {n : Nat} : ∀ {ds : List D} {vs : List V}, RVs K as H vs ds → clDs n ds = true → RVs K (as.take n) H vs ds
  | [], _, .nil, _ => .nil
  | _ :: _, _, .cons h r, e => by
    simp only [clDs, Bool.and_eq_true] at e
    exact .cons (RV.cut h e.1) (RVs.cut r e.2)
end
mutual
theorem RV.closed : ∀ {d : D} {v : V}, RV K as H v d → d.cl as.length = true
  | .non, _, .non => rfl
  | .bl _, _, .bl b => rfl
  | .int _, _, .int i => rfl
  | .str _, _, .str i => rfl
  | .tup _, _, .tup h r => by simp [D.cl, RVs.closed r]
  | .obj i, _, .obj h => by simp [D.cl, (List.getElem?_eq_some_iff.mp h).1]
theorem RVs.closed : ∀ {ds : List D} {vs : List V}, RVs K as H vs ds → clDs as.length ds = true
  | [], _, .nil => rfl
  | _ :: _, _, .cons h r => by simp [clDs, RV.closed h, RVs.closed r]
end
theorem RKs.cut {κ : Type} {n : Nat} : ∀ {xs : List (κ × V)} {ys ys' : List (κ × D)}, RKs K as H xs ys → (∀ p ∈ ys, p.2.cl n = true) → RKs K (as.take n) H xs ys
  | _, _, _, .nil, _ => .nil
  | _, _, ys', .cons h r, e => .cons ⟨h.1, RV.cut h.2 (e _ List.mem_cons_self)⟩ (RKs.cut (ys' := ys') r fun p hp => e p (List.mem_cons_of_mem _ hp))
theorem RKs.closed {κ : Type} : ∀ {xs : List (κ × V)} {ys : List (κ × D)}, RKs K as H xs ys → ∀ p ∈ ys, p.2.cl as.length = true
  | _, _, .nil, p, hp => by cases hp
  | _, _, .cons h r, p, hp => by
    rcases List.mem_cons.mp hp with rfl | hp
    · exact h.2.closed
    · exact RKs.closed r p hp
/-- the store cut back to what it was -/
theorem RS.cut (r0 : RS K as H st) (p : Stp as H as' H') (r : RS K as' H' s) (e : s.take st.length = st) : RS K as H' st := by
  obtain ⟨⟨ex, rfl, _⟩, _⟩ := p
  have hl := r0.len
  have get : ∀ i o, st[i]? = some o → s[i]? = some o ∧ i < st.length := fun i o h => by
    have hi := (List.getElem?_eq_some_iff.mp h).1
    rw [← e, List.getElem?_take_of_lt hi] at h
    exact ⟨h, hi⟩
  have tk : (as ++ ex).take st.length = as := by rw [← hl, List.take_left']; rfl
  refine ⟨hl, r0.inj, fun i o h => ?_⟩
  obtain ⟨h1, hi⟩ := get i o h
  obtain ⟨a0, e0, ro0⟩ := r0.ob i o h
  obtain ⟨a, e1, ro⟩ := r.ob i o h1
  rw [List.getElem?_append_left (by omega), e0] at e1
  cases e1
  refine ⟨a0, e0, ?_⟩
  cases o with
  | lst ds =>
    obtain ⟨xs, ex', rx⟩ := ro
    obtain ⟨ys, _, ry⟩ := ro0
    exact ⟨xs, ex', by rw [← tk]; exact rx.cut (by rw [← hl]; exact ry.closed)⟩
  | fls ds =>
    obtain ⟨xs, ex', rx⟩ := ro
    obtain ⟨ys, _, ry⟩ := ro0
    exact ⟨xs, ex', by rw [← tk]; exact rx.cut (by rw [← hl]; exact ry.closed)⟩
  | dK ds =>
    obtain ⟨xs, ex', rx⟩ := ro
    obtain ⟨ys, _, ry⟩ := ro0
    exact ⟨xs, ex', by rw [← tk]; exact rx.cut (ys' := ds) (by rw [← hl]; exact ry.closed)⟩
  | dT ds =>
    obtain ⟨xs, ex', rx⟩ := ro
    obtain ⟨ys, _, ry⟩ := ro0
    exact ⟨xs, ex', by rw [← tk]; exact rx.cut (ys' := ds) (by rw [← hl]; exact ry.closed)⟩
theorem Stp.back (p : Stp as H as' H') : Stp as H as H' := ⟨⟨[], (List.append_nil _).symm, fun _ h => nomatch h⟩, p.tup, p.fr, p.lv⟩
theorem Stp.tk (r0 : RS K as H st) (p : Stp as H as' H') : as'.take st.length = as := by
  obtain ⟨⟨ex, rfl, _⟩, _⟩ := p
  rw [← r0.len, List.take_left']
  rfl
theorem Post.gc {α β : Type} {rel : List Addr → Hp → β → α → Prop} {cl : Nat → α → Bool} {r : Re α} {Q : β → Hp → Prop} (rs : RS K as H st) (hc : ∀ n as H v x, rel as H v x → cl n x = true → rel (as.take n) H v x) (h : Post K T rel W σ as H (gc cl st r) Q) : Post K T rel W σ as H r Q := by
  cases r with
  | no => exact h
  | ok x s =>
    simp only [Gv.gc] at h
    split at h
    · rename_i c
      intro v H' as' p rs' rv
      refine h v H' as p.back (rs.cut p rs' (beqS_eq c.2)) ?_
      have := hc st.length as' H' v x rv c.1
      rw [p.tk rs] at this
      exact this
    · exact h
  | er e s =>
    simp only [Gv.gc] at h
    split at h
    · rename_i c
      intro cls dx H' as' p rs' rx
      refine h cls dx H' as p.back (rs.cut p rs' (beqS_eq c.2.2)) ?_
      obtain ⟨e1, d, vc, vp, e2, e3, r1, r2⟩ := rx
      have k1 := r1.cut c.1
      have k2 := r2.cut c.2.1
      rw [p.tk rs] at k1 k2
      exact ⟨e1, d, vc, vp, e2, e3, k1, k2⟩
    · exact h
end
/-- an expression behind which the store is cleared -/
def dGC (a : ED) : ED := fun en st => gcD st (a en st)
def bGC (a : BD) : BD := fun en st => gc (fun _ _ => true) st (a en st)
section
variable {X : Cx} {T : Nat → Addr} {W : WX} {e : Expr} {d : ED} {b : BD}
theorem g_gc (h : PE X e (tE X.K T W d)) : PE X e (tE X.K T W (dGC d)) := pe_mono h fun σ H Q ⟨en, st, as, rs, re, q⟩ =>
  ⟨en, st, as, rs, re, Post.gc rs (fun n as H v x r c => r.cut c) q⟩
theorem gt_gc (h : PT X e (tT X.K T W b)) : PT X e (tT X.K T W (bGC b)) := pt_mono h fun σ H Q ⟨en, st, as, rs, re, q⟩ =>
  ⟨en, st, as, rs, re, Post.gc rs (fun n as H v x r c => r) q⟩
end
end Gv
namespace Gv
open PySem PySem.Spec L2

/-! ### targets: names -/
abbrev UD := D → En → Option En
def uN (i : Nat) : UD := fun d en => some (en.set i (some d))
def uT2 (i j : Nat) : UD := fun d en => match d with
  | .tup [a, b] => some ((en.set i (some a)).set j (some b))
  | _ => none
def uT3 (i j k : Nat) : UD := fun d en => match d with
  | .tup [a, b, c] => some (((en.set i (some a)).set j (some b)).set k (some c))
  | _ => none
def uT4 (i j k l : Nat) : UD := fun d en => match d with
  | .tup [a, b, c, e] => some ((((en.set i (some a)).set j (some b)).set k (some c)).set l (some e))
  | _ => none
def gOk (K : PySem.W.Frag) (vs : List Nat) (u : UD) (g : TG) : Prop := ∀ as H (σ : L2.St) en v d en' Q, RE K as H σ en → RV K as H v d → u d en = some en' → (∀ σ', RE K as H σ' en' → wipe σ' vs = wipe σ vs → Q σ' H) → g v σ H Q
theorem wipe_set (σ : L2.St) (x : Option V) (i : Nat) : ∀ vs : List Nat, i ∈ vs → wipe (σ.set i x) vs = wipe σ vs
  | [], h => by cases h
  | v :: vs, h => by
    unfold wipe
    by_cases e : i ∈ vs
    · rw [wipe_set σ x i vs e]
    · rcases List.mem_cons.mp h with rfl | h
      · have key : ∀ ws : List Nat, i ∉ ws → wipe (σ.set i x) ws = (wipe σ ws).set i x := by
          intro ws
          induction ws with
          | nil => intro _; rfl
          | cons w ws ih =>
            intro hw
            simp only [List.mem_cons, not_or] at hw
            unfold wipe
            rw [ih hw.2, List.set_comm _ _ hw.1]
        rw [key vs e, List.set_set]
      · exact absurd h e
theorem gok_n {K : PySem.W.Frag} {i : Nat} : gOk K [i] (uN i) (gName i) := by
  intro as H σ en v d en' Q re rv e q
  cases e
  exact q _ (re.set rv) (wipe_set _ _ _ _ (by simp))
theorem gok_t2 {K : PySem.W.Frag} {i j : Nat} : gOk K [i, j] (uT2 i j) (gTup K 2 (gCons (gName i) (gCons (gName j) gNil))) := by
  intro as H σ en v d en' Q re rv e q
  unfold uT2 at e
  split at e
  · cases e
    cases rv with
    | @tup a xs _ h r =>
    cases r with
    | @cons x1 _ _ _ r1 r =>
    cases r with
    | @cons x2 _ _ _ r2 r =>
    cases r
    refine ⟨a, [x1, x2], rfl, SqT.of h, rfl, x1, [x2], rfl, x2, [], rfl, rfl, ?_⟩
    exact q _ ((re.set r1).set r2) (by rw [wipe_set _ _ _ _ (by simp), wipe_set _ _ _ _ (by simp)])
  · cases e
theorem gok_t3 {K : PySem.W.Frag} {i j k : Nat} : gOk K [i, j, k] (uT3 i j k) (gTup K 3 (gCons (gName i) (gCons (gName j) (gCons (gName k) gNil)))) := by
  intro as H σ en v d en' Q re rv e q
  unfold uT3 at e
  split at e
  · cases e
    cases rv with
    | @tup a xs _ h r =>
    cases r with
    | @cons x1 _ _ _ r1 r =>
    cases r with
    | @cons x2 _ _ _ r2 r =>
    cases r with
    | @cons x3 _ _ _ r3 r =>
    cases r
    refine ⟨a, [x1, x2, x3], rfl, SqT.of h, rfl, x1, [x2, x3], rfl, x2, [x3], rfl, x3, [], rfl, rfl, ?_⟩
    exact q _ (((re.set r1).set r2).set r3) (by rw [wipe_set _ _ _ _ (by simp), wipe_set _ _ _ _ (by simp), wipe_set _ _ _ _ (by simp)])
  · cases e
theorem gok_t4 {K : PySem.W.Frag} {i j k l : Nat} : gOk K [i, j, k, l] (uT4 i j k l) (gTup K 4 (gCons (gName i) (gCons (gName j) (gCons (gName k) (gCons (gName l) gNil))))) := by
  intro as H σ en v d en' Q re rv e q
  unfold uT4 at e
  split at e
  · cases e
    cases rv with
    | @tup a xs _ h r =>
    cases r with
    | @cons x1 _ _ _ r1 r =>
    cases r with
    | @cons x2 _ _ _ r2 r =>
    cases r with
    | @cons x3 _ _ _ r3 r =>
    cases r with
    | @cons x4 _ _ _ r4 r =>
    cases r
    refine ⟨a, [x1, x2, x3, x4], rfl, SqT.of h, rfl, x1, [x2, x3, x4], rfl, x2, [x3, x4], rfl, x3, [x4], rfl, x4, [], rfl, rfl, ?_⟩
    exact q _ ((((re.set r1).set r2).set r3).set r4) (by rw [wipe_set _ _ _ _ (by simp), wipe_set _ _ _ _ (by simp), wipe_set _ _ _ _ (by simp), wipe_set _ _ _ _ (by simp)])
  · cases e

/-! ### what is walked -/
structure ItD where
  items : List D
  gd : Option (Nat × List D)
def ItD.ok (it : ItD) (k : Nat) (st : Sto) : Bool := match it.gd with
  | none => true
  | some (i, xs) => match (st[i]?).bind Ob.seq with
    | some ys => match xs[k]?, ys[k]? with
      | some x, some y => beqD y x
      | none, none => true
      | _, _ => false
    | none => false
structure JR (K : PySem.W.Frag) (as0 : List Addr) (H0 : Hp) (J : It) (it : ItD) : Prop where
  go : ∀ i as H st, Stp as0 H0 as H → RS K as H st → it.ok i st = true → ∀ d, it.items[i]? = some d → J.go i H ∧ ∀ x H', J.yld i H x H' → Stp as H as H' ∧ RS K as H' st ∧ RV K as H' x d
  stop : ∀ as H st, Stp as0 H0 as H → RS K as H st → it.ok it.items.length st = true → J.stop it.items.length H
abbrev ID := En → Sto → Re ItD
def tI (K : PySem.W.Frag) (T : Nat → Addr) (W : WX) (d : ID) : TI := fun σ H R => ∃ en st as, RS K as H st ∧ RE K as H σ en ∧ Post K T (JR K) W σ as H (d en st) R
theorem pi_mono {X : Cx} {tg e : Expr} {t t' : TI} (h : PI X tg e t) (m : ∀ σ H R, t' σ H R → t σ H R) : PI X tg e t' := ⟨fun pins s σ H R I q => h.run pins s σ H R I (m _ _ _ q)⟩
theorem pi_orT' {X : Cx} {tg e : Expr} {t t' : TI} (h : PI X tg e t) (h' : PI X tg e t') : PI X tg e (fun σ H R => t σ H R ∨ t' σ H R) := ⟨fun pins s σ H D I q => q.elim (h.run pins s σ H D I) (h'.run pins s σ H D I)⟩
/-- a list or a tuple -/
def iSeq (a : ED) : ID := fun en st => (a en st).bind fun x s1 => match x with
  | .tup xs => .ok ⟨xs, none⟩ s1
  | .obj i => match s1[i]? with
    | some (.lst xs) => .ok ⟨xs, some (i, xs)⟩ s1
    | some (.fls xs) => .ok ⟨xs, some (i, xs)⟩ s1
    | _ => .no
  | _ => .no
def rng (lo : Int) : Nat → List D
  | 0 => []
  | n + 1 => .int lo :: rng (lo + 1) n
theorem rng_len : ∀ (n : Nat) (lo : Int), (rng lo n).length = n
  | 0, _ => rfl
  | n + 1, lo => by rw [rng, List.length_cons, rng_len n]
theorem rng_get : ∀ (n : Nat) (lo : Int) (i : Nat), i < n → (rng lo n)[i]? = some (.int (lo + i))
  | 0, _, _, h => absurd h (Nat.not_lt_zero _)
  | n + 1, lo, 0, _ => by simp [rng]
  | n + 1, lo, i + 1, h => by
    rw [rng, List.getElem?_cons_succ, rng_get n (lo + 1) i (by omega)]
    congr 2
    omega
/-- range(n), range(a, b) -/
def iRg1 (a : AD) : ID := fun en st => (a en st).bind fun xs s1 => match xs with
  | [.int j] => if -4611686018427387904 ≤ j ∧ j < 4611686018427387904 then .ok ⟨rng 0 j.toNat, none⟩ s1 else .no
  | _ => .no
def iRg2 (a : AD) : ID := fun en st => (a en st).bind fun xs s1 => match xs with
  | [.int i, .int j] => if (-4611686018427387904 ≤ i ∧ i < 4611686018427387904) ∧ -4611686018427387904 ≤ j ∧ j < 4611686018427387904 then .ok ⟨rng i (j - i).toNat, none⟩ s1 else .no
  | _ => .no
section
variable {K : PySem.W.Frag} {as : List Addr} {H : Hp} {st : Sto}
theorem Sq_of {i : Nat} {a : Addr} {xs : List D} (rs : RS K as H st) (h : as[i]? = some a) (e : st[i]? = some (.lst xs) ∨ st[i]? = some (.fls xs)) : ∃ ys, SqL K H a ys ∧ RVs K as H ys xs := by
  rcases e with e | e
  · obtain ⟨ys, ey, r⟩ := rs.at' h e
    exact ⟨ys, SqL.of ey, r⟩
  · obtain ⟨ys, ey, r⟩ := rs.at' h e
    exact ⟨ys, ey.sq, r⟩
theorem jr_tup {as0 : List Addr} {H0 : Hp} {a : Addr} {ys : List V} {xs : List D} (h : H0 a = some (.tup ys)) (r : RVs K as0 H0 ys xs) : JR K as0 H0 (Itt K a) ⟨xs, none⟩ where
  go := fun i as H st p rs _ d hd => by
    have h' := p.tup _ _ h
    obtain ⟨v, hv, rv⟩ := (r.mono p).get hd
    refine ⟨⟨ys, v, SqT.of h', hv⟩, fun x H' y => ?_⟩
    obtain ⟨rfl, y⟩ := y
    have := y ys (SqT.of h')
    rw [hv] at this
    cases this
    exact ⟨Stp.refl, rs, rv⟩
  stop := fun as H st p rs _ => ⟨ys, SqT.of (p.tup _ _ h), by rw [r.length]; exact Nat.le_refl _⟩
theorem guard_at {i0 k : Nat} {xs items : List D} {a : Addr} (rs : RS K as H st) (h : as[i0]? = some a) (ok : ItD.ok ⟨items, some (i0, xs)⟩ k st = true) :
    ∃ vs, SqL K H a vs ∧ (∀ d, xs[k]? = some d → ∃ v, vs[k]? = some v ∧ RV K as H v d) ∧ (xs[k]? = none → vs.length ≤ k) := by
  simp only [ItD.ok] at ok
  cases eo : st[i0]? with
  | none => rw [eo] at ok; cases ok
  | some o =>
    rw [eo] at ok
    simp only [Option.bind_some] at ok
    cases es : o.seq with
    | none => rw [es] at ok; cases ok
    | some ys =>
      rw [es] at ok
      obtain ⟨vs, sq, r⟩ := (rs.at' h eo).seq es
      refine ⟨vs, sq, fun d hd => ?_, fun hd => ?_⟩
      · cases ey : ys[k]? with
        | none => simp [hd, ey] at ok
        | some y =>
          simp [hd, ey] at ok
          have := beqD_eq ok
          subst this
          exact r.get ey
      · cases ey : ys[k]? with
        | none => rw [r.length]; exact List.getElem?_eq_none_iff.mp ey
        | some y => simp [hd, ey] at ok
theorem jr_lst {as0 : List Addr} {H0 : Hp} {a : Addr} {i0 : Nat} {xs : List D} (h : as0[i0]? = some a) : JR K as0 H0 (Itl K a) ⟨xs, some (i0, xs)⟩ where
  go := fun i as H st p rs ok d hd => by
    obtain ⟨vs, sq, g1, _⟩ := guard_at rs (p.get h) ok
    obtain ⟨v, hv, rv⟩ := g1 d hd
    refine ⟨⟨vs, v, sq, hv⟩, fun x H' y => ?_⟩
    obtain ⟨rfl, y⟩ := y
    have := y vs sq
    rw [hv] at this
    cases this
    exact ⟨Stp.refl, rs, rv⟩
  stop := fun as H st p rs ok => by
    obtain ⟨vs, sq, _, g2⟩ := guard_at rs (p.get h) ok
    exact ⟨vs, sq, g2 (List.getElem?_eq_none (Nat.le_refl _))⟩
theorem jr_rng {as0 : List Addr} {H0 : Hp} {lo : Int} {n : Nat} : JR K as0 H0 (Itr lo n) ⟨rng lo n, none⟩ where
  go := fun i as H st p rs _ d hd => by
    have hi : i < n := by
      have := (List.getElem?_eq_some_iff.mp hd).1
      rw [rng_len] at this
      exact this
    refine ⟨hi, fun x H' y => ?_⟩
    obtain ⟨rfl, rfl⟩ := y
    rw [rng_get n lo i hi] at hd
    cases hd
    exact ⟨Stp.refl, rs, .int _⟩
  stop := fun as H st p rs _ => by
    show n ≤ (rng lo n).length
    rw [rng_len]
    exact Nat.le_refl _
end
section
variable {X : Cx} {T : Nat → Addr} {W : WX} {tg a b : Expr} {es : List Expr} {da : ED} {ds : AD} {pos p : Pos}
theorem gi_seq (ha : PE X a (tE X.K T W da)) : PI X tg a (tI X.K T W (iSeq da)) := by
  refine pi_mono (pi_orT' (pi_list ha) (pi_tup ha)) fun σ H R ⟨en, st, as, rs, re, q⟩ => ?_
  unfold iSeq at q
  cases e : da en st with
  | no => rw [e] at q; exact q.elim
  | er x s =>
    refine .inl ⟨en, st, as, rs, re, ?_⟩
    rw [e] at q ⊢
    exact q
  | ok x s1 =>
    rw [e] at q
    cases x with
    | tup xs =>
      refine .inr ⟨en, st, as, rs, re, ?_⟩
      rw [e]
      intro v H' as' p rs' rv
      cases rv with
      | @tup a ys _ h r => exact ⟨a, rfl, ⟨ys, SqT.of h⟩, q _ H' as' p rs' (jr_tup h r)⟩
    | obj i =>
      refine .inl ⟨en, st, as, rs, re, ?_⟩
      rw [e]
      dsimp only [Re.bind] at q
      split at q
      · rename_i xs hx
        intro v H' as' p rs' rv
        cases rv with
        | @obj a _ h =>
          obtain ⟨ys, sq, r⟩ := Sq_of rs' h (.inl hx)
          exact ⟨a, rfl, ⟨ys, sq⟩, q _ H' as' p rs' (jr_lst h)⟩
      · rename_i xs hx
        intro v H' as' p rs' rv
        cases rv with
        | @obj a _ h =>
          obtain ⟨ys, sq, r⟩ := Sq_of rs' h (.inr hx)
          exact ⟨a, rfl, ⟨ys, sq⟩, q _ H' as' p rs' (jr_lst h)⟩
      · exact q.elim
    | _ => exact q.elim
theorem gi_rg1 (ha : PA X [a] (tA X.K T W ds)) (hm : X.mg "range" = none) (hg : Gl X "range" := by rfl) (hs : starEach [a] X.env = [(false, eval a X.env)] := by rfl) : PI X tg (.Call (.Name "range" p) [a] [] pos) (tI X.K T W (iRg1 ds)) := by
  refine pi_mono (pi_range1 hg hm ha hs) fun σ H R ⟨en, st, as, rs, re, q⟩ => ?_
  refine ⟨en, st, as, rs, re, q.bind.imp fun vs H1 ⟨as1, s1, xs, p1, rs1, rx, q1⟩ => ?_⟩
  split at q1
  · split at q1
    · cases rx with
      | cons r1 rr =>
        cases rr
        cases r1
        exact ⟨_, rfl, by omega, by omega, q1 _ H1 as1 Stp.refl rs1 jr_rng⟩
    · exact q1.elim
  · exact q1.elim
theorem gi_rg2 (ha : PA X [a, b] (tA X.K T W ds)) (hm : X.mg "range" = none) (hg : Gl X "range" := by rfl) (hs : starEach [a, b] X.env = [(false, eval a X.env), (false, eval b X.env)] := by rfl) (hs2 : starEach [b] X.env = [(false, eval b X.env)] := by rfl) :
    PI X tg (.Call (.Name "range" p) [a, b] [] pos) (tI X.K T W (iRg2 ds)) := by
  refine pi_mono (pi_range2 hg hm ha hs hs2) fun σ H R ⟨en, st, as, rs, re, q⟩ => ?_
  refine ⟨en, st, as, rs, re, q.bind.imp fun vs H1 ⟨as1, s1, xs, p1, rs1, rx, q1⟩ => ?_⟩
  split at q1
  · split at q1
    · rename_i hc
      cases rx with
      | cons r1 rr =>
        cases rr with
        | cons r2 rr =>
          cases rr
          cases r1
          cases r2
          exact ⟨_, _, rfl, ⟨by omega, by omega, by omega, by omega⟩, q1 _ H1 as1 Stp.refl rs1 jr_rng⟩
    · exact q1.elim
  · exact q1.elim
end

/-! ### comprehensions -/
def wipeE (en : En) : List Nat → En
  | [] => en
  | v :: vs => (wipeE en vs).set v none
theorem RE.wipe {K : PySem.W.Frag} {as : List Addr} {H : Hp} {σ : L2.St} {en : En} (re : RE K as H σ en) : ∀ vs : List Nat, RE K as H (L2.wipe σ vs) (wipeE en vs)
  | [] => re
  | v :: vs => (RE.wipe re vs).unset
def compL (it : ItD) (u : UD) (c : BD) (elt : ED) (en : En) (n : Nat) : Nat → List D → Sto → Re Unit
  | k, [], st => if it.ok k st = true then .ok () st else .no
  | k, d :: ds, st => if it.ok k st = true then match u d en with
      | some en1 => (c en1 st).bind fun b s2 => if b = true then (elt en1 s2).bind fun y s3 => match s3[n]? with
            | some (.lst acc) => if acc.length < 16777216 then compL it u c elt en n (k + 1) ds (s3.set n (.lst (acc ++ [y]))) else .no
            | _ => .no
          else compL it u c elt en n (k + 1) ds s2
      | none => .no
    else .no
/-- errors out of a comprehension are not followed -/
def noEr {α : Type} (r : Re α) : Re α := match r with
  | .er _ _ => .no
  | r => r
def bYes : BD := fun _ st => .ok true st
def dLC (own : List Nat) (i : ID) (u : UD) (c : BD) (elt : ED) : ED := fun en st => (i en st).bind fun it s1 =>
  (noEr (compL it u c elt (wipeE en own) s1.length 0 it.items (s1 ++ [.lst []]))).bind fun _ s2 => .ok (.obj s1.length) s2
abbrev WF : WX := fun _ _ _ _ => False
theorem Post.wf {K : PySem.W.Frag} {T : Nat → Addr} {α β : Type} {rel : List Addr → Hp → β → α → Prop} {σ : L2.St} {as : List Addr} {H : Hp} {r : Re α} {Q : β → Hp → Prop} (h : Post K T rel WF σ as H r Q) {σ' : L2.St} : Post K T rel WF σ' as H r Q := by
  cases r with
  | ok x s => exact h
  | er e s => exact h
  | no => exact h
theorem Post.noEr {K : PySem.W.Frag} {T : Nat → Addr} {α β : Type} {rel : List Addr → Hp → β → α → Prop} {W : WX} {σ : L2.St} {as : List Addr} {H : Hp} {r : Re α} {Q : β → Hp → Prop} (h : Post K T rel W σ as H (Gv.noEr r) Q) {W' : WX} {σ' : L2.St} : Post K T rel W' σ' as H r Q := by
  cases r with
  | ok x s => exact h
  | er e s => exact h.elim
  | no => exact h
section
variable {X : Cx} {T : Nat → Addr} {W : WX} {elt tg iter : Expr} {ifs : List Expr} {scope : Scope} {own : List (Str × Nat)} {pos : Pos} {di : ID} {u : UD} {g : TG} {dc : BD} {de : ED}
theorem gts_nil : PTs X [] (tT X.K T W bYes) := ⟨fun pins s σ H Q I ⟨en, st, as, rs, re, q⟩ => pts_nil.run pins s σ H Q I (q true H as Stp.refl rs rfl)⟩
theorem gts_one {c : Expr} (h : PT X c (tT X.K T W dc)) : PTs X [c] (tT X.K T W dc) := pts_one h
/-- the turns of a comprehension -/
theorem comp_turn {K : PySem.W.Frag} {σ : L2.St} {en : En} {J : It} {it : ItD} {as1 : List Addr} {H1 : Hp} {s1 : Sto} {vs : List Nat} {Dn : Addr} {Qd : Hp → Prop} (gk : gOk K vs u g) (re : RE K as1 H1 σ en) (rs1 : RS K as1 H1 s1) (jr : JR K as1 H1 J it) (hD : H1 Dn = none)
    (q : Post K T (fun as H (_ : Unit) (_ : Unit) => as[s1.length]? = some Dn) WF σ (as1 ++ [Dn]) (upd H1 Dn (.lst [])) (compL it u dc de (wipeE en vs) s1.length 0 it.items (s1 ++ [.lst []])) fun _ H => Qd H) :
    ∃ W : Nat → Nat → Hp → Prop, (∃ m, W 0 m (upd H1 Dn (.lst []))) ∧ ∀ i m H, W i m H →
      (J.stop i H ∧ Qd H) ∨ (J.go i H ∧ ∃ Nx : Hp → Prop, (∀ H', Nx H' → ∃ m', m' < m ∧ W (i + 1) m' H') ∧ ∀ x H', J.yld i H x H' → g x (L2.wipe σ vs) H' fun σ2 H2 => L2.wipe σ2 vs = L2.wipe σ vs ∧ tT K T WF dc σ2 H2 fun b H3 =>
        if b = true then tE K T WF de σ2 H3 fun y H4 => ∃ acc, H4 Dn = some (.lst acc) ∧ acc.length < sizeLine ∧ Nx (upd H4 Dn (.lst (acc ++ [y]))) else Nx H3) := by
  have ww : ∀ σ : L2.St, L2.wipe (L2.wipe σ vs) vs = L2.wipe σ vs := by
    intro σ
    have key : ∀ (ws us : List Nat), (∀ w ∈ ws, w ∈ us) → L2.wipe (L2.wipe σ ws) us = L2.wipe σ us := by
      intro ws
      induction ws with
      | nil => intro us _; rfl
      | cons w ws ih =>
        intro us h
        show L2.wipe ((L2.wipe σ ws).set w none) us = L2.wipe σ us
        rw [show L2.wipe ((L2.wipe σ ws).set w none) us = L2.wipe (L2.wipe σ ws) us from wipe_set _ _ _ _ (h w List.mem_cons_self)]
        exact ih us fun x hx => h x (List.mem_cons_of_mem _ hx)
    exact key vs vs fun _ h => h
  have p0 : Stp as1 H1 (as1 ++ [Dn]) (upd H1 Dn (.lst [])) := Stp.alloc hD
  refine ⟨fun i m H => ∃ as st, Stp (as1 ++ [Dn]) (upd H1 Dn (.lst [])) as H ∧ RS K as H st ∧ m = it.items.length - i ∧ i ≤ it.items.length ∧
      Post K T (fun as H (_ : Unit) (_ : Unit) => as[s1.length]? = some Dn) WF σ as H (compL it u dc de (wipeE en vs) s1.length i (it.items.drop i) st) fun _ H => Qd H,
    ⟨_, as1 ++ [Dn], s1 ++ [.lst []], Stp.refl, (show RS K (as1 ++ [Dn]) (upd H1 Dn (.lst [])) (s1 ++ [Ob.lst []]) from rs1.alloc (x := Ob.lst []) hD ⟨[], upd_same, .nil⟩), rfl, Nat.zero_le _, (by rw [List.drop_zero]; exact q)⟩, ?_⟩
  rintro i m H ⟨as, st, p, rs, rfl, hi, q⟩
  have pd : as[s1.length]? = some Dn := p.get (by rw [← rs1.len, List.getElem?_append_right (Nat.le_refl _), Nat.sub_self]; rfl)
  by_cases hlt : i < it.items.length
  · have hd : it.items[i]? = some it.items[i] := List.getElem?_eq_getElem hlt
    rw [List.drop_eq_getElem_cons hlt] at q
    simp only [compL] at q
    by_cases ok : it.ok i st = true
    · rw [if_pos ok] at q
      obtain ⟨go, yld⟩ := jr.go i as H st (p0.trans p) rs ok _ hd
      refine .inr ⟨go, fun H' => ∃ as' st', Stp (as1 ++ [Dn]) (upd H1 Dn (.lst [])) as' H' ∧ RS K as' H' st' ∧ Post K T (fun as H (_ : Unit) (_ : Unit) => as[s1.length]? = some Dn) WF σ as' H' (compL it u dc de (wipeE en vs) s1.length (i + 1) (it.items.drop (i + 1)) st') fun _ H => Qd H,
        fun H' ⟨as', st', p', rs', q'⟩ => ⟨it.items.length - (i + 1), by omega, as', st', p', rs', rfl, hlt, q'⟩, fun x H' y => ?_⟩
      obtain ⟨py, rs', rx⟩ := yld x H' y
      cases eu : u it.items[i] (wipeE en vs) with
      | none => rw [eu] at q; exact q.elim
      | some en1 =>
        rw [eu] at q
        dsimp only at q
        refine gk as H' _ _ x _ en1 _ (((re.mono (p0.trans p)).mono py).wipe vs) rx eu fun σ2 re2 hw => ⟨hw.trans (ww σ), en1, st, as, rs', re2, ?_⟩
        have q0 := Post.shift q py
        have q1 := q0.bind (rel := relB)
        refine Post.imp (Post.wf q1 (σ' := σ2)) fun b H3 ⟨as3, s3, b', p3, rs3, rb, q3⟩ => ?_
        cases rb
        cases b with
        | false =>
          exact ⟨as3, s3, (p.trans py).trans p3, rs3, q3⟩
        | true =>
          rw [if_pos rfl]
          rw [if_pos rfl] at q3
          refine ⟨en1, s3, as3, rs3, re2.mono p3, Post.imp (Post.wf (q3.bind (rel := RV K))) fun y H4 ⟨as4, s4, dy, p4, rs4, ry, q4⟩ => ?_⟩
          have pd4 : as4[s1.length]? = some Dn := ((py.trans p3).trans p4).get pd
          split at q4
          · rename_i acc hacc
            split at q4
            · rename_i hl
              obtain ⟨ys, ey, r⟩ := rs4.at' pd4 hacc
              refine ⟨ys, ey, by rw [r.length, sizeLine_eq]; exact hl, as4, _, ?_, rs4.write (y := .lst (acc ++ [dy])) pd4 hacc trivial trivial ⟨ys ++ [y], upd_same, ?_⟩, Post.shift q4 (Stp.write pd4 ey trivial)⟩
              · exact (((p.trans py).trans p3).trans p4).trans (Stp.write pd4 ey trivial)
              · exact (r.append (.cons ry .nil)).mono (Stp.write pd4 ey trivial)
            · exact q4.elim
          · exact q4.elim
    · rw [if_neg ok] at q
      exact q.elim
  · have e : i = it.items.length := by omega
    subst e
    rw [List.drop_length] at q
    simp only [compL] at q
    by_cases ok : it.ok it.items.length st = true
    · rw [if_pos ok] at q
      exact .inl ⟨jr.stop as H st (p0.trans p) rs ok, q () H as Stp.refl rs pd⟩
    · rw [if_neg ok] at q
      exact q.elim
theorem g_lc (hc : X.calm = true) (hN : X.N.Nodup) (hi : PI X tg iter (tI X.K T W di)) (ok : BlkOk X.N X.env.scope scope own) (gk : gOk X.K (own.map (·.2)) u g)
    (hg : ∀ (s : Shared) (H : Hp) (C : Addr) (cl : List (Str × Addr)) (fp : List Addr), PG (X.blk s H scope (compEnvC scope cl C X.env) fp) tg g)
    (ht : ∀ (s : Shared) (H : Hp) (C : Addr) (cl : List (Str × Addr)) (fp : List Addr), PTs (X.blk s H scope (compEnvC scope cl C X.env) fp) ifs (tT X.K T WF dc))
    (he : ∀ (s : Shared) (H : Hp) (C : Addr) (cl : List (Str × Addr)) (fp : List Addr), PE (X.blk s H scope (compEnvC scope cl C X.env) fp) elt (tE X.K T WF de)) (hs : ∀ x, foldedSetIterable iter X.env x = pure x := by intro _; rfl) :
    PE X (.ListComp elt [⟨tg, iter, ifs, 0⟩] scope pos) (tE X.K T W (dLC (own.map (·.2)) di u dc de)) := by
  refine pe_mono (pe_lc hc hN hi ok hg ht he hs) fun σ H Q ⟨en, st, as, rs, re, q⟩ => ?_
  refine ⟨en, st, as, rs, re, q.bind.imp fun J H1 ⟨as1, s1, it, p1, rs1, jr, q1⟩ Dn hD => ?_⟩
  refine comp_turn gk (re.mono p1) rs1 jr hD (Qd := Q (.ref Dn)) ?_
  have q2 := Post.shift q1 (Stp.alloc (o := .lst []) hD)
  have q3 := q2.bind (rel := fun as H (_ : Unit) (_ : Unit) => as[s1.length]? = some Dn)
  refine Post.imp (Post.noEr q3) fun v H2 ⟨as2, s2, x, p2, rs2, r2, q4⟩ => ?_
  exact q4 _ H2 as2 Stp.refl rs2 (.obj r2)
theorem gs_setLc {i : Nat} {y : Str} {py spos : Pos} (hc : X.calm = true) (hN : X.N.Nodup) (hy : X.N[i]? = some y) (hyl : X.env.scope.names.lookup y = some .local)
    (hsw : swapsWith (.ListComp elt [⟨tg, iter, ifs, 0⟩] scope pos) (some (.Name y py)) spos.line X.env = pure true) (hi : PI X tg iter (tI X.K T W di)) (ok : BlkOk X.N X.env.scope scope own) (gk : gOk X.K (own.map (·.2)) u g)
    (hg : ∀ (s : Shared) (H : Hp) (C : Addr) (cl : List (Str × Addr)) (fp : List Addr), PG (X.blk s H scope (compEnvC scope cl C X.env) fp) tg g)
    (ht : ∀ (s : Shared) (H : Hp) (C : Addr) (cl : List (Str × Addr)) (fp : List Addr), PTs (X.blk s H scope (compEnvC scope cl C X.env) fp) ifs (tT X.K T WF dc))
    (he : ∀ (s : Shared) (H : Hp) (C : Addr) (cl : List (Str × Addr)) (fp : List Addr), PE (X.blk s H scope (compEnvC scope cl C X.env) fp) elt (tE X.K T WF de)) (hs : ∀ x, foldedSetIterable iter X.env x = pure x := by intro _; rfl) :
    PS X (.Assign [.Name y py] (.ListComp elt [⟨tg, iter, ifs, 0⟩] scope pos) spos) (tS X.K T W (fun en st => (dLC (own.map (·.2)) di u dc de en st).toS en fun x s1 => .nx (en.set i (some x)) s1)) := by
  refine ps_mono (ps_setLc hc hN hy hyl hsw hi ok hg ht he hs) fun D σ H ⟨en, st, as, rs, re, q⟩ => ?_
  have q0 := PostS.bind (rel := RV X.K) re q
  refine ⟨en, st, as, rs, re, (Post.bind (show Post X.K T (RV X.K) W σ as H (dLC (own.map (·.2)) di u dc de en st) _ from q0)).imp fun J H1 ⟨as1, s1, it, p1, rs1, jr, q1⟩ Dn hD => ?_⟩
  refine comp_turn gk (re.mono p1) rs1 jr hD (Qd := fun H => D.nx (σ.set i (some (.ref Dn))) H) ?_
  have q2 := Post.shift q1 (Stp.alloc (o := .lst []) hD)
  have q3 := q2.bind (rel := fun as H (_ : Unit) (_ : Unit) => as[s1.length]? = some Dn)
  refine Post.imp (Post.noEr q3) fun v H2 ⟨as2, s2, x, p2, rs2, r2, q4⟩ => ?_
  obtain ⟨as5, s5, x5, p5, rs5, r5, re5, q5⟩ := q4 _ H2 as2 Stp.refl rs2 (.obj r2)
  exact q5 _ H2 as5 Stp.refl rs5 (re5.set r5)
end
end Gv
namespace Gv
open PySem PySem.Spec L2

/-! ### defs -/
abbrev FnD := List D → Sto → Re D
def dFn (n ar : Nat) (body : SD) : FnD := fun ds st => if ds.length = ar then match body (ds.map some ++ List.replicate (n - ar) none) st with
    | .rt d s => .ok d s
    | .nx _ s => .ok .non s
    | .er e _ s => .er e s
    | _ => .no
  else .no
def spD (K : PySem.W.Frag) (T : Nat → Addr) (ar : Nat) (f : FnD) : Sp := fun vs H Q E => vs.length = ar ∧ ∃ ds st as, RS K as H st ∧ RVs K as H vs ds ∧ Post K T (RV K) (fun cls d _ H => E cls d H) [] as H (f ds st) Q
/-- a def does what f says -/
structure GF (P : Program) (w : World) (K : PySem.W.Frag) (mg : Str → Option Value) (base : Heap) (T : Nat → Addr) (k : Nat) (fa : Addr) (fd : FuncData) (ps : List Str) (f : FnD) : Prop where
  ok : FnOk P w K mg base (L2.CX P w) k fa fd ps (spD K T ps.length f)
  len : ∀ ds st, ds.length ≠ ps.length → f ds st = .no
theorem dFn_len {n ar : Nat} {body : SD} : ∀ ds st, ds.length ≠ ar → dFn n ar body ds st = .no := fun ds st h => if_neg h
theorem RVs.start {K : PySem.W.Frag} {as : List Addr} {H : Hp} : ∀ {vs : List V} {ds : List D} {i : Nat} {d : D} {k : Nat}, RVs K as H vs ds → (ds.map some ++ List.replicate k none)[i]? = some (some d) → ∃ v, (vs.map some ++ List.replicate k none)[i]? = some (some v) ∧ RV K as H v d
  | _, _, i, d, k, .nil, h => by
    rw [List.map_nil, List.nil_append, List.getElem?_replicate] at h
    split at h <;> cases h
  | _, _, 0, d, k, .cons h r, e => by
    simp only [List.map_cons, List.cons_append, List.getElem?_cons_zero, Option.some.injEq] at e
    subst e
    exact ⟨_, rfl, h⟩
  | _, _, i + 1, d, k, .cons h r, e => by
    simp only [List.map_cons, List.cons_append, List.getElem?_cons_succ] at e
    obtain ⟨v, e1, e2⟩ := RVs.start (i := i) r e
    exact ⟨v, by simpa using e1, e2⟩
section
variable {P : Program} {w : World} {K : PySem.W.Frag} {mg : Str → Option Value} {base : Heap} {T : Nat → Addr}
abbrev WE0 (E : XK) : WX := fun cls d _ H => E cls d H
/-- THE RULE for a def by its body -/
theorem g_fn {x qual : Str} {st : Stmt} {f : Addr} {fd : FuncData} {N ps : List Str} {k : Nat} {sd : SD} (F : Fun K x qual st f fd) (S : FnScope N ps (defScope st))
    (hbody : ∀ (cdv : Value) (A : Around) (outer : List Env) (s : Shared) (H : Hp) (E : XK), Room k (A.deeper (PyProof.Rows.envOfC qual (defScope st) s.heap.objs.size f cdv)) →
      Takes (cxOf (L2.CX P w) P w K mg base N qual (defScope st) f cdv A outer s H E) (WE0 E) → PassesOwn (model P w) (A.deeper (PyProof.Rows.envOfC qual (defScope st) s.heap.objs.size f cdv)) (PyProof.Rows.envOfC qual (defScope st) s.heap.objs.size f cdv) (cxOf (L2.CX P w) P w K mg base N qual (defScope st) f cdv A outer s H E).xe →
      PSs (cxOf (L2.CX P w) P w K mg base N qual (defScope st) f cdv A outer s H E) (defBody st) (tS K T (WE0 E) sd)) : GF P w K mg base T (k + 1) f fd ps (dFn N.length ps.length sd) := by
  refine ⟨F.okX S (fun vs H Q E h => h.1) (fun cdv A outer s H vs Q E hr h => ⟨_, hbody cdv A outer s H E hr (takes_of rfl rfl rfl rfl) (passes_of rfl), ?_⟩), dFn_len⟩
  obtain ⟨hl, ds, st0, as, rs, rx, q⟩ := h
  have hd : ds.length = ps.length := by rw [← rx.length]; exact hl
  refine ⟨ds.map some ++ List.replicate (N.length - ps.length) none, st0, as, rs, ⟨?_, fun i d e => ?_⟩, ?_⟩
  · unfold L2.start
    simp only [List.length_append, List.length_map, List.length_replicate, hl, hd]
  · unfold L2.start
    rw [hl]
    exact rx.start e
  · unfold dFn at q
    rw [if_pos hd] at q
    cases e : sd (ds.map some ++ List.replicate (N.length - ps.length) none) st0 with
    | nx en s' => rw [e] at q; exact fun σ' H' as' p rs' re => q .non H' as' p rs' .non
    | rt d s' => rw [e] at q; exact q
    | bk en s' => rw [e] at q; exact q.elim
    | ct en s' => rw [e] at q; exact q.elim
    | er x en s' => rw [e] at q; exact fun cls dx σ' H' as' p rs' re rx => q cls dx H' as' p rs' rx
    | no => rw [e] at q; exact q.elim
/-- a def of which nothing is known -/
theorem g_zero {f : Addr} {fd : FuncData} {ps : List Str} : GF P w K mg base T 0 f fd ps (fun _ _ => .no) :=
  ⟨⟨fun vs H Q E h => h.1, fun A outer s H args us vs Q E _ _ _ _ h => by
    obtain ⟨_, ds, st, as, _, _, q⟩ := h
    exact q.elim⟩, fun _ _ _ => rfl⟩
theorem GF.mono {j k : Nat} {f : Addr} {fd : FuncData} {ps : List Str} {d : FnD} (g : GF P w K mg base T j f fd ps d) (h : j ≤ k) : GF P w K mg base T k f fd ps d := ⟨g.ok.mono h, g.len⟩
end
def dCall (f : FnD) (a : AD) : ED := fun en st => gcD st ((a en st).bind fun xs s1 => f xs s1)
section
variable {X : Cx} {T : Nat → Addr} {W : WX}
theorem g_call {k : Nat} {fa : Addr} {fd : FuncData} {ps : List Str} {f : FnD} {x : Str} {p pos : Pos} {e : Expr} {es : List Expr} {da : AD} (F : GF X.prog X.w X.K X.mg X.base T k fa fd ps f) (hr : Room k X.A) (tk : Takes X W) (hm : X.mg x = some (.ref fa)) (hk : PySem.W.keepIn X.K (.ref fa) = true) (hb : Binds X.K fd ps [])
    (ha : PA X (e :: es) (tA X.K T W da)) (hg : Gl X x := by rfl) (hdb : (x == ("__debug__" : Str)) = false := by decide) (he : starEach (e :: es) X.env = (false, eval e X.env) :: starEach es X.env := by rfl) (hpl : (backTo pos (starEach es X.env)).any (·.1) = false := by rfl) :
    PE X (.Call (.Name x p) (e :: es) [] pos) (tE X.K T W (dCall f da)) := by
  refine pe_mono (pe_callS F.ok hr hg hm hk hb (fun σ => passAt tk σ) ha hdb he hpl) fun σ H Q ⟨en, st, as, rs, re, q⟩ => ?_
  have q0 := Post.gc rs (fun n as H v x r c => r.cut c) q
  refine ⟨en, st, as, rs, re, q0.bind.imp fun vs H1 ⟨as1, s1, xs, p1, rs1, rx, q1⟩ => ?_⟩
  by_cases hl : xs.length = ps.length
  · refine ⟨by rw [rx.length]; exact hl, xs, s1, as1, rs1, rx, ?_⟩
    cases e : f xs s1 with
    | ok a b => rw [e] at q1; exact q1
    | er a b => rw [e] at q1; exact q1
    | no => rw [e] at q1; exact q1
  · rw [F.len xs s1 hl] at q1
    exact q1.elim
/-- built-ins -/
theorem g_callB {id : String} {f : FN} {x : Str} {p pos : Pos} {e : Expr} {es : List Expr} {da : AD} (hc : CallR X (.builtin id) (cOf X.K f)) (hm : X.mg x = none) (hv : bootBuiltins x = some (.builtin id)) (ha : PA X (e :: es) (tA X.K T W da)) (hg : Gl X x := by rfl) (hn : x ≠ "__name__" := by decide) (hdb : (x == ("__debug__" : Str)) = false := by decide)
    (he : starEach (e :: es) X.env = (false, eval e X.env) :: starEach es X.env := by rfl) (hpl : (backTo pos (starEach es X.env)).any (·.1) = false := by rfl) : PE X (.Call (.Name x p) (e :: es) [] pos) (tE X.K T W (dGC (dCB f da))) := by
  refine g_gc (pe_mono (pe_callB hc hg hm hv ha hn hdb he hpl) fun σ H Q ⟨en, st, as, rs, re, q⟩ => ?_)
  refine ⟨en, st, as, rs, re, q.bind.imp fun vs H1 ⟨as1, s1, xs, p1, rs1, rx, q1⟩ => ?_⟩
  exact ⟨as1, s1, xs, rs1, rx, q1.v⟩
theorem g_callT {id : String} {f : FN} {x : Str} {p pos : Pos} {e : Expr} {es : List Expr} {da : AD} (hc : CallR X (.type id) (cOf X.K f)) (hm : X.mg x = none) (hv : bootBuiltins x = some (.type id)) (ha : PA X (e :: es) (tA X.K T W da)) (hg : Gl X x := by rfl) (hn : x ≠ "__name__" := by decide) (hdb : (x == ("__debug__" : Str)) = false := by decide)
    (he : starEach (e :: es) X.env = (false, eval e X.env) :: starEach es X.env := by rfl) (hpl : (backTo pos (starEach es X.env)).any (·.1) = false := by rfl) : PE X (.Call (.Name x p) (e :: es) [] pos) (tE X.K T W (dGC (dCB f da))) := by
  refine g_gc (pe_mono (pe_callTy hc hg hm hv ha hn hdb he hpl) fun σ H Q ⟨en, st, as, rs, re, q⟩ => ?_)
  refine ⟨en, st, as, rs, re, q.bind.imp fun vs H1 ⟨as1, s1, xs, p1, rs1, rx, q1⟩ => ?_⟩
  exact ⟨as1, s1, xs, rs1, rx, q1.v⟩
theorem g_callB0 {id : String} {f : FN} {x : Str} {p pos : Pos} {e : Expr} {es : List Expr} {da : AD} (hc : CallR X (.builtin id) (cOf X.K f)) (hm : X.mg x = none) (hv : bootBuiltins x = some (.builtin id)) (ha : PA X (e :: es) (tA X.K T W da)) (hg : Gl X x := by rfl) (hn : x ≠ "__name__" := by decide) (hdb : (x == ("__debug__" : Str)) = false := by decide)
    (he : starEach (e :: es) X.env = (false, eval e X.env) :: starEach es X.env := by rfl) (hpl : (backTo pos (starEach es X.env)).any (·.1) = false := by rfl) : PE X (.Call (.Name x p) (e :: es) [] pos) (tE X.K T W (dCB f da)) := by
  refine pe_mono (pe_callB hc hg hm hv ha hn hdb he hpl) fun σ H Q ⟨en, st, as, rs, re, q⟩ => ?_
  refine ⟨en, st, as, rs, re, q.bind.imp fun vs H1 ⟨as1, s1, xs, p1, rs1, rx, q1⟩ => ?_⟩
  exact ⟨as1, s1, xs, rs1, rx, q1.v⟩
theorem g_callT0 {id : String} {f : FN} {x : Str} {p pos : Pos} {e : Expr} {es : List Expr} {da : AD} (hc : CallR X (.type id) (cOf X.K f)) (hm : X.mg x = none) (hv : bootBuiltins x = some (.type id)) (ha : PA X (e :: es) (tA X.K T W da)) (hg : Gl X x := by rfl) (hn : x ≠ "__name__" := by decide) (hdb : (x == ("__debug__" : Str)) = false := by decide)
    (he : starEach (e :: es) X.env = (false, eval e X.env) :: starEach es X.env := by rfl) (hpl : (backTo pos (starEach es X.env)).any (·.1) = false := by rfl) : PE X (.Call (.Name x p) (e :: es) [] pos) (tE X.K T W (dCB f da)) := by
  refine pe_mono (pe_callTy hc hg hm hv ha hn hdb he hpl) fun σ H Q ⟨en, st, as, rs, re, q⟩ => ?_
  refine ⟨en, st, as, rs, re, q.bind.imp fun vs H1 ⟨as1, s1, xs, p1, rs1, rx, q1⟩ => ?_⟩
  exact ⟨as1, s1, xs, rs1, rx, q1.v⟩
end

/-! ### statements -/
def sSkip : SD := fun en st => .nx en st
def sSeq (a b : SD) : SD := fun en st => match a en st with
  | .nx en' s' => b en' s'
  | r => r
def sSet (i : Nat) (e : ED) : SD := fun en st => (e en st).toS en fun x s1 => .nx (en.set i (some x)) s1
def sUn (u : UD) (e : ED) : SD := fun en st => (e en st).toS en fun x s1 => match u x en with
  | some en' => .nx en' s1
  | none => .no
def sPar (i j : Nat) (a : AD) : SD := fun en st => (a en st).toS en fun xs s1 => match xs with
  | [v, w] => .nx ((en.set i (some v)).set j (some w)) s1
  | _ => .no
def sPar3 (i j l : Nat) (a : AD) : SD := fun en st => (a en st).toS en fun xs s1 => match xs with
  | [u, v, w] => .nx (((en.set i (some u)).set j (some v)).set l (some w)) s1
  | _ => .no
def sEx (e : ED) : SD := fun en st => (e en st).toS en fun _ s1 => .nx en s1
def sRet (e : ED) : SD := fun en st => (e en st).toS en fun x s1 => .rt x s1
def sRetN : SD := fun en st => .rt .non st
def sIf (c : BD) (a b : SD) : SD := fun en st => (c en st).toS en fun k s1 => if k = true then a en s1 else b en s1
def sBrk : SD := fun en st => .bk en st
def sCt : SD := fun en st => .ct en st
def forL (it : ItD) (u : UD) (body : SD) : Nat → List D → En → Sto → Rs
  | k, [], en, st => if it.ok k st = true then .nx en st else .no
  | k, d :: ds, en, st => if it.ok k st = true then match u d en with
      | some en1 => match body en1 st with
        | .nx en2 s2 => forL it u body (k + 1) ds en2 s2
        | .ct en2 s2 => forL it u body (k + 1) ds en2 s2
        | .bk en2 s2 => .nx en2 s2
        | r => r
      | none => .no
    else .no
def sFor (i : ID) (u : UD) (body : SD) : SD := fun en st => (i en st).toS en fun it s1 => forL it u body 0 it.items en s1
def whileF (c : BD) (body : SD) : Nat → En → Sto → Rs
  | 0, _, _ => .no
  | n + 1, en, st => (c en st).toS en fun k s1 => if k = true then match body en s1 with
      | .nx en2 s2 => whileF c body n en2 s2
      | .ct en2 s2 => whileF c body n en2 s2
      | .bk en2 s2 => .nx en2 s2
      | r => r
    else .nx en s1
def sWhile (c : BD) (body : SD) : SD := fun en st => whileF c body 1000000 en st
section
variable {X : Cx} {T : Nat → Addr} {W : WX} {s : Stmt} {ss : List Stmt} {da db di : SD} {a b c e : Expr} {de df dg : ED} {bc : BD} {pos : Pos}
theorem gs_nil : PSs X [] (tS X.K T W sSkip) := pss_mono pss_nil fun D σ H ⟨en, st, as, rs, re, q⟩ => q σ H as Stp.refl rs re
theorem gs_cons (h1 : PS X s (tS X.K T W da)) (h2 : PSs X ss (tS X.K T W db)) : PSs X (s :: ss) (tS X.K T W (sSeq da db)) := by
  refine pss_mono (pss_cons h1 h2) fun D σ H ⟨en, st, as, rs, re, q⟩ => ⟨en, st, as, rs, re, ?_⟩
  unfold sSeq at q
  cases e : da en st with
  | nx en' s' => rw [e] at q; exact fun σ' H' as' p rs' re' => ⟨en', s', as', rs', re', q.shift p⟩
  | rt d s' => rw [e] at q; exact q
  | bk d s' => rw [e] at q; exact q
  | ct d s' => rw [e] at q; exact q
  | er x d s' => rw [e] at q; exact q
  | no => rw [e] at q; exact q
theorem gs_one (h1 : PS X s (tS X.K T W da)) : PSs X [s] (tS X.K T W da) := pss_one h1
theorem gs_set {i : Nat} {x : Str} {pos' : Pos} (hN : X.N.Nodup) (hi : X.N[i]? = some x) (hx : Loc X.env.scope x) (he : PE X e (tE X.K T W de)) (hs : swapsWith e (some (.Name x pos')) pos.line X.env = pure false := by rfl) (hf : X.fn x = true ∨ X.env.scope.names.lookup x = some .local := by first | exact .inl rfl | exact .inr rfl | assumption) :
    PS X (.Assign [.Name x pos'] e pos) (tS X.K T W (sSet i de)) := by
  refine ps_mono (ps_set hN hi hx he hs hf) fun D σ H ⟨en, st, as, rs, re, q⟩ => ?_
  refine ⟨en, st, as, rs, re, (PostS.bind re q).imp fun v H1 ⟨as1, s1, x, p1, rs1, rx, re1, q1⟩ => ?_⟩
  exact q1 _ H1 as1 Stp.refl rs1 (re1.set rx)
theorem gs_un {vs : List Nat} {u : UD} {g : TG} (he : PE X e (tE X.K T W de)) (hg : PG X a g) (gk : gOk X.K vs u g) (hs : swapsWithSole [a] e pos.line X.env = pure false := by rfl) (hw : swappedStores [a] e X.env = pure none := by rfl)
    (h1 : (assignEach [a] X.env).map (·.2) = [assign a X.env] := by rfl) : PS X (.Assign [a] e pos) (tS X.K T W (sUn u de)) := by
  refine ps_mono (ps_asg he hg hs hw h1) fun D σ H ⟨en, st, as, rs, re, q⟩ => ?_
  refine ⟨en, st, as, rs, re, (PostS.bind re q).imp fun v H1 ⟨as1, s1, x, p1, rs1, rx, re1, q1⟩ => ?_⟩
  cases eu : u x en with
  | none => rw [eu] at q1; exact q1.elim
  | some en' =>
    rw [eu] at q1
    exact gk as1 H1 σ en v x en' _ re1 rx eu fun σ' re' _ => q1 σ' H1 as1 Stp.refl rs1 re'
theorem gs_par {i j : Nat} {x y : Str} {ds : AD} {px py pt : Pos} {kt k2 pt2} (hc : X.calm = true) (hN : X.N.Nodup) (hi : X.N[i]? = some x) (hj : X.N[j]? = some y) (hij : i ≠ j)
    (hx : X.env.scope.names.lookup x = some .local) (hy : X.env.scope.names.lookup y = some .local) (ha : PA X [a, b] (tA X.K T W ds))
    (hw : swappedStores [.Tuple [.Name x px, .Name y py] kt pt] (.Tuple [a, b] k2 pt2) X.env = pure (some [x, y]))
    (hs : swapsWithSole [.Tuple [.Name x px, .Name y py] kt pt] (.Tuple [a, b] k2 pt2) pos.line X.env = pure false := by rfl) :
    PS X (.Assign [.Tuple [.Name x px, .Name y py] kt pt] (.Tuple [a, b] k2 pt2) pos) (tS X.K T W (sPar i j ds)) := by
  refine ps_mono (ps_par hc hN hi hj hij hx hy ha hw hs) fun D σ H ⟨en, st, as, rs, re, q⟩ => ?_
  refine ⟨en, st, as, rs, re, (PostS.bind re q).imp fun vs H1 ⟨as1, s1, xs, p1, rs1, rx, re1, q1⟩ => ?_⟩
  split at q1
  · cases rx with
    | @cons v1 _ _ _ r1 rx =>
    cases rx with
    | @cons v2 _ _ _ r2 rx =>
    cases rx
    exact ⟨v1, v2, rfl, q1 _ H1 as1 Stp.refl rs1 ((re1.set r1).set r2)⟩
  · exact q1.elim
theorem gs_ex (he : PE X e (tE X.K T W de)) (hs : swapsWith e none pos.line X.env = pure false := by rfl) : PS X (.Expr e pos) (tS X.K T W (sEx de)) := by
  refine ps_mono (ps_expr he hs) fun D σ H ⟨en, st, as, rs, re, q⟩ => ?_
  refine ⟨en, st, as, rs, re, (PostS.bind re q).imp fun v H1 ⟨as1, s1, x, p1, rs1, rx, re1, q1⟩ => ?_⟩
  exact q1 _ H1 as1 Stp.refl rs1 re1
theorem gs_ret (he : PE X e (tE X.K T W de)) : PS X (.Return (some e) pos) (tS X.K T W (sRet de)) := by
  refine ps_mono (ps_ret he) fun D σ H ⟨en, st, as, rs, re, q⟩ => ?_
  refine ⟨en, st, as, rs, re, (PostS.bind re q).imp fun v H1 ⟨as1, s1, x, p1, rs1, rx, re1, q1⟩ => ?_⟩
  exact q1 _ H1 as1 Stp.refl rs1 rx
theorem gs_retN : PS X (.Return none pos) (tS X.K T W sRetN) := ps_mono ps_retN fun D σ H ⟨en, st, as, rs, re, q⟩ => q .non H as Stp.refl rs .non
theorem gs_if {sa sb : List Stmt} (hc : PT X c (tT X.K T W bc)) (ha : PSs X sa (tS X.K T W da)) (hb : PSs X sb (tS X.K T W db)) : PS X (.If c sa sb pos) (tS X.K T W (sIf bc da db)) := by
  refine ps_mono (ps_if hc ha hb) fun D σ H ⟨en, st, as, rs, re, q⟩ => ?_
  refine ⟨en, st, as, rs, re, (PostS.bind re q).imp fun k H1 ⟨as1, s1, kk, p1, rs1, rk, re1, q1⟩ => ?_⟩
  cases rk
  cases k with
  | true => rw [if_pos rfl]; exact ⟨en, s1, as1, rs1, re1, q1⟩
  | false => rw [if_neg Bool.false_ne_true]; exact ⟨en, s1, as1, rs1, re1, q1⟩
theorem gs_brk : PS X (.Break pos) (tS X.K T W sBrk) := ps_mono ps_break fun D σ H ⟨en, st, as, rs, re, q⟩ => q σ H as Stp.refl rs re
theorem gs_ct : PS X (.Continue pos) (tS X.K T W sCt) := ps_mono ps_continue fun D σ H ⟨en, st, as, rs, re, q⟩ => q σ H as Stp.refl rs re
theorem gs_for {tg iter : Expr} {body : List Stmt} {vs : List Nat} {u : UD} {g : TG} {ii : ID} {sb : SD} (hp : PassesOwn (model X.prog X.w) X.A X.env X.xe) (hc : X.calm = true) (hi : PI X tg iter (tI X.K T W ii)) (hg : PG X tg g) (gk : gOk X.K vs u g) (hb : PSs X body (tS X.K T W sb))
    (hs : ∀ x, foldedSetIterable iter X.env x = pure x := by intro _; rfl) : PS X (.For tg iter body [] pos) (tS X.K T W (sFor ii u sb)) := by
  refine ps_mono (ps_for hp hc hi hg hb hs) fun D σ H ⟨en, st, as, rs, re, q⟩ => ?_
  refine ⟨en, st, as, rs, re, (PostS.bind re q).imp fun J H1 ⟨as1, s1, it, p1, rs1, jr, re1, q1⟩ => ?_⟩
  refine ⟨fun i m σ' H' => ∃ en' st' as', Stp as1 H1 as' H' ∧ RS X.K as' H' st' ∧ RE X.K as' H' σ' en' ∧ m = it.items.length - i ∧ i ≤ it.items.length ∧ PostS X.K T W as' H' (forL it u sb i (it.items.drop i) en' st') D,
    ⟨_, en, s1, as1, Stp.refl, rs1, re1, rfl, Nat.zero_le _, (by rw [List.drop_zero]; exact q1)⟩, ?_⟩
  rintro i m σ' H' ⟨en', st', as', p, rs', re', rfl, hi', q'⟩
  by_cases hlt : i < it.items.length
  · have hd : it.items[i]? = some it.items[i] := List.getElem?_eq_getElem hlt
    rw [List.drop_eq_getElem_cons hlt] at q'
    simp only [forL] at q'
    by_cases ok : it.ok i st' = true
    · rw [if_pos ok] at q'
      obtain ⟨go, yld⟩ := jr.go i as' H' st' p rs' ok _ hd
      refine .inr ⟨go, fun σ2 H2 => ∃ en2 st2 as2, Stp as1 H1 as2 H2 ∧ RS X.K as2 H2 st2 ∧ RE X.K as2 H2 σ2 en2 ∧ PostS X.K T W as2 H2 (forL it u sb (i + 1) (it.items.drop (i + 1)) en2 st2) D,
        fun σ2 H2 ⟨en2, st2, as2, p2, rs2, re2, q2⟩ => ⟨it.items.length - (i + 1), by omega, en2, st2, as2, p2, rs2, re2, rfl, hlt, q2⟩, fun x H'' y => ?_⟩
      obtain ⟨py, rs'', rx⟩ := yld x H'' y
      cases eu : u it.items[i] en' with
      | none => rw [eu] at q'; exact q'.elim
      | some en1 =>
        rw [eu] at q'
        dsimp only at q'
        refine gk as' H'' σ' en' x _ en1 _ (re'.mono py) rx eu fun σ2 re2 _ => ⟨en1, st', as', rs'', re2, ?_⟩
        have q0 := PostS.shift q' py
        cases eb : sb en1 st' with
        | nx en2 s2 => rw [eb] at q0; exact fun σ3 H3 as3 p3 rs3 re3 => ⟨en2, s2, as3, (p.trans py).trans p3, rs3, re3, PostS.shift q0 p3⟩
        | ct en2 s2 => rw [eb] at q0; exact fun σ3 H3 as3 p3 rs3 re3 => ⟨en2, s2, as3, (p.trans py).trans p3, rs3, re3, PostS.shift q0 p3⟩
        | bk en2 s2 => rw [eb] at q0; exact q0
        | rt d s2 => rw [eb] at q0; exact q0
        | er ex en2 s2 => rw [eb] at q0; exact q0
        | no => rw [eb] at q0; exact q0
    · rw [if_neg ok] at q'
      exact q'.elim
  · have e : i = it.items.length := by omega
    subst e
    rw [List.drop_length] at q'
    simp only [forL] at q'
    by_cases ok : it.ok it.items.length st' = true
    · rw [if_pos ok] at q'
      exact .inl ⟨jr.stop as' H' st' p rs' ok, q' σ' H' as' Stp.refl rs' re'⟩
    · rw [if_neg ok] at q'
      exact q'.elim
theorem gs_while {body : List Stmt} {sb : SD} (hp : PassesOwn (model X.prog X.w) X.A X.env X.xe) (hc : PT X c (tT X.K T W bc)) (hb : PSs X body (tS X.K T W sb)) : PS X (.While c body [] pos) (tS X.K T W (sWhile bc sb)) := by
  refine ps_mono (ps_while hp hc hb) fun D σ H ⟨en, st, as, rs, re, q⟩ => ?_
  refine ⟨fun m σ' H' => ∃ en' st' as', RS X.K as' H' st' ∧ RE X.K as' H' σ' en' ∧ PostS X.K T W as' H' (whileF bc sb m en' st') D, ⟨1000000, en, st, as, rs, re, q⟩, ?_⟩
  rintro m σ' H' ⟨en', st', as', rs', re', q'⟩
  cases m with
  | zero => exact q'.elim
  | succ m =>
    simp only [whileF] at q'
    refine ⟨en', st', as', rs', re', (PostS.bind re' q').imp fun k H1 ⟨as1, s1, kk, p1, rs1, rk, re1, q1⟩ => ?_⟩
    cases rk
    cases k with
    | false => rw [if_neg Bool.false_ne_true]; exact q1 σ' H1 as1 Stp.refl rs1 re1
    | true =>
      rw [if_pos rfl]
      rw [if_pos rfl] at q1
      refine ⟨fun σ2 H2 => ∃ en2 st2 as2, RS X.K as2 H2 st2 ∧ RE X.K as2 H2 σ2 en2 ∧ PostS X.K T W as2 H2 (whileF bc sb m en2 st2) D, fun σ2 H2 ⟨en2, st2, as2, h1, h2, h3⟩ => ⟨m, Nat.lt_succ_self _, en2, st2, as2, h1, h2, h3⟩, en', s1, as1, rs1, re1, ?_⟩
      cases eb : sb en' s1 with
      | nx en2 s2 => rw [eb] at q1; exact fun σ3 H3 as3 p3 rs3 re3 => ⟨en2, s2, as3, rs3, re3, PostS.shift q1 p3⟩
      | ct en2 s2 => rw [eb] at q1; exact fun σ3 H3 as3 p3 rs3 re3 => ⟨en2, s2, as3, rs3, re3, PostS.shift q1 p3⟩
      | bk en2 s2 => rw [eb] at q1; exact q1
      | rt d s2 => rw [eb] at q1; exact q1
      | er ex en2 s2 => rw [eb] at q1; exact q1
      | no => rw [eb] at q1; exact q1
end
end Gv
namespace Gv
open PySem PySem.Spec L2

/-! ### keys of dicts -/
def keyD : D → Option Key
  | .int i => some (.inl i)
  | .str x => some (.inr x)
  | _ => none
def keysD : List D → Option (List Key)
  | [] => some []
  | d :: ds => match keyD d, keysD ds with
    | some k, some ks => some (k :: ks)
    | _, _ => none
def valD {κ : Type} [DecidableEq κ] (kvs : List (κ × D)) (k : κ) : Option D := (kvs.find? fun kv => decide (kv.1 = k)).map (·.2)
def putD {κ : Type} [DecidableEq κ] (kvs : List (κ × D)) (k : κ) (v : D) : List (κ × D) := if (kvs.any fun kv => decide (kv.1 = k)) = true then kvs.map fun kv => if kv.1 = k then (kv.1, v) else kv else kvs ++ [(k, v)]
/-- d[k]: none: no such dict or key kind -/
def getO (o : Ob) (k : D) : Option (Option D) := match o with
  | .dK kvs => (keyD k).map fun j => valD kvs j
  | .dT kvs => match k with
    | .tup ks => (keysD ks).map fun js => valD kvs js
    | _ => none
  | _ => none
def putO (o : Ob) (k v : D) : Option Ob := match o with
  | .dK kvs => if kvs.length < 16777216 then (keyD k).map fun j => .dK (putD kvs j v) else none
  | .dT kvs => if kvs.length < 16777216 then match k with
    | .tup ks => (keysD ks).map fun js => .dT (putD kvs js v)
    | _ => none
    else none
  | _ => none
section
variable {K : PySem.W.Frag} {as : List Addr} {H : Hp} {st : Sto}
theorem keyD_kV {d : D} {k : Key} {v : V} (r : RV K as H v d) (e : keyD d = some k) : v = kV k := by
  cases r <;> first | (cases e; rfl) | cases e
theorem keysD_kV : ∀ {ds : List D} {ks : List Key} {vs : List V}, RVs K as H vs ds → keysD ds = some ks → vs = ks.map kV
  | [], _, _, .nil, e => by cases e; rfl
  | d :: ds, _, _, .cons r rs, e => by
    simp only [keysD] at e
    cases e1 : keyD d with
    | none => rw [e1] at e; cases e
    | some k =>
      cases e2 : keysD ds with
      | none => rw [e1, e2] at e; cases e
      | some ks =>
        rw [e1, e2] at e
        cases e
        rw [keyD_kV r e1, keysD_kV rs e2]
        rfl
theorem RKs.val {κ : Type} [DecidableEq κ] {k : κ} : ∀ {xs : List (κ × V)} {ys : List (κ × D)}, RKs K as H xs ys → (∀ d, valD ys k = some d → ∃ v, valV xs k = some v ∧ RV K as H v d) ∧ (valD ys k = none → valV xs k = none)
  | _, _, .nil => ⟨fun d e => (nomatch (show (none : Option D) = some d from e)), fun _ => rfl⟩
  | (a, v) :: xs, (b, d) :: ys, .cons h r => by
    obtain ⟨e, hv⟩ := h
    have e : a = b := e
    subst e
    obtain ⟨h1, h2⟩ := RKs.val (k := k) r
    by_cases c : a = k
    · have c1 : valD ((a, d) :: ys) k = some d := by simp [valD, List.find?_cons, c]
      have c2 : valV ((a, v) :: xs) k = some v := valV_pos c
      rw [c1, c2]
      exact ⟨fun d' e => by cases e; exact ⟨v, rfl, hv⟩, fun e => by cases e⟩
    · have c1 : valD ((a, d) :: ys) k = valD ys k := by simp [valD, List.find?_cons, c]
      have c2 : valV ((a, v) :: xs) k = valV xs k := valV_neg c
      rw [c1, c2]
      exact ⟨h1, h2⟩
theorem RKs.any {κ : Type} [DecidableEq κ] {k : κ} {xs : List (κ × V)} {ys : List (κ × D)} (r : RKs K as H xs ys) : (xs.any fun kv => decide (kv.1 = k)) = (ys.any fun kv => decide (kv.1 = k)) := by
  induction r with
  | nil => rfl
  | cons h r ih => rw [List.any_cons, List.any_cons, ih, h.1]
theorem RKs.repl {κ : Type} [DecidableEq κ] {k : κ} {v : V} {d : D} (h : RV K as H v d) : ∀ {xs : List (κ × V)} {ys : List (κ × D)}, RKs K as H xs ys → RKs K as H (xs.map fun kv => if kv.1 = k then (kv.1, v) else kv) (ys.map fun kv => if kv.1 = k then (kv.1, d) else kv)
  | _, _, .nil => .nil
  | (a, x) :: xs, (b, y) :: ys, .cons h' r => by
    rw [List.map_cons, List.map_cons]
    refine .cons ?_ (RKs.repl h r)
    obtain ⟨e, hv⟩ := h'
    have e : a = b := e
    subst e
    by_cases c : a = k
    · rw [if_pos c, if_pos c]
      exact ⟨rfl, h⟩
    · rw [if_neg c, if_neg c]
      exact ⟨rfl, hv⟩
theorem RKs.put {κ : Type} [DecidableEq κ] {k : κ} {v : V} {d : D} {xs : List (κ × V)} {ys : List (κ × D)} (r : RKs K as H xs ys) (h : RV K as H v d) : RKs K as H (putK xs k v) (putD ys k d) := by
  unfold putK putD
  rw [r.any]
  split
  · exact RKs.repl h r
  · exact Paired.snoc r ⟨rfl, h⟩
theorem RKs.length {κ : Type} {xs : List (κ × V)} {ys : List (κ × D)} (r : RKs K as H xs ys) : xs.length = ys.length := Paired.length r
/-- what a key finds -/
theorem getO_dget {a : Addr} {o : Ob} {k : D} {y : V} {r : Option D} (ro : RO K as H a o) (ry : RV K as H y k) (e : getO o k = some r) : ∃ v, DGet H a y v ∧ (∀ d, r = some d → ∃ x, v = some x ∧ RV K as H x d) ∧ (r = none → v = none) := by
  cases o with
  | lst _ => cases e
  | fls _ => cases e
  | dK kvs =>
    obtain ⟨ks, ea, rk⟩ := ro
    simp only [getO] at e
    cases e1 : keyD k with
    | none => rw [e1] at e; cases e
    | some j =>
      rw [e1] at e
      cases e
      rw [keyD_kV ry e1]
      exact ⟨_, DGet.k ea, fun d h => rk.val.1 d h, rk.val.2⟩
  | dT kvs =>
    obtain ⟨ks, ea, rk⟩ := ro
    simp only [getO] at e
    split at e
    · rename_i ds
      cases e1 : keysD ds with
      | none => rw [e1] at e; cases e
      | some js =>
        rw [e1] at e
        cases e
        cases ry with
        | @tup b vs _ h r =>
          rw [keysD_kV r e1] at h
          exact ⟨_, DGet.t ea h, fun d h => rk.val.1 d h, rk.val.2⟩
    · cases e
theorem putO_dput {a : Addr} {o o' : Ob} {k x : D} {y v : V} (ro : RO K as H a o) (ry : RV K as H y k) (rv : RV K as H v x) (e : putO o k x = some o') : o.mu ∧ o'.mu ∧ ∃ ho, (∃ u, H a = some u ∧ Wr u) ∧ DPut H a y v (upd H a ho) ∧ ∀ as', Stp as H as' (upd H a ho) → RO K as' (upd H a ho) a o' := by
  cases o with
  | lst _ => cases e
  | fls _ => cases e
  | dK kvs =>
    obtain ⟨ks, ea, rk⟩ := ro
    simp only [putO] at e
    split at e
    · rename_i hl
      cases e1 : keyD k with
      | none => rw [e1] at e; cases e
      | some j =>
        rw [e1] at e
        cases e
        rw [keyD_kV ry e1]
        exact ⟨trivial, trivial, _, ⟨_, ea, trivial⟩, DPut.k ea (by rw [rk.length, sizeLine_eq]; exact hl), fun as' p => ⟨_, upd_same, (rk.put rv).mono p⟩⟩
    · cases e
  | dT kvs =>
    obtain ⟨ks, ea, rk⟩ := ro
    simp only [putO] at e
    split at e
    · rename_i hl
      split at e
      · rename_i ds
        cases e1 : keysD ds with
        | none => rw [e1] at e; cases e
        | some js =>
          rw [e1] at e
          cases e
          cases ry with
          | @tup b vs _ h r =>
            rw [keysD_kV r e1] at h
            exact ⟨trivial, trivial, _, ⟨_, ea, trivial⟩, DPut.t ea h (by rw [rk.length, sizeLine_eq]; exact hl), fun as' p => ⟨_, upd_same, (rk.put rv).mono p⟩⟩
      · cases e
    · cases e
end

/-! ### subscripts -/
def fIx : F2 := fun x y st => match x with
  | .tup xs => match y with
    | .int i => (atI xs i).map fun d => (d, st)
    | _ => none
  | .str z => match y with
    | .int i => if z.length ≤ 16777216 then (atI z.cps.toList i).map fun c => (.str ⟨#[c]⟩, st) else none
    | _ => none
  | .obj k => match st[k]? with
    | some (.lst xs) => match y with
      | .int i => (atI xs i).map fun d => (d, st)
      | _ => none
    | some (.fls xs) => match y with
      | .int i => (atI xs i).map fun d => (d, st)
      | _ => none
    | some o => match getO o y with
      | some (some d) => some (d, st)
      | _ => none
    | none => none
  | _ => none
def isDct (st : Sto) : D → Bool
  | .obj k => match st[k]? with
    | some (.dK _) => true
    | some (.dT _) => true
    | _ => false
  | _ => false
section
variable {K : PySem.W.Frag} {as : List Addr} {H : Hp} {st : Sto}
theorem atI_rv {vs : List V} {ds : List D} {i : Int} {d : D} (r : RVs K as H vs ds) (e : atI ds i = some d) : ∃ v, atI vs i = some v ∧ RV K as H v d := by
  unfold atI at e ⊢
  rw [r.length]
  cases e1 : ixN ds.length i with
  | none => rw [e1] at e; cases e
  | some j =>
    rw [e1] at e
    exact r.get e
end
section
variable {X : Cx} {T : Nat → Addr} {W : WX} {a b e : Expr} {da db de : ED} {pos : Pos}
theorem fix_seq {as : List Addr} {H : Hp} {st : Sto} {dx dy : D} {x y : V} {Q : VK} (rs : RS X.K as H st) (rx : RV X.K as H x dx) (ry : RV X.K as H y dy) (nd : isDct st dx = false) (q : PostV X.K as H (fIx dx dy st) Q) : rIx X.K x y H Q := by
  cases dx with
  | tup xs =>
    cases rx with
    | @tup p vs _ h r =>
      cases dy with
      | int i =>
        cases ry
        simp only [fIx] at q
        cases e : atI xs i with
        | none => rw [e] at q; exact q.elim
        | some d =>
          rw [e] at q
          obtain ⟨v, ev, rv⟩ := atI_rv r e
          exact .inr (.inl ⟨p, vs, i, v, rfl, rfl, SqT.of h, ev, postv1 rs rv q⟩)
      | _ => exact q.elim
  | str z =>
    cases rx
    cases dy with
    | int i =>
      cases ry
      simp only [fIx] at q
      split at q
      · rename_i hz
        cases e : atI z.cps.toList i with
        | none => rw [e] at q; exact q.elim
        | some c =>
          rw [e] at q
          exact .inr (.inr ⟨z, i, c, rfl, rfl, by rw [sizeLine_eq]; exact hz, e, postv1 rs (.str _) q⟩)
      · exact q.elim
    | _ => exact q.elim
  | obj k =>
    simp only [fIx] at q
    simp only [isDct] at nd
    split at q
    · rename_i xs hx
      obtain ⟨p, rfl, _, vs, ev, r⟩ := rs.obj rx hx
      cases dy with
      | int i =>
        cases ry
        dsimp only at q
        cases e : atI xs i with
        | none => rw [e] at q; exact q.elim
        | some d =>
          rw [e] at q
          obtain ⟨v, ev', rv⟩ := atI_rv r e
          exact .inl ⟨p, vs, i, v, rfl, rfl, SqL.of ev, ev', postv1 rs rv q⟩
      | _ => exact q.elim
    · rename_i xs hx
      obtain ⟨p, rfl, _, vs, ev, r⟩ := rs.obj rx hx
      cases dy with
      | int i =>
        cases ry
        dsimp only at q
        cases e : atI xs i with
        | none => rw [e] at q; exact q.elim
        | some d =>
          rw [e] at q
          obtain ⟨v, ev', rv⟩ := atI_rv r e
          exact .inl ⟨p, vs, i, v, rfl, rfl, ev.sq, ev', postv1 rs rv q⟩
      | _ => exact q.elim
    · rename_i o h1 h2 h3
      rw [h3] at nd
      cases o with
      | lst xs => exact absurd rfl (h1 xs)
      | fls xs => exact absurd rfl (h2 xs)
      | dK _ => cases nd
      | dT _ => cases nd
    · exact q.elim
  | _ => exact q.elim
theorem fix_dct {as : List Addr} {H : Hp} {st : Sto} {dx dy : D} {x y : V} {Q : VK} (rs : RS X.K as H st) (rx : RV X.K as H x dx) (ry : RV X.K as H y dy) (nd : isDct st dx = true) (q : PostV X.K as H (fIx dx dy st) Q) : ∃ a v, x = .ref a ∧ DGet H a y (some v) ∧ Q v H := by
  cases dx with
  | obj k =>
    simp only [isDct] at nd
    have key : ∀ o, st[k]? = some o → getO o dy = getO o dy → (∀ xs, o ≠ .lst xs) → (∀ xs, o ≠ .fls xs) → fIx (.obj k) dy st = (match getO o dy with | some (some d) => some (d, st) | _ => none) := by
      intro o ho _ h1 h2
      simp only [fIx]
      rw [ho]
      cases o with
      | lst xs => exact absurd rfl (h1 xs)
      | fls xs => exact absurd rfl (h2 xs)
      | dK _ => rfl
      | dT _ => rfl
    cases ho : st[k]? with
    | none => rw [ho] at nd; cases nd
    | some o =>
      rw [ho] at nd
      have h1 : ∀ xs, o ≠ .lst xs := fun xs z => by subst z; cases nd
      have h2 : ∀ xs, o ≠ .fls xs := fun xs z => by subst z; cases nd
      rw [key o ho rfl h1 h2] at q
      obtain ⟨p, rfl, _, ro⟩ := rs.obj rx ho
      cases e : getO o dy with
      | none => rw [e] at q; exact q.elim
      | some r =>
        cases r with
        | none => rw [e] at q; exact q.elim
        | some d =>
          rw [e] at q
          obtain ⟨v, g, h3, _⟩ := getO_dget ro ry e
          obtain ⟨xv, rfl, rv⟩ := h3 d rfl
          exact ⟨p, xv, rfl, g, postv1 rs rv q⟩
  | _ => cases nd
theorem ix_g (hu : X.A.units + 1 < cLine) : IxR X (rOf X.K fIx) := by
  intro value slice pins s σ H x y v u Q I rx ry ⟨as, st, dx, dy, rs, hx, hy, q⟩ hs
  cases nd : isDct st dx with
  | false => exact ix_seq value slice pins s σ H x y v u Q I rx ry (fix_seq rs hx hy nd q) hs
  | true =>
    obtain ⟨a, w', rfl, g, q1⟩ := fix_dct rs hx hy nd q
    obtain rfl : v = Value.ref a := rx
    exact PyProof.Rows.tail_any (dict_typeIs I g) PySem.F.slot_dict_getitem.lookup (d_getItem hu I g ry fun w2 s3 I3 rw' => ⟨w', H, I3, rw', q1⟩) hs
theorem g_ix (hu : X.A.units + 1 < cLine) (ha : PE X a (tE X.K T W da)) (hb : PE X b (tE X.K T W db)) (hs : PlainIx b := by intro _ _; rfl) : PE X (.Subscript a b pos) (tE X.K T W (dOp fIx da db)) := by
  refine pe_mono (pe_ix (ix_g hu) ha hb hs) fun σ H Q ⟨en, st, as, rs, re, q⟩ => ?_
  refine ⟨en, st, as, rs, re, q.bind.imp fun x H1 ⟨as1, s1, dx, p1, rs1, rx, q1⟩ => ?_⟩
  refine ⟨en, s1, as1, rs1, re.mono p1, q1.bind.imp fun y H2 ⟨as2, s2, dy, p2, rs2, ry, q2⟩ => ?_⟩
  exact ⟨as2, s2, dx, dy, rs2, rx.mono p2, ry, q2.v⟩
end

/-! ### o[i] = v -/
def setV (o i x : D) (st : Sto) : Option Sto := match o with
  | .obj k => match st[k]? with
    | some (.lst xs) => match i with
      | .int j => (ixN xs.length j).map fun m => st.set k (.lst (xs.set m x))
      | _ => none
    | some o => (putO o i x).map fun o' => st.set k o'
    | none => none
  | _ => none
def sSub (o i e : ED) : SD := fun en st => (e en st).toS en fun x s1 => (o en s1).toS en fun y s2 => (i en s2).toS en fun z s3 => match setV y z x s3 with
  | some s4 => .nx en s4
  | none => .no
section
variable {X : Cx} {T : Nat → Addr} {W : WX} {a b e : Expr} {da db de : ED} {pos pos' : Pos}
def tSetV (K : PySem.W.Frag) : TSet := fun o i v H Q => ∃ as st dO dI dV, RS K as H st ∧ RV K as H o dO ∧ RV K as H i dI ∧ RV K as H v dV ∧ match setV dO dI dV st with
  | some st' => ∀ H' as', Stp as H as' H' → RS K as' H' st' → Q H'
  | none => False
theorem set_g (hu : X.A.units + 1 < cLine) : PSet X (tSetV X.K) := by
  intro pins s σ H o i v ov iv u Q I ro ri rv ⟨as, st, dO, dI, dV, rs, hO, hI, hV, q⟩
  cases dO with
  | obj k =>
    simp only [setV] at q
    split at q
    · rename_i st' e
      split at e
      · rename_i xs hx
        obtain ⟨p, rfl, hp, vs, ev, r⟩ := rs.obj hO hx
        split at e
        · rename_i j
          cases hI
          cases em : ixN xs.length j with
          | none => rw [em] at e; cases e
          | some m =>
            rw [em] at e
            cases e
            refine set_list pins s σ H _ _ v ov iv u Q I ro ri rv ⟨p, vs, j, m, rfl, rfl, ev, by rw [r.length]; exact em, ?_⟩
            exact q _ as (Stp.write hp ev trivial) (rs.write hp hx trivial trivial ⟨_, upd_same, (r.set hV m).mono (Stp.write hp ev trivial)⟩)
        · cases e
      · rename_i ob hne hob
        obtain ⟨p, rfl, hp, roo⟩ := rs.obj hO hob
        cases ep : putO ob dI dV with
        | none => rw [ep] at e; cases e
        | some o' =>
          rw [ep] at e
          cases e
          obtain ⟨m1, m2, ho, ⟨w0, hw, ww⟩, dp, hro⟩ := putO_dput roo hI hV ep
          obtain rfl : ov = Value.ref p := ro
          exact d_setItem hu I dp ri rv fun s4 I4 => ⟨_, I4, q _ as (Stp.write hp hw ww) (rs.write hp hob m1 m2 (hro as (Stp.write hp hw ww)))⟩
      · cases e
    · exact q.elim
  | _ => exact q.elim
theorem gs_sub (hu : X.A.units + 1 < cLine) (ha : PE X a (tE X.K T W da)) (hb : PE X b (tE X.K T W db)) (he : PE X e (tE X.K T W de))
    (hsb : ∀ v, assign (.Subscript a b pos') X.env v = (do
      let ov ← holding [v] (eval a X.env)
      let iv ← holding [v, ov] (eval b X.env)
      standAt pos'
      holding [v, ov, iv] (setItem ov iv v)
      release [v, ov, iv] []) := by intro _; rfl)
    (hs : swapsWithSole [.Subscript a b pos'] e pos.line X.env = pure false := by rfl) (hw : swappedStores [.Subscript a b pos'] e X.env = pure none := by rfl)
    (h1 : (assignEach [.Subscript a b pos'] X.env).map (·.2) = [assign (.Subscript a b pos') X.env] := by rfl) : PS X (.Assign [.Subscript a b pos'] e pos) (tS X.K T W (sSub da db de)) := by
  refine ps_mono (ps_asg he (pg_sub ha hb (set_g hu) hsb) hs hw h1) fun D σ H ⟨en, st, as, rs, re, q⟩ => ?_
  refine ⟨en, st, as, rs, re, (PostS.bind re q).imp fun v H1 ⟨as1, s1, x, p1, rs1, rx, re1, q1⟩ => ?_⟩
  refine ⟨en, s1, as1, rs1, re1, (PostS.bind re1 q1).imp fun o H2 ⟨as2, s2, y, p2, rs2, ry, re2, q2⟩ => ?_⟩
  refine ⟨en, s2, as2, rs2, re2, (PostS.bind re2 q2).imp fun i H3 ⟨as3, s3, z, p3, rs3, rz, re3, q3⟩ => ?_⟩
  refine ⟨as3, s3, y, z, x, rs3, ry.mono p3, rz, (rx.mono p2).mono p3, ?_⟩
  cases es : setV y z x s3 with
  | none => rw [es] at q3; exact q3.elim
  | some s4 =>
    rw [es] at q3
    exact fun H' as' p rs' => q3 σ H' as' p rs' (re3.mono p)
end

/-! ### in -/
def fIn (neg : Bool) : F2 := fun x y st => match y with
  | .tup xs => match pd x, pds xs with
    | some p, some ps => if SeqAt.shaped p = true ∧ SeqAt.shaped (.list ps) = true then some (.bl (if neg then !(ps.any fun z => PyData.eqv z p) else ps.any fun z => PyData.eqv z p), st) else none
    | _, _ => none
  | .str b => match x with
    | .str a => some (.bl (if neg then !(!(Builtin.Str.occurrences b a 0 b.length 1).isEmpty) else !(Builtin.Str.occurrences b a 0 b.length 1).isEmpty), st)
    | _ => none
  | .obj k => match st[k]? with
    | some (.lst xs) => match pd x, pds xs with
      | some p, some ps => if SeqAt.shaped p = true ∧ SeqAt.shaped (.list ps) = true then some (.bl (if neg then !(ps.any fun z => PyData.eqv z p) else ps.any fun z => PyData.eqv z p), st) else none
      | _, _ => none
    | some (.fls _) => none
    | some o => match getO o x with
      | some r => some (.bl (if neg then !r.isSome else r.isSome), st)
      | none => none
    | none => none
  | _ => none
section
variable {X : Cx}
theorem og_in (hu : X.A.units + 65 < cLine) : OpR X (compareOp .In) (rOf X.K (fIn false)) := by
  intro pins s σ H x y v u Q I rx ry ⟨as, st, dx, dy, rs, hx, hy, q⟩
  cases dy with
  | tup xs =>
    simp only [fIn] at q
    cases hy with
    | @tup a vs _ h r =>
      split at q
      · rename_i p ps e1 e2
        split at q
        · rename_i hs
          obtain ⟨as1, r1⟩ := Dp.reads I p x v (pd_dp hx e1) rx
          obtain ⟨as2, r2⟩ := Dp.reads I (.tuple ps) (.ref a) u (.tup (SqT.of h) (pds_dp r e2)) ry
          have hc : PyData.canLayAll0 ps = true := SeqAt.canLay_of_shaped hs.2
          exact SeqAt.in_tuple_reads r2 r1 hc (SeqAt.canLay_of_shaped hs.1) (PyProof.Rows.room_in_shaped hs.1 hu) ⟨.bl _, H, I, rfl, postv1 rs (.bl _) q⟩
        · exact q.elim
      · exact q.elim
  | str b =>
    simp only [fIn] at q
    cases hy
    split at q
    · cases hx
      exact op_in_str pins s σ H _ _ v u Q I rx ry ⟨_, _, rfl, rfl, postv1 rs (.bl _) q⟩
    · exact q.elim
  | obj k =>
    simp only [fIn] at q
    split at q
    · rename_i xs hk
      obtain ⟨a, rfl, _, vs, ev, r⟩ := rs.obj hy hk
      split at q
      · rename_i p ps e1 e2
        split at q
        · rename_i hs
          exact op_inD hu pins s σ H x _ v u Q I rx ry ⟨p, ps, pd_dp hx e1, .lst (SqL.of ev) (pds_dp r e2), hs.1, hs.2, postv1 rs (.bl _) q⟩
        · exact q.elim
      · exact q.elim
    · exact q.elim
    · rename_i o h1 h2 ho
      obtain ⟨a, rfl, _, ro⟩ := rs.obj hy ho
      split at q
      · rename_i r e
        obtain ⟨ov, g, g1, g2⟩ := getO_dget ro hx e
        obtain rfl : u = Value.ref a := ry
        refine d_in (by omega) I g rx fun s3 I3 => ⟨.bl ov.isSome, H, I3, rfl, ?_⟩
        have : ov.isSome = r.isSome := by
          cases r with
          | none => rw [g2 rfl]; rfl
          | some d => obtain ⟨z, rfl, _⟩ := g1 d rfl; rfl
        rw [this]
        exact postv1 rs (.bl _) q
      · exact q.elim
    · exact q.elim
  | _ => exact q.elim
theorem og_notIn (hu : X.A.units + 65 < cLine) : OpR X (compareOp .NotIn) (rOf X.K (fIn true)) := by
  intro pins s σ H x y v u Q I rx ry ⟨as, st, dx, dy, rs, hx, hy, q⟩
  cases dy with
  | tup xs =>
    simp only [fIn] at q
    cases hy with
    | @tup a vs _ h r =>
      split at q
      · rename_i p ps e1 e2
        split at q
        · rename_i hs
          obtain ⟨as1, r1⟩ := Dp.reads I p x v (pd_dp hx e1) rx
          obtain ⟨as2, r2⟩ := Dp.reads I (.tuple ps) (.ref a) u (.tup (SqT.of h) (pds_dp r e2)) ry
          have hc : PyData.canLayAll0 ps = true := SeqAt.canLay_of_shaped hs.2
          exact SeqAt.notIn_tuple_reads r2 r1 hc (SeqAt.canLay_of_shaped hs.1) (PyProof.Rows.room_in_shaped hs.1 hu) ⟨.bl _, H, I, rfl, postv1 rs (.bl _) q⟩
        · exact q.elim
      · exact q.elim
  | str b =>
    simp only [fIn] at q
    cases hy
    split at q
    · cases hx
      exact op_notin_str pins s σ H _ _ v u Q I rx ry ⟨_, _, rfl, rfl, postv1 rs (.bl _) q⟩
    · exact q.elim
  | obj k =>
    simp only [fIn] at q
    split at q
    · rename_i xs hk
      obtain ⟨a, rfl, _, vs, ev, r⟩ := rs.obj hy hk
      split at q
      · rename_i p ps e1 e2
        split at q
        · rename_i hs
          exact op_notInD hu pins s σ H x _ v u Q I rx ry ⟨p, ps, pd_dp hx e1, .lst (SqL.of ev) (pds_dp r e2), hs.1, hs.2, postv1 rs (.bl _) q⟩
        · exact q.elim
      · exact q.elim
    · exact q.elim
    · rename_i o h1 h2 ho
      obtain ⟨a, rfl, _, ro⟩ := rs.obj hy ho
      split at q
      · rename_i r e
        obtain ⟨ov, g, g1, g2⟩ := getO_dget ro hx e
        obtain rfl : u = Value.ref a := ry
        refine d_notIn (by omega) I g rx fun s3 I3 => ⟨.bl (!ov.isSome), H, I3, rfl, ?_⟩
        have : ov.isSome = r.isSome := by
          cases r with
          | none => rw [g2 rfl]; rfl
          | some d => obtain ⟨z, rfl, _⟩ := g1 d rfl; rfl
        rw [this]
        exact postv1 rs (.bl _) q
      · exact q.elim
    · exact q.elim
  | _ => exact q.elim
end
end Gv
/-! enumerate over a tuple -/
namespace PySem
open PySem.Spec
set_option maxHeartbeats 1000000 in
theorem gv_enum_new1 {v : Value} {o : Obj} {H : Heap → Prop} (B : Begins v o H) :
    Meets (Builtin.«enumerate.__new__» ⟨[.type "enumerate", v], []⟩) (fun _ R s => H s.heap ∧
      R (.ok (.ret (.ref (s.heap.push o).objs.size))) { s with heap := (s.heap.push o).push { cls := .type "enumerate", data := .fields #[.none, .bool false, .ref s.heap.objs.size, rawInt 0, .none, .none] } }) :=
  .of_wp fun prog w A R s h => by
    obtain ⟨hp, g, d, tk, os⟩ := s; obtain ⟨h1, h⟩ := h
    have hsub := sub_enumerate
    have q1 : ∀ {A' : Around} {E : Value → Shared → Prop} {Q : Value → Shared → Prop}, Q (.ref hp.objs.size) ⟨hp.push o, g, d, tk, os⟩ → wpAny (model prog w) A' (pyIter v) Q E ⟨hp, g, d, tk, os⟩ :=
      fun q => B.iter prog w _ _ ⟨hp, g, d, tk, os⟩ _ h1 q
    wp_walk using q1
    refine wpAny_stack_any fun st => wpAny_pure ?_
    split
    · rename_i c _ _ _ _ _
      cases (c == Value.type "enumerate")
      · wp_walk using q1
        exact ⟨_, rfl, h⟩
      · wp_walk using q1
        exact ⟨_, rfl, h⟩
    · wp_walk using q1
      exact ⟨_, rfl, h⟩
section
variable {prog : Program} {w : World} {A : Around} {E : Value → Shared → Prop} {s : Shared}
theorem gv_enum_begins {v : Value} {o : Obj} {H : Heap → Prop} {Q : Value → Shared → Prop} (B : Begins v o H) (h1 : H s.heap)
    (h : ∀ h', IsEnum h' (s.heap.objs.size + 1) s.heap.objs.size 0 .none → h'.get? s.heap.objs.size = some o → h'.objs.size = s.heap.objs.size + 2 →
      (∀ b o, s.heap.get? b = some o → h'.get? b = some o) → Q (.ref (s.heap.objs.size + 1)) { s with heap := h' }) :
    wpAny (model prog w) A (call (.type "enumerate") [v]) Q E s := by
  refine callType_new F.called_enumerate (by decide) (F.typeCall_enumerate_1 _) (F.newCall_enumerate_1 _) (fun obj => F.args_object_init_2 obj _) F.entry_enumerate_new
    (gv_enum_new1 B) ⟨h1, ?_⟩
  have hz : (s.heap.push o).objs.size = s.heap.objs.size + 1 := Heap.size_push ..
  show _ ∧ _
  rw [hz]
  have he : IsEnum ((s.heap.push o).push { cls := .type "enumerate", data := .fields #[.none, .bool false, .ref s.heap.objs.size, rawInt 0, .none, .none] }) (s.heap.objs.size + 1) s.heap.objs.size 0 .none := by
    have := Heap.get?_push_size (s.heap.push o) (o := { cls := .type "enumerate", data := .fields #[.none, .bool false, .ref s.heap.objs.size, rawInt 0, .none, .none] }) rfl
    rw [hz] at this; exact this
  refine ⟨⟨_, he, rfl⟩, h _ he (Heap.get?_push_of_some _ (Heap.get?_push_size _ B.free)) (by rw [Heap.size_push, hz]) fun b o x => Heap.get?_push_of_some _ (Heap.get?_push_of_some _ x)⟩
theorem gv_enum_endT {e it l : Addr} {i : Nat} {items : Array Value} {old : Value} {Q : Option Value → Shared → Prop} (hh : A.handled = none)
    (he : IsEnum s.heap e it i old) (hit : s.heap.IsTupleIter it l i) (hl : s.heap.IsTuple l items) (hx : items[i]? = none)
    (hQ : ∀ h', Heap.ExtBut it s.heap h' → Q none { s with heap := h' }) : wpAny (model prog w) A (pyNext (.ref e)) Q E s := by
  have hT : s.TypeIs (.ref e) "enumerate" := ⟨_, he, rfl⟩
  unfold pyNext
  refine wpAny_bind (wpAny_attempt (wpAny_callSpecial?_slot (name := Str.ofString "__next__") hT F.slot_enumerate_next
    (wpAny_call_entry F.slot_enumerate_next hT F.entry_enumerate_next ?_ (F.args_enumerate_next_1 _))))
  show wpAny _ _ (field (.ref e) 2 >>= _) _ _ _
  refine wpAny_bind (wpAny_field he rfl (x := .ref it) rfl ?_)
  refine wpAny_bind (wpAny_nextOf_tuple_end hh hit hl hx fun h' x he' hx' => ?_)
  obtain ⟨o, ho, hc⟩ := hx'
  refine wpAny_bind (wpAny_isInstance (T := "StopIteration") (b := true) ⟨o, ho, hc⟩ isSubtype_stop ?_)
  exact wpAny_pure (hQ _ he')
end
end PySem
namespace Gv
open PySem PySem.Spec L2 PyProof.Rows
/-- the tuple at a, each item in a new pair -/
def Itet (K : PySem.W.Frag) (a : Addr) : It :=
  ⟨fun i H => ∃ (xs : List V) (x : V), SqT K H a xs ∧ xs[i]? = some x, fun i H v H' => ∃ T x, v = .ref T ∧ H T = none ∧ H' = upd H T (.tup [.int (i : Nat), x]) ∧ ∀ xs, SqT K H a xs → xs[i]? = some x, fun i H => ∃ xs : List V, SqT K H a xs ∧ xs.length ≤ i⟩
theorem turn_enumT {P : Program} {w : World} {K : PySem.W.Frag} {elts : List Expr} {kk : Nat} {tpos : Pos} (a e it : Addr) :
    Turn P w K (.Tuple elts kk tpos) (Itet K a) [e, it] e (fun i h => (∃ old, IsEnum h e it ((i : Nat) : Int) old) ∧ h.IsTupleIter it a i ∧ e ≠ it) where
  mem := by simp
  obj := fun i h st b hb => by
    obtain ⟨⟨old, he⟩, ⟨o, ho, hc, hd⟩, _⟩ := st
    have e' : b = e ∨ b = it := by simpa using hb
    rcases e' with z | z
    · rw [z]; exact ⟨_, he, fun v q => nomatch q⟩
    · rw [z]; exact ⟨o, ho, fun v q => by rw [hd] at q; cases q⟩
  keep := fun i h h' st k => let ⟨⟨old, he⟩, hi, hne⟩ := st; ⟨⟨old, k e (by simp) _ he⟩, hi.at fun o q => k it (by simp) o q, hne⟩
  item := by
    intro X hP hw hK hc i pins s σ H E I hf st hg
    subst hP hw hK
    obtain ⟨⟨old, he⟩, hit, hne⟩ := st
    obtain ⟨xs, x, hq, hx⟩ := hg
    obtain ⟨its, rv, p, hz⟩ := I.tuple hq
    obtain ⟨u, hu, ru⟩ := rv.get hx
    have hel : e < s.heap.objs.size := Heap.lt_size he
    have hil : it < s.heap.objs.size := by obtain ⟨_, q, _⟩ := hit; exact Heap.lt_size q
    have hai : a ≠ it := by
      rintro rfl
      obtain ⟨o, ho, hc', _⟩ := p
      obtain ⟨o', ho', hc'', _⟩ := hit
      rw [ho] at ho'; cases ho'
      rw [hc'] at hc''
      injection hc'' with z
      exact absurd z (by decide)
    have hea : e ≠ a := by
      rintro rfl
      obtain ⟨o, ho, hc', _⟩ := p
      rw [he] at ho; cases ho
      injection hc' with z
      exact absurd z (by decide)
    have D := Draws.tuple (prog := X.prog) (w := X.w) (A := X.A.in1) (I.ok.hd hc) it a hai its.toArray
    have hlt : i < its.toArray.size := by
      have := (List.getElem?_eq_some_iff.mp hu).1
      simpa using this
    refine wpAny_pyNext_enum_itemD D he ⟨hit, p⟩ hlt hne (by simp [hne, hea]) fun y h' tk hy ho hst' hT hsz hk => ?_
    have ey : y = u := by
      rw [show its.toArray[i]? = some u from by simpa using hu] at hy
      cases hy
      rfl
    subst ey
    refine ⟨_, rfl, wpAny_letOwnedTupleGo_enum (s := { s with heap := h', toks := tk + 1 }) ho fun h'' he' sb => ?_⟩
    have hT2 : h''.get? s.heap.objs.size = some { cls := .type "tuple", data := .seq #[.int i tk, y] } := (sb.2 _ (Nat.ne_of_gt hel)).trans hT
    have new : ObjOk X.prog X.w (upd H s.heap.objs.size (.tup [.int (i : Nat), x])) h'' s.heap.objs.size (.tup [.int (i : Nat), x]) :=
      ⟨by show 2 ≤ sizeLine; decide, [.int i tk, y], .cons ⟨_, rfl⟩ (.cons ru .nil), ⟨_, hT2, rfl, _, rfl⟩⟩
    have I1 : Inv X pins σ (upd H s.heap.objs.size (.tup [.int (i : Nat), x])) { s with heap := h'', toks := tk + 1 } :=
      I.turnedNew (ch := [e, it]) (fun b ob hb q => (sb.2 b (fun z => hb (by simp [z]))).trans (hk b ob (fun z => hb (by simp [z])) (fun z => hb (by simp [z])) q)) hf (Nat.le_refl _) new
    refine ⟨.ref s.heap.objs.size, _, I1, rfl, ⟨_, x, rfl, I.hok.fresh (Nat.le_refl _), rfl, fun ys hy => by rw [I.tuple_inj hy hq]; exact hx⟩, ⟨⟨y, ?_⟩, hst'.1.at fun o q => (sb.2 it (Ne.symm hne)).trans q, hne⟩, fun b hb => ?_⟩
    · have e1 : ((i + 1 : Nat) : Int) = (i : Int) + 1 := by omega
      rw [e1]; exact he'
    · have hb' : b < s.heap.objs.size := by
        have e' : b = e ∨ b = it := by simpa using hb
        rcases e' with z | z
        · rw [z]; exact hel
        · rw [z]; exact hil
      rw [upd_ne (Nat.ne_of_lt hb')]
      exact (hf b hb).1
  done := by
    intro X hP hw hK hc i pins s σ H E I hf st hg
    subst hP hw hK
    obtain ⟨⟨old, he⟩, hit, hne⟩ := st
    obtain ⟨xs, hq, hx⟩ := hg
    obtain ⟨its, rv, p, hz⟩ := I.tuple hq
    obtain ⟨f0, f1, f2, f3, f4, f5⟩ := hf it (by simp)
    have hl := rv.length
    exact gv_enum_endT (I.ok.hd hc) he hit p (by simp; omega) fun h' eb => ⟨rfl, I.turned (t' := s.toks) (fun b o hb q => eb b o hb q) f0 f1 f3 f4 f5⟩
  self := fun A i s Q E st h => let ⟨⟨_, he⟩, _⟩ := st; wpAny_pyIter_enum he h

theorem pi_enumT {X : Cx} {e : Expr} {ta : TA} {p pos tpos : Pos} {elts : List Expr} {kk : Nat} (hg : Gl X "enumerate") (hm : X.mg "enumerate" = none) (ha : PA X [e] ta) (hs : starEach [e] X.env = [(false, eval e X.env)] := by rfl) :
    PI X (.Tuple elts kk tpos) (.Call (.Name "enumerate" p) [e] [] pos) (fun σ H R => ta σ H fun vs H1 => ∃ a xs, vs = [.ref a] ∧ SqT X.K H1 a xs ∧ R (Itet X.K a) H1) := by
  refine ⟨fun pins s σ H R I h => ?_⟩
  refine Call_ (ld_blt I hg hm boot_enumerate (PyProof.Rows.callWith_type1 (thn (ha.run pos pins s σ H _ I h) fun us s1 ⟨vs, H1, I1, r1, q1⟩ => ?_) hs rfl))
  obtain ⟨a, xs, ex, hq, q⟩ := q1
  subst ex
  cases r1 with
  | cons r rr =>
    cases rr
    cases r
    obtain ⟨its, rv, p', hz⟩ := I1.tuple hq
    refine gv_enum_begins (begins_tuple a its.toArray) p' fun h' he hit hsz hk => wpAny_pyIter_enum he ?_
    have I2 : Inv X pins σ H1 { s1 with heap := h' } := I1.kept (t' := s1.toks) hk
    refine ⟨s1.heap.objs.size + 1, [s1.heap.objs.size + 1, s1.heap.objs.size], _, _, H1, rfl, I2, turn_enumT a (s1.heap.objs.size + 1) s1.heap.objs.size, ⟨⟨.none, he⟩, ⟨_, hit, rfl, rfl⟩, Nat.succ_ne_self _⟩, fun b hb => ?_, q⟩
    have e' : b = s1.heap.objs.size + 1 ∨ b = s1.heap.objs.size := by simpa using hb
    have hle : s1.heap.objs.size ≤ b := by
      rcases e' with z | z
      · rw [z]; exact Nat.le_add_right _ _
      · rw [z]; exact Nat.le_refl _
    exact I1.fpOk hle (I1.hok.fresh hle)
/-- enumerate(list or tuple), zip of two -/
def enumL (k : Nat) : List D → List D
  | [] => []
  | d :: ds => .tup [.int k, d] :: enumL (k + 1) ds
theorem enumL_len : ∀ (ds : List D) (k : Nat), (enumL k ds).length = ds.length
  | [], _ => rfl
  | _ :: ds, k => by rw [enumL, List.length_cons, List.length_cons, enumL_len ds]
theorem enumL_get : ∀ (ds : List D) (k i : Nat) (d : D), ds[i]? = some d → (enumL k ds)[i]? = some (.tup [.int ((k + i : Nat) : Int), d])
  | [], _, _, _, h => by simp at h
  | a :: ds, k, 0, d, h => by simp at h; subst h; rfl
  | a :: ds, k, i + 1, d, h => by
    rw [enumL, List.getElem?_cons_succ, enumL_get ds (k + 1) i d (by simpa using h)]
    congr 4
    omega
theorem enumL_back (ds : List D) (i : Nat) (d : D) (h : (enumL 0 ds)[i]? = some d) : ∃ x, ds[i]? = some x ∧ d = .tup [.int (i : Nat), x] := by
  have hi : i < ds.length := by
    have := (List.getElem?_eq_some_iff.mp h).1
    rw [enumL_len] at this
    exact this
  have e := enumL_get ds 0 i ds[i] (List.getElem?_eq_getElem hi)
  rw [h] at e
  cases e
  exact ⟨ds[i], List.getElem?_eq_getElem hi, by simp⟩
def iEn (a : AD) : ID := fun en st => (a en st).bind fun xs s1 => match xs with
  | [.tup ds] => .ok ⟨enumL 0 ds, none⟩ s1
  | [.obj i] => match s1[i]? with
    | some (.lst ds) => .ok ⟨enumL 0 ds, some (i, ds)⟩ s1
    | some (.fls ds) => .ok ⟨enumL 0 ds, some (i, ds)⟩ s1
    | _ => .no
  | _ => .no
theorem jr_enL {K : PySem.W.Frag} {as0 : List Addr} {H0 : Hp} {a : Addr} {i0 : Nat} {xs : List D} (h : as0[i0]? = some a) : JR K as0 H0 (Ite K a) ⟨enumL 0 xs, some (i0, xs)⟩ where
  go := fun i as H st p rs ok d hd => by
    obtain ⟨vs, sq, g1, _⟩ := guard_at rs (p.get h) ok
    obtain ⟨x, hx, rfl⟩ := enumL_back xs i d hd
    obtain ⟨v, hv, rv⟩ := g1 x hx
    refine ⟨⟨vs, v, sq, hv⟩, fun z H' y => ?_⟩
    obtain ⟨Tp, w', rfl, hT, rfl, hy⟩ := y
    have := hy vs sq
    rw [hv] at this
    cases this
    exact ⟨Stp.new hT, rs.new hT, .tup upd_same (.cons (.int _) (.cons (rv.mono (Stp.new hT)) .nil))⟩
  stop := fun as H st p rs ok => by
    obtain ⟨vs, sq, _, g2⟩ := guard_at rs (p.get h) ok
    refine ⟨vs, sq, ?_⟩
    show vs.length ≤ (enumL 0 xs).length
    exact g2 (List.getElem?_eq_none (by show xs.length ≤ (enumL 0 xs).length; rw [enumL_len]; exact Nat.le_refl _))
theorem jr_enT {K : PySem.W.Frag} {as0 : List Addr} {H0 : Hp} {a : Addr} {ys : List V} {xs : List D} (h : H0 a = some (.tup ys)) (r : RVs K as0 H0 ys xs) : JR K as0 H0 (Itet K a) ⟨enumL 0 xs, none⟩ where
  go := fun i as H st p rs ok d hd => by
    have h' := p.tup _ _ h
    obtain ⟨x, hx, rfl⟩ := enumL_back xs i d hd
    obtain ⟨v, hv, rv⟩ := (r.mono p).get hx
    refine ⟨⟨ys, v, SqT.of h', hv⟩, fun z H' y => ?_⟩
    obtain ⟨Tp, w', rfl, hT, rfl, hy⟩ := y
    have := hy ys (SqT.of h')
    rw [hv] at this
    cases this
    exact ⟨Stp.new hT, rs.new hT, .tup upd_same (.cons (.int _) (.cons (rv.mono (Stp.new hT)) .nil))⟩
  stop := fun as H st p rs ok => ⟨ys, SqT.of (p.tup _ _ h), by rw [r.length]; show xs.length ≤ (enumL 0 xs).length; rw [enumL_len]; exact Nat.le_refl _⟩
section
variable {X : Cx} {T : Nat → Addr} {W : WX} {a b : Expr} {ds : AD} {pos p tpos : Pos} {elts : List Expr} {kk : Nat}
theorem gi_enum (ha : PA X [a] (tA X.K T W ds)) (hm : X.mg "enumerate" = none) (hg : Gl X "enumerate" := by rfl) (hs : starEach [a] X.env = [(false, eval a X.env)] := by rfl) : PI X (.Tuple elts kk tpos) (.Call (.Name "enumerate" p) [a] [] pos) (tI X.K T W (iEn ds)) := by
  refine pi_mono (pi_orT' (pi_enum hg hm ha hs) (pi_enumT hg hm ha hs)) fun σ H R ⟨en, st, as, rs, re, q⟩ => ?_
  unfold iEn at q
  cases e : ds en st with
  | no => rw [e] at q; exact q.elim
  | er x s =>
    refine .inl ⟨en, st, as, rs, re, ?_⟩
    rw [e] at q ⊢
    exact q
  | ok xs s1 =>
    rw [e] at q
    dsimp only [Re.bind] at q
    split at q
    · rename_i us
      refine .inr ⟨en, st, as, rs, re, ?_⟩
      rw [e]
      intro vs H' as' p rs' rv
      cases rv with
      | cons r1 rr =>
        cases rr
        cases r1 with
        | @tup a ys _ h r => exact ⟨a, ys, rfl, SqT.of h, q _ H' as' p rs' (jr_enT h r)⟩
    · rename_i i
      refine .inl ⟨en, st, as, rs, re, ?_⟩
      rw [e]
      split at q
      · rename_i us hx
        intro vs H' as' p rs' rv
        cases rv with
        | cons r1 rr =>
          cases rr
          cases r1 with
          | @obj a _ h =>
            obtain ⟨ys, sq, r⟩ := Sq_of rs' h (.inl hx)
            exact ⟨a, ys, rfl, sq, q _ H' as' p rs' (jr_enL h)⟩
      · rename_i us hx
        intro vs H' as' p rs' rv
        cases rv with
        | cons r1 rr =>
          cases rr
          cases r1 with
          | @obj a _ h =>
            obtain ⟨ys, sq, r⟩ := Sq_of rs' h (.inr hx)
            exact ⟨a, ys, rfl, sq, q _ H' as' p rs' (jr_enL h)⟩
      · exact q.elim
    · exact q.elim
end
end Gv
namespace Gv
open PySem PySem.Spec L2

/-! ### built-ins -/
def fLen : FN := fun ds st => match ds with
  | [.tup xs] => some (.int xs.length, st)
  | [.str y] => if y.length ≤ 16777216 then some (.int y.length, st) else none
  | [.obj i] => match st[i]? with
    | some (.lst xs) => some (.int xs.length, st)
    | some (.fls xs) => some (.int xs.length, st)
    | _ => none
  | _ => none
def fAbs : FN := fun ds st => match ds with
  | [.int i] => some (.int (if i < 0 then -i else i), st)
  | _ => none
def fMax2 : FN := fun ds st => match ds with
  | [.int i, .int j] => some (.int (if j > i then j else i), st)
  | _ => none
def fMin2 : FN := fun ds st => match ds with
  | [.int i, .int j] => some (.int (if j < i then j else i), st)
  | _ => none
def fInt1 : FN := fun ds st => match ds with
  | [.int i] => some (.int i, st)
  | [.bl k] => some (.int (if k then 1 else 0), st)
  | _ => none
def seqOf (st : Sto) : D → Option (List D)
  | .tup xs => some xs
  | .obj i => (st[i]?).bind Ob.seq
  | _ => none
def fList : FN := fun ds st => match ds with
  | [d] => (seqOf st d).map fun xs => (.obj st.length, st ++ [.lst xs])
  | _ => none
def fTuple : FN := fun ds st => match ds with
  | [d] => (seqOf st d).map fun xs => (.tup xs, st)
  | _ => none
def blsD : List D → Option (List Bool)
  | [] => some []
  | .bl b :: ds => (blsD ds).map fun bs => b :: bs
  | _ => none
def intsD : List D → Option (List Int)
  | [] => some []
  | .int b :: ds => (intsD ds).map fun bs => b :: bs
  | _ => none
def lstOf (st : Sto) : D → Option (List D)
  | .obj i => (st[i]?).bind Ob.seq
  | _ => none
def fAny : FN := fun ds st => match ds with
  | [d] => ((lstOf st d).bind blsD).map fun bs => (.bl (bs.any id), st)
  | _ => none
def fAll : FN := fun ds st => match ds with
  | [d] => ((lstOf st d).bind blsD).map fun bs => (.bl (bs.all id), st)
  | _ => none
def fSum : FN := fun ds st => match ds with
  | [d] => ((lstOf st d).bind intsD).map fun ns => (.int ns.sum, st)
  | _ => none
def fMin1 : FN := fun ds st => match ds with
  | [d] => ((seqOf st d).bind intsD).bind fun ns => match ns with
    | n :: ns => if ns.length < 1000000 then some (.int (ns.foldl min n), st) else none
    | [] => none
  | _ => none
def fMax1 : FN := fun ds st => match ds with
  | [d] => ((seqOf st d).bind intsD).bind fun ns => match ns with
    | n :: ns => if ns.length < 1000000 then some (.int (ns.foldl max n), st) else none
    | [] => none
  | _ => none
section
variable {K : PySem.W.Frag} {as : List Addr} {H : Hp} {st : Sto}
theorem RVs.one {vs : List V} {d : D} (r : RVs K as H vs [d]) : ∃ v, vs = [v] ∧ RV K as H v d := by
  cases r with
  | cons h r => cases r; exact ⟨_, rfl, h⟩
theorem RVs.two {vs : List V} {d e : D} (r : RVs K as H vs [d, e]) : ∃ v w, vs = [v, w] ∧ RV K as H v d ∧ RV K as H w e := by
  cases r with
  | cons h r => cases r with
    | cons h2 r => cases r; exact ⟨_, _, rfl, h, h2⟩
theorem seqOf_sq (rs : RS K as H st) {d : D} {v : V} {xs : List D} (r : RV K as H v d) (e : seqOf st d = some xs) : ∃ p ys, v = .ref p ∧ (SqL K H p ys ∨ SqT K H p ys) ∧ RVs K as H ys xs ∧ (∀ i, d = .obj i → SqL K H p ys) ∧ ((∀ i, d ≠ .obj i) → H p = some (.tup ys)) := by
  cases d with
  | tup zs =>
    cases e
    cases r with
    | @tup a ys _ h r => exact ⟨a, ys, rfl, .inr (SqT.of h), r, (fun i z => nomatch z), fun _ => h⟩
  | obj i =>
    simp only [seqOf] at e
    cases eo : st[i]? with
    | none => rw [eo] at e; cases e
    | some o =>
      rw [eo] at e
      obtain ⟨a, rfl, _, ro⟩ := rs.obj r eo
      obtain ⟨ys, sq, r⟩ := ro.seq e
      exact ⟨a, ys, rfl, .inl sq, r, fun _ _ => sq, fun z => absurd rfl (z i)⟩
  | _ => cases e
theorem lstOf_sq (rs : RS K as H st) {d : D} {v : V} {xs : List D} (r : RV K as H v d) (e : lstOf st d = some xs) : ∃ p ys, v = .ref p ∧ SqL K H p ys ∧ RVs K as H ys xs := by
  cases d with
  | obj i =>
    obtain ⟨p, ys, e1, _, r1, h, _⟩ := seqOf_sq rs r (show seqOf st (.obj i) = some xs from e)
    exact ⟨p, ys, e1, h i rfl, r1⟩
  | _ => cases e
theorem blsD_rv : ∀ {ds : List D} {bs : List Bool} {vs : List V}, RVs K as H vs ds → blsD ds = some bs → vs = bs.map V.bl
  | [], _, _, .nil, e => by cases e; rfl
  | d :: ds, bs, _, .cons h r, e => by
    cases d with
    | bl b =>
      simp only [blsD] at e
      cases e1 : blsD ds with
      | none => rw [e1] at e; cases e
      | some cs => rw [e1] at e; cases e; cases h; rw [blsD_rv r e1]; rfl
    | _ => cases e
theorem intsD_rv : ∀ {ds : List D} {bs : List Int} {vs : List V}, RVs K as H vs ds → intsD ds = some bs → vs = bs.map V.int
  | [], _, _, .nil, e => by cases e; rfl
  | d :: ds, bs, _, .cons h r, e => by
    cases d with
    | int b =>
      simp only [intsD] at e
      cases e1 : intsD ds with
      | none => rw [e1] at e; cases e
      | some cs => rw [e1] at e; cases e; cases h; rw [intsD_rv r e1]; rfl
    | _ => cases e
end
section
variable {X : Cx}
theorem cg_len : CallR X (.builtin "len") (cOf X.K fLen) := by
  intro pins s σ H xs us Q I r ⟨as, st, ds, rs, rx, q⟩
  unfold fLen at q
  split at q
  · obtain ⟨v, rfl, rv⟩ := rx.one
    cases rv with
    | @tup a ys _ h r' => exact call_len pins s σ H _ us Q I r ⟨_, ys.length, rfl, .inr ⟨ys, SqT.of h, rfl⟩, by rw [r'.length]; exact postv1 rs (.int _) q⟩
  · obtain ⟨v, rfl, rv⟩ := rx.one
    cases rv
    split at q
    · exact call_len pins s σ H _ us Q I r ⟨_, _, rfl, ⟨by rw [sizeLine_eq]; assumption, rfl⟩, postv1 rs (.int _) q⟩
    · exact q.elim
  · obtain ⟨v, rfl, rv⟩ := rx.one
    split at q
    · rename_i zs hz
      obtain ⟨a, rfl, _, ys, ey, r'⟩ := rs.obj rv hz
      exact call_len pins s σ H _ us Q I r ⟨_, ys.length, rfl, .inl ⟨ys, SqL.of ey, rfl⟩, by rw [r'.length]; exact postv1 rs (.int _) q⟩
    · rename_i zs hz
      obtain ⟨a, rfl, _, ys, ey, r'⟩ := rs.obj rv hz
      exact call_len pins s σ H _ us Q I r ⟨_, ys.length, rfl, .inl ⟨ys, ey.sq, rfl⟩, by rw [r'.length]; exact postv1 rs (.int _) q⟩
    · exact q.elim
  · exact q.elim
theorem cg_abs : CallR X (.builtin "abs") (cOf X.K fAbs) := by
  intro pins s σ H xs us Q I r ⟨as, st, ds, rs, rx, q⟩
  unfold fAbs at q
  split at q
  · obtain ⟨v, rfl, rv⟩ := rx.one
    cases rv
    exact call_abs pins s σ H _ us Q I r ⟨_, rfl, postv1 rs (.int _) q⟩
  · exact q.elim
theorem cg_max2 (hc : X.calm = true) : CallR X (.builtin "max") (cOf X.K fMax2) := by
  intro pins s σ H xs us Q I r ⟨as, st, ds, rs, rx, q⟩
  unfold fMax2 at q
  split at q
  · obtain ⟨v, w, rfl, rv, rw'⟩ := rx.two
    cases rv; cases rw'
    exact call_max2 hc pins s σ H _ us Q I r ⟨_, _, rfl, postv1 rs (.int _) q⟩
  · exact q.elim
theorem cg_min2 (hc : X.calm = true) : CallR X (.builtin "min") (cOf X.K fMin2) := by
  intro pins s σ H xs us Q I r ⟨as, st, ds, rs, rx, q⟩
  unfold fMin2 at q
  split at q
  · obtain ⟨v, w, rfl, rv, rw'⟩ := rx.two
    cases rv; cases rw'
    exact call_min2 hc pins s σ H _ us Q I r ⟨_, _, rfl, postv1 rs (.int _) q⟩
  · exact q.elim
theorem cg_int : CallR X (.type "int") (cOf X.K fInt1) := by
  intro pins s σ H xs us Q I r ⟨as, st, ds, rs, rx, q⟩
  unfold fInt1 at q
  split at q
  · obtain ⟨v, rfl, rv⟩ := rx.one
    cases rv
    exact call_int1 pins s σ H _ us Q I r (.inl ⟨_, rfl, postv1 rs (.int _) q⟩)
  · obtain ⟨v, rfl, rv⟩ := rx.one
    cases rv
    exact call_int1 pins s σ H _ us Q I r (.inr ⟨_, rfl, postv1 rs (.int _) q⟩)
  · exact q.elim
theorem cg_list : CallR X (.type "list") (cOf X.K fList) := by
  intro pins s σ H xs us Q I r ⟨as, st, ds, rs, rx, q⟩
  unfold fList at q
  split at q
  · rename_i d
    obtain ⟨v, rfl, rv⟩ := rx.one
    cases e : seqOf st d with
    | none => rw [e] at q; exact q.elim
    | some zs =>
      rw [e] at q
      obtain ⟨p, ys, rfl, sq, r', _, _⟩ := seqOf_sq rs rv e
      exact call_list_of pins s σ H _ us Q I r ⟨p, ys, rfl, sq, fun l hl => q _ _ (as ++ [l]) (Stp.alloc hl) (rs.alloc hl ⟨ys, upd_same, r'.mono (Stp.alloc hl)⟩) (newAt rs)⟩
  · exact q.elim
theorem cg_tuple : CallR X (.type "tuple") (cOf X.K fTuple) := by
  intro pins s σ H xs us Q I r ⟨as, st, ds, rs, rx, q⟩
  unfold fTuple at q
  split at q
  · rename_i d
    obtain ⟨v, rfl, rv⟩ := rx.one
    cases e : seqOf st d with
    | none => rw [e] at q; exact q.elim
    | some zs =>
      rw [e] at q
      obtain ⟨p, ys, rfl, sq, r', h1, h2⟩ := seqOf_sq rs rv e
      by_cases ho : ∃ i, d = .obj i
      · obtain ⟨i, rfl⟩ := ho
        exact call_tuple_of pins s σ H _ us Q I r ⟨p, ys, rfl, .inl ⟨h1 i rfl, fun l hl => q _ _ as (Stp.new hl) (rs.new hl) (.tup upd_same (r'.mono (Stp.new hl)))⟩⟩
      · have ht := h2 fun i z => ho ⟨i, z⟩
        exact call_tuple_of pins s σ H _ us Q I r ⟨p, ys, rfl, .inr ⟨SqT.of ht, postv1 rs (.tup ht r') q⟩⟩
  · exact q.elim
theorem cg_any (hc : X.calm = true) : CallR X (.builtin "any") (cOf X.K fAny) := by
  intro pins s σ H xs us Q I r ⟨as, st, ds, rs, rx, q⟩
  unfold fAny at q
  split at q
  · rename_i d
    obtain ⟨v, rfl, rv⟩ := rx.one
    cases e : lstOf st d with
    | none => rw [e] at q; exact q.elim
    | some zs =>
      rw [e] at q
      cases e2 : blsD zs with
      | none => simp only [Option.bind_some, e2] at q; exact q.elim
      | some bs =>
        simp only [Option.bind_some, e2] at q
        obtain ⟨p, ys, rfl, sq, r'⟩ := lstOf_sq rs rv e
        rw [blsD_rv r' e2] at sq
        exact cr_any hc pins s σ H _ us Q I r ⟨p, bs, rfl, sq, postv1 rs (.bl _) q⟩
  · exact q.elim
theorem cg_all (hc : X.calm = true) : CallR X (.builtin "all") (cOf X.K fAll) := by
  intro pins s σ H xs us Q I r ⟨as, st, ds, rs, rx, q⟩
  unfold fAll at q
  split at q
  · rename_i d
    obtain ⟨v, rfl, rv⟩ := rx.one
    cases e : lstOf st d with
    | none => rw [e] at q; exact q.elim
    | some zs =>
      rw [e] at q
      cases e2 : blsD zs with
      | none => simp only [Option.bind_some, e2] at q; exact q.elim
      | some bs =>
        simp only [Option.bind_some, e2] at q
        obtain ⟨p, ys, rfl, sq, r'⟩ := lstOf_sq rs rv e
        rw [blsD_rv r' e2] at sq
        exact cr_all hc pins s σ H _ us Q I r ⟨p, bs, rfl, sq, postv1 rs (.bl _) q⟩
  · exact q.elim
theorem cg_sum (hc : X.calm = true) : CallR X (.builtin "sum") (cOf X.K fSum) := by
  intro pins s σ H xs us Q I r ⟨as, st, ds, rs, rx, q⟩
  unfold fSum at q
  split at q
  · rename_i d
    obtain ⟨v, rfl, rv⟩ := rx.one
    cases e : lstOf st d with
    | none => rw [e] at q; exact q.elim
    | some zs =>
      rw [e] at q
      cases e2 : intsD zs with
      | none => simp only [Option.bind_some, e2] at q; exact q.elim
      | some bs =>
        simp only [Option.bind_some, e2] at q
        obtain ⟨p, ys, rfl, sq, r'⟩ := lstOf_sq rs rv e
        rw [intsD_rv r' e2] at sq
        exact cr_sum hc pins s σ H _ us Q I r ⟨p, bs, rfl, sq, postv1 rs (.int _) q⟩
  · exact q.elim
/-! least, greatest of ints -/
theorem readsAll_ints {h : Heap} : ∀ {ns : List Int} {us : List Value}, Vals (ns.map V.int) us → ∃ as, ReadsAll h us (ns.map PyData.int) as
  | [], _, .nil => ⟨_, .nil⟩
  | n :: ns, _, .cons r t => by
    obtain ⟨t', rfl⟩ := r
    obtain ⟨as, q⟩ := readsAll_ints (h := h) (ns := ns) t
    exact ⟨_, .cons (.int n t') q⟩
theorem depth_ints : ∀ ns : List Int, PyData.depthAll (ns.map PyData.int) = 0
  | [] => by simp [PyData.depthAll]
  | n :: ns => by simp [PyData.depthAll, PyData.depth, depth_ints ns]
theorem cg_min1 (hc : X.calm = true) (hu : X.A.units + 64 < cLine) : CallR X (.builtin "min") (cOf X.K fMin1) := by
  intro pins s σ H xs us Q I r ⟨as, st, ds, rs, rx, q⟩
  unfold fMin1 at q
  split at q
  · rename_i d
    obtain ⟨v, rfl, rv⟩ := rx.one
    cases e : seqOf st d with
    | none => rw [e] at q; exact q.elim
    | some zs =>
      rw [e] at q
      cases e2 : intsD zs with
      | none => simp only [Option.bind_some, e2] at q; exact q.elim
      | some bs =>
        simp only [Option.bind_some, e2] at q
        cases bs with
        | nil => exact q.elim
        | cons n ns =>
          dsimp only at q
          split at q
          · obtain ⟨p, ys, rfl, sq, r', _, _⟩ := seqOf_sq rs rv e
            have ey := intsD_rv r' e2
            subst ey
            rw [Vals.ref1 r]
            have al : PySem.W.AlikeAll ((n :: ns).map PyData.int) := ⟨fun x hx y hy => by
              obtain ⟨a, _, rfl⟩ := List.mem_map.mp hx
              obtain ⟨b, _, rfl⟩ := List.mem_map.mp hy
              rfl, fun x hx => by
              obtain ⟨a, _, rfl⟩ := List.mem_map.mp hx
              exact fun z => nomatch z⟩
            have dp : X.A.units + 1 + PyData.depthAll ((n :: ns).map PyData.int) < cLine := by rw [depth_ints]; omega
            have fin : ∀ (i : Nat) (v : Value) (h' : Heap) (tk : Nat) (bs : List Addr), Reads h' v (PySem.W.minD (.int n) (ns.map .int)) bs → (∀ b o, s.heap.get? b = some o → h'.get? b = some o) → EP X pins σ Q v { s with heap := h', toks := tk } := fun i v h' tk bs rd k => by
              rw [PySem.W.minD_ints] at rd
              cases rd
              exact ⟨.int _, H, I.kept k, ⟨_, rfl⟩, postv1 rs (.int _) q⟩
            rcases sq with sq | sq
            · obtain ⟨its, rv', hl, _⟩ := I.list sq
              obtain ⟨as', ra⟩ := readsAll_ints (h := s.heap) rv'
              exact PySem.W.min_list_data (I.ok.hd hc) hl.isList (by simpa using ra) al dp fun i v h' tk bs _ rd k => fin i v h' tk bs rd k
            · obtain ⟨its, rv', hl, _⟩ := I.tuple sq
              obtain ⟨as', ra⟩ := readsAll_ints (h := s.heap) rv'
              exact PySem.W.min_tuple_data (I.ok.hd hc) (show s.heap.IsTuple _ its.toArray from hl) (by simpa using ra) al dp fun i v h' tk bs _ rd k => fin i v h' tk bs rd k
          · exact q.elim
  · exact q.elim
theorem cg_max1 (hc : X.calm = true) (hu : X.A.units + 64 < cLine) : CallR X (.builtin "max") (cOf X.K fMax1) := by
  intro pins s σ H xs us Q I r ⟨as, st, ds, rs, rx, q⟩
  unfold fMax1 at q
  split at q
  · rename_i d
    obtain ⟨v, rfl, rv⟩ := rx.one
    cases e : seqOf st d with
    | none => rw [e] at q; exact q.elim
    | some zs =>
      rw [e] at q
      cases e2 : intsD zs with
      | none => simp only [Option.bind_some, e2] at q; exact q.elim
      | some bs =>
        simp only [Option.bind_some, e2] at q
        cases bs with
        | nil => exact q.elim
        | cons n ns =>
          dsimp only at q
          split at q
          · obtain ⟨p, ys, rfl, sq, r', _, _⟩ := seqOf_sq rs rv e
            have ey := intsD_rv r' e2
            subst ey
            rw [Vals.ref1 r]
            have al : PySem.W.AlikeAll ((n :: ns).map PyData.int) := ⟨fun x hx y hy => by
              obtain ⟨a, _, rfl⟩ := List.mem_map.mp hx
              obtain ⟨b, _, rfl⟩ := List.mem_map.mp hy
              rfl, fun x hx => by
              obtain ⟨a, _, rfl⟩ := List.mem_map.mp hx
              exact fun z => nomatch z⟩
            have dp : X.A.units + 1 + PyData.depthAll ((n :: ns).map PyData.int) < cLine := by rw [depth_ints]; omega
            have fin : ∀ (i : Nat) (v : Value) (h' : Heap) (tk : Nat) (bs : List Addr), Reads h' v (PySem.W.maxD (.int n) (ns.map .int)) bs → (∀ b o, s.heap.get? b = some o → h'.get? b = some o) → EP X pins σ Q v { s with heap := h', toks := tk } := fun i v h' tk bs rd k => by
              rw [PySem.W.maxD_ints] at rd
              cases rd
              exact ⟨.int _, H, I.kept k, ⟨_, rfl⟩, postv1 rs (.int _) q⟩
            rcases sq with sq | sq
            · obtain ⟨its, rv', hl, _⟩ := I.list sq
              obtain ⟨as', ra⟩ := readsAll_ints (h := s.heap) rv'
              exact PySem.W.max_list_data (I.ok.hd hc) hl.isList (by simpa using ra) al dp fun i v h' tk bs _ rd k => fin i v h' tk bs rd k
            · obtain ⟨its, rv', hl, _⟩ := I.tuple sq
              obtain ⟨as', ra⟩ := readsAll_ints (h := s.heap) rv'
              exact PySem.W.max_tuple_data (I.ok.hd hc) (show s.heap.IsTuple _ its.toArray from hl) (by simpa using ra) al dp fun i v h' tk bs _ rd k => fin i v h' tk bs rd k
          · exact q.elim
  · exact q.elim
end
end Gv
namespace Gv
open PySem PySem.Spec L2

/-! ### methods -/
def isL (st : Sto) : D → Bool
  | .obj i => match st[i]? with
    | some (.lst _) => true
    | some (.fls _) => true
    | _ => false
  | _ => false
abbrev FM := D → List D → Sto → Vr
def dM (chk : Sto → D → Bool) (f : FM) (o : ED) (a : AD) : ED := fun en st => (o en st).bind fun x s1 => if chk s1 x = true then (a en s1).bind fun xs s2 => (f x xs s2).re else .no
def mOf (K : PySem.W.Frag) (f : FM) : V → List V → Hp → VK → Prop := fun x vs H Q => ∃ as st dx ds, RS K as H st ∧ RV K as H x dx ∧ RVs K as H vs ds ∧ PostV K as H (f dx ds st) Q
def fAppend : FM := fun x ds st => match x, ds with
  | .obj i, [y] => match st[i]? with
    | some (.lst xs) => if xs.length < 16777216 then some (.non, st.set i (.lst (xs ++ [y]))) else none
    | _ => none
  | _, _ => none
def fExtend : FM := fun x ds st => match x, ds with
  | .obj i, [.obj j] => match st[i]?, st[j]? with
    | some (.lst xs), some (.lst ys) => if xs.length + ys.length ≤ 16777216 then some (.non, st.set i (.lst (xs ++ ys))) else none
    | _, _ => none
  | _, _ => none
def fPop : FM := fun x ds st => match x, ds with
  | .obj i, [] => match st[i]? with
    | some (.lst xs) => match xs[xs.length - 1]? with
      | some y => some (y, st.set i (.lst xs.dropLast))
      | none => none
    | _ => none
  | _, _ => none
section
variable {K : PySem.W.Frag} {as : List Addr} {H : Hp} {st : Sto}
theorem isL_ty {x : V} {d : D} (rs : RS K as H st) (rx : RV K as H x d) (e : isL st d = true) : tyV K "list" x H := by
  cases d with
  | obj i =>
    simp only [isL] at e
    split at e
    · rename_i xs hx
      obtain ⟨a, rfl, _, ys, ey, _⟩ := rs.obj rx hx
      exact .inl ⟨rfl, _, SqL.of ey⟩
    · rename_i xs hx
      obtain ⟨a, rfl, _, ys, ey, _⟩ := rs.obj rx hx
      exact .inl ⟨rfl, _, ey.sq⟩
    · cases e
  | _ => cases e
end
section
variable {X : Cx} {T : Nat → Addr} {W : WX} {o e : Expr} {es : List Expr} {dO : ED} {da : AD} {apos cpos : Pos} {name : Str} {id : String} {f : FM}
theorem g_m (slot : Slot "list" name id) (hty : typeOf (.builtin id) = pure (.type "method_descriptor")) (hm : MtR X id (mOf X.K f)) (ho : PE X o (tE X.K T W dO)) (ha : PA X (e :: es) (tA X.K T W da))
    (hbase : attributeBase o name X.env (eval o X.env) = eval o X.env := by rfl)
    (hfew : ((backTo cpos (starEach (e :: es) X.env)).all (fun x => !x.1) && (backToKw cpos (keywordEach [] X.env)).all (fun x => x.1.isSome)
      && decide ((e :: es).length + ([] : List Keyword).length + (if ([] : List Keyword).isEmpty then 0 else 1) < 30)) = true := by rfl)
    (hline : (apos.endLine == cpos.line) = true := by rfl) (hs : starEach (e :: es) X.env = (false, eval e X.env) :: starEach es X.env := by rfl) (hplain : (backTo cpos (starEach es X.env)).any (·.1) = false := by rfl) :
    PE X (.Call (.Attribute o name apos) (e :: es) [] cpos) (tE X.K T W (dM isL f dO da)) := by
  refine pe_mono (pe_bm PySem.F.plainAttrs_list slot hty hm ho ha hbase hfew hline hs hplain) fun σ H Q ⟨en, st, as, rs, re, q⟩ => ?_
  refine ⟨en, st, as, rs, re, q.bind.imp fun x H1 ⟨as1, s1, dx, p1, rs1, rx, q1⟩ => ?_⟩
  split at q1
  · rename_i c
    refine ⟨isL_ty rs1 rx c, en, s1, as1, rs1, re.mono p1, q1.bind.imp fun xs H2 ⟨as2, s2, dxs, p2, rs2, rxs, q2⟩ => ?_⟩
    exact ⟨as2, s2, dx, dxs, rs2, rx.mono p2, rxs, q2.v⟩
  · exact q1.elim
theorem g_m0 (slot : Slot "list" name id) (hty : typeOf (.builtin id) = pure (.type "method_descriptor")) (hm : MtR X id (mOf X.K f)) (ho : PE X o (tE X.K T W dO))
    (hbase : attributeBase o name X.env (eval o X.env) = eval o X.env := by rfl) (hline : (apos.endLine == cpos.line) = true := by rfl) :
    PE X (.Call (.Attribute o name apos) [] [] cpos) (tE X.K T W (dM isL f dO dNil)) := by
  refine pe_mono (pe_bm0 PySem.F.plainAttrs_list slot hty hm ho hbase hline) fun σ H Q ⟨en, st, as, rs, re, q⟩ => ?_
  refine ⟨en, st, as, rs, re, q.bind.imp fun x H1 ⟨as1, s1, dx, p1, rs1, rx, q1⟩ => ?_⟩
  split at q1
  · rename_i c
    exact ⟨isL_ty rs1 rx c, as1, s1, dx, [], rs1, rx, .nil, Post.v q1⟩
  · exact q1.elim
theorem mg_append : MtR X "list.append" (mOf X.K fAppend) := by
  intro pins s σ H x xs v us Q I rx rxs ⟨as, st, dx, ds, rs, hx, hxs, q⟩
  unfold fAppend at q
  split at q
  · rename_i i y
    split at q
    · rename_i zs hz
      split at q
      · rename_i hl
        obtain ⟨a, rfl, ha, ys, ey, r⟩ := rs.obj hx hz
        obtain ⟨w', rfl, rw'⟩ := hxs.one
        refine mt_append pins s σ H _ _ v us Q I rx rxs ⟨a, ys, w', rfl, rfl, ey, by rw [r.length, sizeLine_eq]; exact hl, ?_⟩
        exact q _ _ as (Stp.write ha ey trivial) (rs.write (y := .lst (zs ++ [y])) ha hz trivial trivial ⟨_, upd_same, (r.append (.cons rw' .nil)).mono (Stp.write ha ey trivial)⟩) .non
      · exact q.elim
    · exact q.elim
  · exact q.elim
theorem mg_extend : MtR X "list.extend" (mOf X.K fExtend) := by
  intro pins s σ H x xs v us Q I rx rxs ⟨as, st, dx, ds, rs, hx, hxs, q⟩
  unfold fExtend at q
  split at q
  · rename_i i j
    split at q
    · rename_i zs ws hz hw
      split at q
      · rename_i hl
        obtain ⟨a, rfl, ha, ys, ey, r⟩ := rs.obj hx hz
        obtain ⟨w', rfl, rw'⟩ := hxs.one
        obtain ⟨b, rfl, hb, ys2, ey2, r2⟩ := rs.obj rw' hw
        refine mt_extend pins s σ H _ _ v us Q I rx rxs ⟨a, b, ys, ys2, rfl, rfl, ey, ey2, by rw [r.length, r2.length, sizeLine_eq]; exact hl, ?_⟩
        exact q _ _ as (Stp.write ha ey trivial) (rs.write (y := .lst (zs ++ ws)) ha hz trivial trivial ⟨_, upd_same, (r.append r2).mono (Stp.write ha ey trivial)⟩) .non
      · exact q.elim
    · exact q.elim
  · exact q.elim
theorem mg_pop : MtR X "list.pop" (mOf X.K fPop) := by
  intro pins s σ H x xs v us Q I rx rxs ⟨as, st, dx, ds, rs, hx, hxs, q⟩
  unfold fPop at q
  split at q
  · split at q
    · rename_i zs hz
      split at q
      · rename_i y hy
        obtain ⟨a, rfl, ha, ys, ey, r⟩ := rs.obj hx hz
        cases hxs
        obtain ⟨w', hw, rw'⟩ := r.get hy
        refine mt_pop pins s σ H _ _ v us Q I rx rxs ⟨a, ys, w', rfl, rfl, ey, by rw [r.length]; exact hw, ?_⟩
        exact q _ _ as (Stp.write ha ey trivial) (rs.write (y := .lst zs.dropLast) ha hz trivial trivial ⟨_, upd_same, r.dropLast.mono (Stp.write ha ey trivial)⟩) (rw'.mono (Stp.write ha ey trivial))
      · exact q.elim
    · exact q.elim
  · exact q.elim
end

/-! ### slices -/
def cutD {α : Type} (xs : List α) (lo hi : Option Int) : List α := (xs.drop (HT.sIx xs.length 0 lo)).take (HT.sIx xs.length xs.length hi - HT.sIx xs.length 0 lo)
def fSl (x : D) (lo hi : Option Int) (st : Sto) : Vr := match x with
  | .tup xs => some (.tup (cutD xs lo hi), st)
  | .obj i => match (st[i]?).bind Ob.seq with
    | some xs => some (.obj st.length, st ++ [.lst (cutD xs lo hi)])
    | none => none
  | _ => none
/-- a part of a slice -/
abbrev OD := En → Sto → Re (Option Int)
def oNo : OD := fun _ st => .ok none st
def oSo (a : ED) : OD := fun en st => (a en st).bind fun x s1 => match x with
  | .int i => .ok (some i) s1
  | _ => .no
def dSl (a : ED) (l h : OD) : ED := fun en st => (a en st).bind fun x s1 => (l en s1).bind fun i s2 => (h en s2).bind fun j s3 => (fSl x i j s3).re
def relO (_ : List Addr) (_ : Hp) (b c : Option Int) : Prop := b = c
def tO (K : PySem.W.Frag) (T : Nat → Addr) (W : WX) (d : OD) : TO := fun σ H Q => ∃ en st as, RS K as H st ∧ RE K as H σ en ∧ Post K T relO W σ as H (d en st) Q
theorem RVs.slice {K : PySem.W.Frag} {as : List Addr} {H : Hp} {vs : List V} {ds : List D} (r : RVs K as H vs ds) (lo hi : Option Int) : RVs K as H (cutV vs lo hi) (cutD ds lo hi) := by
  unfold cutV cutD
  rw [r.length]
  exact (r.drop _).take _
theorem HT_le (n : Nat) (o : Option Int) : HT.sIx n n o ≤ n := HT.sIx_le n n (Nat.le_refl _) o
section
variable {X : Cx} {T : Nat → Addr} {W : WX} {a : Expr} {lo hi : Option Expr} {da : ED} {dl dh : OD} {pos p2 : Pos}
theorem go_no : PO X none (tO X.K T W oNo) := ⟨fun pins s σ H Q I ⟨en, st, as, rs, re, q⟩ => po_none.run pins s σ H Q I (q none H as Stp.refl rs rfl)⟩
theorem go_so (h : PE X a (tE X.K T W da)) : PO X (some a) (tO X.K T W (oSo da)) := ⟨fun pins s σ H Q I ⟨en, st, as, rs, re, q⟩ => (po_some h).run pins s σ H Q I
  ⟨en, st, as, rs, re, q.bind.imp fun x H1 ⟨as1, s1, dx, p1, rs1, rx, q1⟩ => by
    cases rx with
    | int i => exact ⟨i, rfl, q1 _ H1 as1 Stp.refl rs1 rfl⟩
    | _ => exact q1.elim⟩⟩
theorem sl_g : SlR X (fun x l h H Q => ∃ as st dx, RS X.K as H st ∧ RV X.K as H x dx ∧ PostV X.K as H (fSl dx l h st) Q) := by
  intro pins s σ H x v vl vu l h sl Q I rx hs pl pu ⟨as, st, dx, rs, hx, q⟩
  cases dx with
  | tup xs =>
    cases hx with
    | @tup a ys _ hh r =>
      refine sl_tupA pins s σ H _ v vl vu l h sl Q I rx hs pl pu ⟨a, ys, rfl, SqT.of hh, fun hw => ?_, fun hw p hp => q _ _ as (Stp.new hp) (rs.new hp) (.tup upd_same ((r.slice l h).mono (Stp.new hp)))⟩
      have e : cutD xs l h = xs := by
        unfold cutD
        rw [← r.length, hw.1, hw.2, List.drop_zero, Nat.sub_zero, r.length, List.take_length]
      simp only [fSl, e] at q
      exact postv1 rs (.tup hh r) q
  | obj i =>
    simp only [fSl] at q
    split at q
    · rename_i xs e
      cases eo : st[i]? with
      | none => rw [eo] at e; cases e
      | some o =>
        rw [eo] at e
        obtain ⟨a, rfl, _, ro⟩ := rs.obj hx eo
        obtain ⟨ys, sq, r⟩ := ro.seq e
        exact sl_list pins s σ H _ v vl vu l h sl Q I rx hs pl pu ⟨a, ys, rfl, sq, fun p hp => q _ _ (as ++ [p]) (Stp.alloc hp) (rs.alloc hp ⟨_, upd_same, (r.slice l h).mono (Stp.alloc hp)⟩) (newAt rs)⟩
    · exact q.elim
  | _ => exact q.elim
theorem g_sl (ha : PE X a (tE X.K T W da)) (hl : PO X lo (tO X.K T W dl)) (hh : PO X hi (tO X.K T W dh)) : PE X (.Subscript a (.Slice lo hi none p2) pos) (tE X.K T W (dSl da dl dh)) := by
  refine pe_mono (pe_slice sl_g ha hl hh) fun σ H Q ⟨en, st, as, rs, re, q⟩ => ?_
  refine ⟨en, st, as, rs, re, q.bind.imp fun x H1 ⟨as1, s1, dx, p1, rs1, rx, q1⟩ => ?_⟩
  refine ⟨en, s1, as1, rs1, re.mono p1, (Post.bind (rel := relO) q1).imp fun i H2 ⟨as2, s2, i', p2, rs2, ri, q2⟩ => ?_⟩
  cases ri
  refine ⟨en, s2, as2, rs2, (re.mono p1).mono p2, (Post.bind (rel := relO) q2).imp fun j H3 ⟨as3, s3, j', p3, rs3, rj, q3⟩ => ?_⟩
  cases rj
  exact ⟨as3, s3, dx, rs3, (rx.mono p2).mono p3, q3.v⟩
end

/-! ### {}, is, isinstance -/
def dNewK : ED := fun _ st => .ok (.obj st.length) (st ++ [.dK []])
def dNewT : ED := fun _ st => .ok (.obj st.length) (st ++ [.dT []])
def nonB : D → Bool
  | .non => true
  | _ => false
def fIs (neg : Bool) : F2 := fun x y st => match y with
  | .non => some (.bl (if neg then !nonB x else nonB x), st)
  | .bl b => match x with
    | .bl a => some (.bl (if neg then !decide (a = b) else decide (a = b)), st)
    | _ => none
  | _ => none
def tyD : D → String
  | .non => "NoneType" | .bl _ => "bool" | .int _ => "int" | .str _ => "str" | .tup _ => "tuple" | .obj _ => "?"
def dIsI (n : String) (a : ED) : ED := fun en st => (a en st).bind fun x s1 => if tyD x = n then .ok (.bl true) s1 else .no
section
variable {X : Cx} {T : Nat → Addr} {W : WX} {a : Expr} {da : ED} {pos p p2 : Pos}
theorem g_newK : PE X (.Dict [] [] pos) (tE X.K T W dNewK) := pe_mono pe_dnewK fun σ H Q ⟨en, st, as, rs, re, q⟩ l hl => q _ _ (as ++ [l]) (Stp.alloc hl) (rs.alloc hl ⟨[], upd_same, .nil⟩) (newAt rs)
theorem g_newT : PE X (.Dict [] [] pos) (tE X.K T W dNewT) := pe_mono pe_dnewT fun σ H Q ⟨en, st, as, rs, re, q⟩ l hl => q _ _ (as ++ [l]) (Stp.alloc hl) (rs.alloc hl ⟨[], upd_same, .nil⟩) (newAt rs)
theorem RV.isN {K : PySem.W.Frag} {as : List Addr} {H : Hp} {x : V} {d : D} (r : RV K as H x d) : decide (x = .non) = nonB d := by
  cases r <;> simp [nonB]
theorem og_is : OpR X (compareOp .Is) (rOf X.K (fIs false)) := by
  intro pins s σ H x y v u Q I rx ry ⟨as, st, dx, dy, rs, hx, hy, q⟩
  cases dy with
  | non =>
    cases hy
    refine op_isN pins s σ H _ _ v u Q I rx ry ⟨rfl, ?_⟩
    rw [hx.isN]
    exact postv1 rs (.bl _) q
  | bl b =>
    cases hy
    cases dx with
    | bl a => cases hx; exact op_isBl pins s σ H _ _ v u Q I rx ry ⟨_, _, rfl, rfl, postv1 rs (.bl _) q⟩
    | _ => exact q.elim
  | _ => exact q.elim
theorem og_isNot : OpR X (compareOp .IsNot) (rOf X.K (fIs true)) := by
  intro pins s σ H x y v u Q I rx ry ⟨as, st, dx, dy, rs, hx, hy, q⟩
  cases dy with
  | non =>
    cases hy
    refine op_notN pins s σ H _ _ v u Q I rx ry ⟨rfl, ?_⟩
    rw [hx.isN]
    exact postv1 rs (.bl _) q
  | bl b =>
    cases hy
    cases dx with
    | bl a => cases hx; exact op_notBl pins s σ H _ _ v u Q I rx ry ⟨_, _, rfl, rfl, postv1 rs (.bl _) q⟩
    | _ => exact q.elim
  | _ => exact q.elim
theorem tyD_ty {K : PySem.W.Frag} {as : List Addr} {H : Hp} {x : V} {d : D} {n : String} (r : RV K as H x d) (e : tyD d = n) (hn : n ≠ "?") : TyOf K H x (.type n) := by
  subst e
  cases r with
  | non => exact .non
  | bl b => exact .bl b
  | int i => exact .int i
  | str z => exact .str z
  | tup h _ => exact .tup h
  | obj h => exact absurd rfl hn
theorem g_isi {n : String} {x : Str} (ha : PE X a (tE X.K T W da)) (hm : X.mg "isinstance" = none) (hm2 : X.mg x = none) (hv : bootBuiltins x = some (.type n)) (hn : n ≠ "?") (hg : Gl X "isinstance" := by rfl) (hg2 : Gl X x := by rfl) (hnn : x ≠ "__name__" := by decide) (hdb : (x == ("__debug__" : Str)) = false := by decide)
    (he : starEach [a, .Name x p2] X.env = (false, eval a X.env) :: starEach [.Name x p2] X.env := by rfl) (he2 : starEach [Expr.Name x p2] X.env = (false, eval (.Name x p2) X.env) :: starEach [] X.env := by rfl) (hpl : (backTo pos (starEach [Expr.Name x p2] X.env)).any (·.1) = false := by rfl) :
    PE X (.Call (.Name "isinstance" p) [a, .Name x p2] [] pos) (tE X.K T W (dIsI n da)) := by
  refine pe_mono (pe_callB call_isi hg hm (by decide +kernel) (pa_cons ha (pa_cons (pe_bltn (v := .ty n) hg2 hm2 hv rfl hnn hdb) pa_nil he2) he) (by decide) (by decide) he hpl) fun σ H Q ⟨en, st, as, rs, re, q⟩ => ?_
  refine ⟨en, st, as, rs, re, q.bind.imp fun x H1 ⟨as1, s1, dx, p1, rs1, rx, q1⟩ => ?_⟩
  split at q1
  · rename_i e
    exact ⟨x, .ty n, .type n, .type n, true, rfl, .ty n, .base (tyD_ty rx e hn), if_pos (beq_self_eq_true _), q1 _ H1 as1 Stp.refl rs1 (.bl _)⟩
  · exact q1.elim
end
end Gv
namespace Gv
open PySem PySem.Spec L2
/-! ### slices with a step, of a tuple -/
def pickA (n : Nat) (lo hi : Option Int) (k : Int) : Int := (Builtin.Slice.sliceAdjust lo hi k n).1
def pickN (n : Nat) (lo hi : Option Int) (k : Int) : Nat := Builtin.Slice.slicePlaces (Builtin.Slice.sliceAdjust lo hi k n).1 (Builtin.Slice.sliceAdjust lo hi k n).2 k
def pickF {α : Type} (xs : List α) (a k : Int) (ms : List Nat) : List α := ms.filterMap fun (m : Nat) => xs[(a + Int.ofNat m * k).toNat]?
def pickL {α : Type} (xs : List α) (lo hi : Option Int) (k : Int) : List α := pickF xs (pickA xs.length lo hi k) k (List.range (pickN xs.length lo hi k))
section
variable {prog : Program} {w : World} {A : Around} {E : Value → Shared → Prop} {s : Shared}
theorem applied_step {sl : Addr} {vl vu vs : Value} {lo hi : Option Int} {k : Int} {n : Nat} {Q : Int × Int × Nat → Shared → Prop} (hs : s.heap.IsSliceOf sl vl vu vs) (pl : IsPart vl lo) (pu : IsPart vu hi) (ps : IsPart vs (some k)) (hk : k ≠ 0)
    (h : Q (pickA n lo hi k, k, pickN n lo hi k) s) :
    wpAny (model prog w) A (Builtin.Slice.sliceApplied (Value.ref sl) (pure (n : Int))) Q E s := by
  obtain ⟨os, hos, hcs, hds⟩ := id hs
  unfold Builtin.Slice.sliceApplied Builtin.Slice.sliceFields
  refine wpAny_bind (wpAny_bind (wpAny_field hos hds rfl (wpAny_bind (wpAny_field hos hds rfl (wpAny_bind (wpAny_field hos hds rfl (wpAny_pure (wpAny_bind (HT.slicePart_ ps ?_)))))))))
  have hk0 : ¬ ((k == 0) = true) := by simpa using hk
  show wpAny (model prog w) A (if (k == 0) = true then _ else _) Q E s
  rw [if_neg hk0]
  exact wpAny_bind (HT.slicePart_ pl (wpAny_bind (HT.slicePart_ pu (wpAny_bind (wpAny_pure (wpAny_pure h))))))
theorem getItem_step {t sl : Addr} {items : Array Value} {vl vu vs : Value} {lo hi : Option Int} {k : Int} {Q : Value → Shared → Prop} (ht : PyProof.Rows.IsTup s.heap t items) (hs : s.heap.IsSliceOf sl vl vu vs) (pl : IsPart vl lo) (pu : IsPart vu hi) (ps : IsPart vs (some k)) (hk : k ≠ 0) (hk1 : k ≠ 1)
    (h : Q (Value.ref s.heap.objs.size) { heap := s.heap.push { cls := Value.type "tuple", data := Data.seq (pickL items.toList lo hi k).toArray }, gens := s.gens, drawn := s.drawn, toks := s.toks, os := s.os })
    (hz : (pickL items.toList lo hi k).length ≤ sizeLine) : wpAny (model prog w) A (getItem (Value.ref t) (Value.ref sl)) Q E s := by
  obtain ⟨os, hos, hcs, hds⟩ := id hs
  have hTs : s.TypeIs (Value.ref sl) "slice" := ⟨os, hos, hcs⟩
  unfold PySem.getItem
  refine wpAny_holding (wpAny_bind (wpAny_sequenceKey (PyProof.Rows.IsTup.typeIs ht) (by decide) (wpAny_bind (wpAny_callSpecial?_slot (PyProof.Rows.IsTup.typeIs ht) PyProof.Rows.slot_tuple_getitem (wpAny_call_entry PyProof.Rows.slot_tuple_getitem (PyProof.Rows.IsTup.typeIs ht) PyProof.Rows.entry_tuple_getitem ?_ (PyProof.Rows.args_tuple_getitem (Value.ref t) (Value.ref sl)))))))
  have hsa : slotArgs "__getitem__" 1 { pos := [Value.ref t, Value.ref sl] } = pure (Value.ref t, [Value.ref sl]) := rfl
  unfold Builtin.«tuple.__getitem__»
  rw [hsa]
  refine wpAny_bind (wpAny_pure ?_)
  dsimp only
  refine wpAny_bind (PyProof.Rows.tupleItemsOf_ ht (wpAny_bind (wpAny_typeOf hTs ?_)))
  rw [if_pos (by decide)]
  refine wpAny_bind (applied_step hs pl pu ps hk ?_)
  dsimp only
  rw [if_neg (by simp [hk1])]
  have e : (List.filterMap (fun (m : Nat) => items[(pickA items.size lo hi k + Int.ofNat m * k).toNat]?) (List.range (pickN items.size lo hi k))).toArray = (pickL items.toList lo hi k).toArray := by
    unfold pickL pickF
    simp
  show wpAny (model prog w) A.in1 (do
    let r ← Builtin.Tuple.tupleExact (List.filterMap (fun (m : Nat) => items[(pickA items.size lo hi k + Int.ofNat m * k).toNat]?) (List.range (pickN items.size lo hi k))).toArray
    ret r) _ E s
  rw [e]
  refine wpAny_bind (wpAny_newObj_type (wpAny_pure ⟨_, rfl, wpAny_pure h⟩) ?_)
  show (pickL items.toList lo hi k).toArray.size ≤ sizeLine
  simpa using hz
end

theorem RVs.at_none {K : PySem.W.Frag} {as : List Addr} {H : Hp} {vs : List V} {ds : List D} {i : Nat} (r : RVs K as H vs ds) (h : ds[i]? = none) : vs[i]? = none := by
  rw [List.getElem?_eq_none_iff] at h ⊢
  rw [r.length]
  exact h
theorem RVs.pick {K : PySem.W.Frag} {as : List Addr} {H : Hp} {vs : List V} {ds : List D} (r : RVs K as H vs ds) (a k : Int) : ∀ ms : List Nat, RVs K as H (pickF vs a k ms) (pickF ds a k ms)
  | [] => .nil
  | m :: ms => by
    have ih := RVs.pick r a k ms
    unfold pickF at ih ⊢
    rw [List.filterMap_cons, List.filterMap_cons]
    cases e : ds[(a + Int.ofNat m * k).toNat]? with
    | none => rw [r.at_none e]; exact ih
    | some d =>
      obtain ⟨v, hv, rv⟩ := r.get e
      rw [hv]
      exact .cons rv ih
theorem RVs.pickL {K : PySem.W.Frag} {as : List Addr} {H : Hp} {vs : List V} {ds : List D} (r : RVs K as H vs ds) (lo hi : Option Int) (k : Int) : RVs K as H (pickL vs lo hi k) (pickL ds lo hi k) := by
  unfold Gv.pickL
  rw [r.length]
  exact r.pick _ _ _
theorem vals_pick {xs : List V} {us : List Value} (r : Vals xs us) (a k : Int) : ∀ ms : List Nat, Vals (pickF xs a k ms) (pickF us a k ms)
  | [] => .nil
  | m :: ms => by
    have ih := vals_pick r a k ms
    unfold pickF at ih ⊢
    rw [List.filterMap_cons, List.filterMap_cons]
    have hl := r.length
    generalize (a + Int.ofNat m * k).toNat = i
    have key : ∀ {xs : List V} {us : List Value} (i : Nat), Vals xs us → (xs[i]? = none ∧ us[i]? = none) ∨ ∃ x u, xs[i]? = some x ∧ us[i]? = some u ∧ RelV x u := by
      intro xs us i r
      induction r generalizing i with
      | nil => exact .inl ⟨rfl, rfl⟩
      | @cons x u xs us hx r ih =>
        cases i with
        | zero => exact .inr ⟨x, u, rfl, rfl, hx⟩
        | succ i => simpa using ih i
    rcases key i r with ⟨h1, h2⟩ | ⟨x, u, h1, h2, h3⟩
    · rw [h1, h2]; exact ih
    · rw [h1, h2]; exact .cons h3 ih
theorem pickF_len {α : Type} (xs : List α) (a k : Int) (ms : List Nat) : (pickF xs a k ms).length ≤ ms.length := List.length_filterMap_le _ _
theorem pe_slice3 {X : Cx} {e : Expr} {te : TE} {lo hi : Option Expr} {st : Expr} {tl th ts : TO} {pos p2 : Pos} (he : PE X e te) (hl : PO X lo tl) (hu : PO X hi th) (hst : PO X (some st) ts) :
    PE X (e.Subscript (Expr.Slice lo hi (some st) p2) pos) (fun σ H Q => te σ H fun x H1 => tl σ H1 fun l H2 => th σ H2 fun u H3 => ts σ H3 fun o H4 => ∃ a xs k, o = some k ∧ k ≠ 0 ∧ k ≠ 1 ∧ x = V.ref a ∧ SqT X.K H4 a xs ∧ (pickN xs.length l u k ≤ sizeLine) ∧ ∀ p, H4 p = none → Q (V.ref p) (upd H4 p (HO.tup (pickL xs l u k)))) := by
  refine ⟨fun pins s σ H Q I h => PyProof.Rows.Subscript_ (thn (he.run pins s σ H _ I h) ?_)⟩
  rintro v s1 ⟨x, H1, I1, r1, q1⟩
  refine wpAny_Slice (thn (hl.run pins s1 σ H1 _ I1 q1) ?_)
  rintro vl s2 ⟨l, H2, I2, pl, q2⟩
  refine thn (hu.run pins s2 σ H2 _ I2 q2) ?_
  rintro vu s3 ⟨u, H3, I3, pu, q3⟩
  refine thn (hst.run pins s3 σ H3 _ I3 q3) ?_
  rintro vs s4 ⟨o, H4, I4, ps, a, xs, k, rfl, hk, hk1, rfl, hx, hz, q⟩
  have I5 := Inv.kept (t' := s4.toks) I4 fun b ob q => Heap.get?_push_of_some { cls := Value.type "slice", data := Data.fields #[vl, vu, vs] } q
  obtain ⟨its, r, ht, hsz⟩ := Inv.tuple I5 hx
  cases r1
  refine PyProof.Rows.tail_any (PyProof.Rows.IsTup.typeIs ht) PyProof.Rows.slot_tuple_getitem.lookup (getItem_step ht (Heap.IsSliceOf.new s4.1 vl vu vs) pl pu ps hk hk1 ?_ ?_) rfl
  · refine ⟨V.ref _, _, Inv.laid (o := HO.tup (pickL xs l u k)) (t' := s4.toks) I5 (fun b ob q => Heap.get?_push_of_some _ q) (Nat.le_refl _) ⟨?_, pickL its l u k, ?_, ?_⟩, rfl, q _ (HOk.fresh I5.hok (Nat.le_refl _))⟩
    · exact Nat.le_trans (Nat.le_trans (pickF_len _ _ _ _) (by rw [List.length_range]; exact Nat.le_refl _)) hz
    · unfold pickL
      rw [r.length]
      exact vals_pick r _ _ _
    · have := PyProof.Rows.IsTup.new (s4.heap.push { cls := Value.type "slice", data := Data.fields #[vl, vu, vs] }) (pickL its l u k).toArray
      exact this
  · refine Nat.le_trans (pickF_len _ _ _ _) ?_
    rw [List.length_range]
    have : its.toArray.toList.length = xs.length := by rw [r.length]
    rw [this]
    exact hz
/-! the denotation -/
def stOk (n : Nat) (i j : Option Int) (k : Int) : Bool := decide (k ≠ 0 ∧ k ≠ 1 ∧ pickN n i j k ≤ 16777216)
def fSt (x : D) (i j s : Option Int) (st : Sto) : Vr := match x, s with
  | .tup xs, some k => if stOk xs.length i j k = true then some (.tup (pickL xs i j k), st) else none
  | _, _ => none
def dSt (a : ED) (l h s : OD) : ED := fun en st => (a en st).bind fun x s1 => (l en s1).bind fun i s2 => (h en s2).bind fun j s3 => (s en s3).bind fun k s4 => (fSt x i j k s4).re
section
variable {X : Cx} {T : Nat → Addr} {W : WX} {a : Expr} {lo hi : Option Expr} {se : Expr} {da : ED} {dl dh ds : OD} {pos p2 : Pos}
theorem g_st (ha : PE X a (tE X.K T W da)) (hl : PO X lo (tO X.K T W dl)) (hh : PO X hi (tO X.K T W dh)) (hs : PO X (some se) (tO X.K T W ds)) : PE X (.Subscript a (.Slice lo hi (some se) p2) pos) (tE X.K T W (dSt da dl dh ds)) := by
  refine pe_mono (pe_slice3 ha hl hh hs) fun σ H Q ⟨en, st, as, rs, re, q⟩ => ?_
  refine ⟨en, st, as, rs, re, q.bind.imp fun x H1 ⟨as1, s1, dx, p1, rs1, rx, q1⟩ => ?_⟩
  refine ⟨en, s1, as1, rs1, re.mono p1, (Post.bind (rel := relO) q1).imp fun i H2 ⟨as2, s2, i', p2, rs2, ri, q2⟩ => ?_⟩
  cases ri
  refine ⟨en, s2, as2, rs2, (re.mono p1).mono p2, (Post.bind (rel := relO) q2).imp fun j H3 ⟨as3, s3, j', p3, rs3, rj, q3⟩ => ?_⟩
  cases rj
  refine ⟨en, s3, as3, rs3, ((re.mono p1).mono p2).mono p3, (Post.bind (rel := relO) q3).imp fun k H4 ⟨as4, s4, k', p4, rs4, rk, q4⟩ => ?_⟩
  cases rk
  have hx := ((rx.mono p2).mono p3).mono p4
  have q5 := q4.v
  cases dx with
  | tup xs =>
    cases k with
    | none => exact q5.elim
    | some k =>
      simp only [fSt] at q5
      split at q5
      · rename_i hok
        have hok := of_decide_eq_true hok
        cases hx with
        | @tup b ys _ hb r =>
          refine ⟨b, ys, k, rfl, hok.1, hok.2.1, rfl, SqT.of hb, by rw [r.length]; exact hok.2.2, fun p hp => q5 _ _ as4 (Stp.new hp) (rs4.new hp) (.tup upd_same ((r.pickL i j k).mono (Stp.new hp)))⟩
      · exact q5.elim
  | _ => exact q5.elim
end
end Gv
namespace Gv
open PySem PySem.Spec L2
/-! ### sum of a list or a tuple -/
def fSum2 : FN := fun ds st => match ds with
  | [.tup xs] => (intsD xs).map fun ns => (.int ns.sum, st)
  | ds => fSum ds st
theorem sum_rawT {prog : Program} {w : World} {A : Around} {E : Value → Shared → Prop} {s : Shared} {l : Addr} {its : List Value} {ns : List Int} {Q : Value → Shared → Prop} (hh : A.handled = none) (hl : PyProof.Rows.IsTup s.heap l its.toArray) (hi : PyProof.Rows.IntsAre its ns)
    (h : ∀ (h' : Heap) (tk : Nat) (t' : Tok), (∀ (b : Addr) (o : Obj), s.heap.get? b = some o → h'.get? b = some o) → Q (Value.int ns.sum t') { heap := h', gens := s.gens, drawn := s.drawn, toks := tk, os := s.os }) :
    wpAny (model prog w) A (call (Value.builtin "sum") [Value.ref l]) Q E s := by
  obtain ⟨xs, e⟩ := AllInts.items (PyProof.Rows.IntsAre.allInts hi)
  have hn : numsOf (intItems xs).toList = ns := by rw [← e]; exact PyProof.Rows.IntsAre.numsOf hi
  rw [nums_intItems] at hn
  have hl' : s.heap.IsTuple l (intItems xs) := by rw [← e]; exact hl
  refine PySem.W.ktm_sumG hh hl' fun h' tk t' hk => ?_
  rw [preSum_eq, List.take_of_length_le (by simp), hn]
  exact h h' tk t' hk
section
variable {X : Cx}
theorem cg_sum2 (hc : X.calm = true) : CallR X (.builtin "sum") (cOf X.K fSum2) := by
  intro pins s σ H xs us Q I r ⟨as, st, ds, rs, rx, q⟩
  unfold fSum2 at q
  split at q
  · rename_i d
    obtain ⟨v, rfl, rv⟩ := rx.one
    cases e2 : intsD d with
    | none => simp only [e2] at q; exact q.elim
    | some bs =>
      simp only [e2] at q
      cases rv with
      | @tup a ys _ hh r' =>
        obtain ⟨its, rv, hl, _⟩ := Inv.tuple I (SqT.of hh)
        have he := intsD_rv r' e2
        subst he
        rw [Vals.ref1 r]
        exact sum_rawT (I.ok.hd hc) hl (Vals.ints rv) fun h' tk t' hk => ⟨V.int bs.sum, H, Inv.kept I hk, ⟨t', rfl⟩, postv1 rs (.int _) q⟩
  · exact cg_sum hc pins s σ H xs us Q I r ⟨as, st, _, rs, rx, q⟩
end
end Gv
namespace Gv
open PySem PySem.Spec L2

/-! ### errors of the program's own: __init__(self, code, place = 0) -/
def iSc : Scope := { kind := .function, names := [(PySem.Str.ofString "self", .local), (PySem.Str.ofString "code", .local), (PySem.Str.ofString "place", .local)], isGenerator := false, isCoroutine := false, more := [] }
def iBd (p1 p2 p3 p4 p5 p6 p7 p8 : Pos) : List Stmt := [.Assign [.Attribute (.Name "self" p1) "code" p2] (.Name "code" p3) p4, .Assign [.Attribute (.Name "self" p5) "place" p6] (.Name "place" p7) p8]
def iAr (p1 p2 p3 p4 : Pos) : Arguments := { posonlyargs := [], args := [{ arg := "self", annotation := none, pos := p1 }, { arg := "code", annotation := none, pos := p2 }, { arg := "place", annotation := none, pos := p3 }], vararg := none, kwonlyargs := [], kw_defaults := [], kwarg := none, defaults := [.Constant (.int 0) 0 p4] }
/-- what stands of an error's class -/
structure XC (K : PySem.W.Frag) (C fI : Addr) : Prop where
  ox : OexC K C
  xf : XfC K C
  iC : PySem.W.findIn K (.ref C) "__init__" = some (some (.ref fI))
  tI : PySem.W.typeIn K (.ref fI) = some (.type "function")
  noc : PySem.W.findIn K (.ref C) "code" = some none
  nop : PySem.W.findIn K (.ref C) "place" = some none
  ex : PySem.W.exmOne K (.ref C) (.ref C) = some true
def spI (K : PySem.W.Frag) : Sp := fun vs H Q _ => ∃ (a C : Addr) (c p : V), vs = [.ref a, c, p] ∧ OexC K C ∧ PySem.W.findIn K (.ref C) "code" = some none ∧ PySem.W.findIn K (.ref C) "place" = some none ∧ H a = some (exo a C none) ∧
  ∀ d, H d = none → d ≠ a → Q .non (upd (upd (upd H d (exd d [("code", c)])) a (exo a C (some d))) d (exd d [("place", p), ("code", c)]))
theorem iScope : FnScope ["self", "code", "place"] ["self", "code", "place"] iSc := ⟨rfl, rfl, rfl, by decide +kernel, rfl, by decide +kernel, by decide +kernel⟩
section
variable {P : Program} {w : World} {K : PySem.W.Frag} {mg : Str → Option Value} {base : Heap}
theorem ok_init {fI : Addr} {fd : FuncData} {params : Arguments} {p1 p2 p3 p4 p5 p6 p7 p8 : Pos} (F : FunD K "__init__" "HallError.__init__" params (iBd p1 p2 p3 p4 p5 p6 p7 p8) iSc [.int 0] [] fI fd) : FnOk P w K mg base (L2.CX P w) 1 fI fd ["self", "code", "place"] (spI K) := by
  refine F.ok iScope (fun vs H Q E h => ?_) (fun cdv A outer s H vs Q E hr h => ?_)
  · obtain ⟨a, C, c, p, rfl, _⟩ := h
    rfl
  · obtain ⟨a, C, c, p, rfl, ox, nc, np, ha, q⟩ := h
    refine ⟨_, pss_cons (ps_ost (pv 0) (pv 1)) (pss_one (ps_ost (pv 0) (pv 2))), ?_⟩
    refine ⟨c, rfl, .ref a, rfl, a, C, rfl, ox, nc, .inl ⟨ha, fun d hd hne => ?_⟩⟩
    refine ⟨p, rfl, .ref a, rfl, a, C, rfl, ox, np, .inr ⟨d, [("code", c)], upd_same, ?_, (by show 1 ≤ 900; decide), ?_⟩⟩
    · rw [upd_ne hne]
      exact upd_same
    · exact q d hd hne
end
section
variable {K : PySem.W.Frag}
/-- the heap behind a made error -/
theorem made_heap {H : Hp} {a d C : Addr} {fs gs : List (Str × V)} (hd : d ≠ a) (ha : H a = none) :
    upd (del (upd (upd (upd (upd H a (exo a C none)) d (exd d fs)) a (exo a C (some d))) d (exd d gs)) a) d (.xd gs) = upd H d (.xd gs) := by
  funext b
  unfold upd del
  by_cases h1 : b = d
  · simp [h1]
  · by_cases h2 : b = a
    · subst h2
      simp [h1, ha]
    · simp [h1, h2]
end
def sRs (c : Nat) (a : AD) : SD := fun en st => (a en st).toS en fun xs s1 => match xs with
  | [x, y] => .er ⟨c, x, y⟩ en s1
  | [x] => .er ⟨c, x, .int 0⟩ en s1
  | _ => .no
section
variable {X : Cx} {T : Nat → Addr} {W : WX} {e : Expr} {es : List Expr} {ds : AD} {x : Str} {p pos pos2 : Pos}
/-- raise X(code, place) -/
theorem gs_rs2 {c fI k : Nat} {fd : FuncData} {C : Addr} (hc : X.calm = true) (tk : Takes X W) (xc : XC X.K C fI) (hC : T c = C) (F : FnOk X.prog X.w X.K X.mg X.base (L2.CX X.prog X.w) k fI fd ["self", "code", "place"] (spI X.K)) (hr : Room (k + 1) X.A) (hb : Binds X.K fd ["self", "code", "place"] [])
    (hm : X.mg x = some (.ref C)) (ha : PA X (e :: es) (tA X.K T W ds)) (hlen : (e :: es).length = 2) (hg : Gl X x := by rfl) (hdb : (x == ("__debug__" : Str)) = false := by decide) (he : starEach (e :: es) X.env = (false, eval e X.env) :: starEach es X.env := by rfl) (hpl : (backTo pos (starEach es X.env)).any (·.1) = false := by rfl) :
    PS X (.Raise (some (.Call (.Name x p) (e :: es) [] pos)) none pos2) (tS X.K T W (fun en st => (ds en st).toS en fun xs s1 => match xs with
  | [x, y] => .er ⟨c, x, y⟩ en s1
  | _ => .no)) := by
  refine ps_mono (ps_raise hc tk (pmk_oex xc.ox xc.iC xc.tI F hr hb .nil passL hg hm ha hdb he hpl)) fun D σ H ⟨en, st, as, rs, re, q⟩ => ?_
  refine ⟨en, st, as, rs, re, (PostS.bind re q).imp fun vs H1 ⟨as1, s1, xs, p1, rs1, rx, re1, q1⟩ => ?_⟩
  split at q1
  · rename_i x y
    obtain ⟨v1, v2, rfl, r1, r2⟩ := rx.two
    refine ⟨(by show 2 ≤ 1000; decide), fun a han => ⟨a, C, v1, v2, rfl, xc.ox, xc.noc, xc.nop, upd_same, fun d hd hne => ⟨rfl, d, _, ?_, upd_same, ?_, ?_⟩⟩⟩
    · rw [upd_ne hne.symm]
      exact upd_same
    · rw [upd_ne hne] at hd
      exact hd
    · have hd' : H1 d = none := by rw [upd_ne hne] at hd; exact hd
      rw [made_heap hne han, ← hC]
      exact q1 _ _ σ _ as1 (Stp.new hd') (rs1.new hd') (re1.mono (Stp.new hd')) ⟨rfl, d, v1, v2, rfl, upd_same, r1.mono (Stp.new hd'), r2.mono (Stp.new hd')⟩
  · exact q1.elim
/-- raise X(code) -/
theorem gs_rs1 {c fI k : Nat} {fd : FuncData} {C : Addr} {dv : List Value} (hc : X.calm = true) (tk : Takes X W) (xc : XC X.K C fI) (hC : T c = C) (F : FnOk X.prog X.w X.K X.mg X.base (L2.CX X.prog X.w) k fI fd ["self", "code", "place"] (spI X.K)) (hr : Room (k + 1) X.A) (hb : Binds X.K fd ["self", "code", "place"] dv) (hd : Vals [.int 0] dv)
    (hm : X.mg x = some (.ref C)) (ha : PA X [e] (tA X.K T W ds)) (hg : Gl X x := by rfl) (hdb : (x == ("__debug__" : Str)) = false := by decide) (he : starEach [e] X.env = (false, eval e X.env) :: starEach [] X.env := by rfl) (hpl : (backTo pos (starEach [] X.env)).any (·.1) = false := by rfl) :
    PS X (.Raise (some (.Call (.Name x p) [e] [] pos)) none pos2) (tS X.K T W (fun en st => (ds en st).toS en fun xs s1 => match xs with
  | [x] => .er ⟨c, x, .int 0⟩ en s1
  | _ => .no)) := by
  refine ps_mono (ps_raise hc tk (pmk_oex xc.ox xc.iC xc.tI F hr hb hd passL hg hm ha hdb he hpl)) fun D σ H ⟨en, st, as, rs, re, q⟩ => ?_
  refine ⟨en, st, as, rs, re, (PostS.bind re q).imp fun vs H1 ⟨as1, s1, xs, p1, rs1, rx, re1, q1⟩ => ?_⟩
  split at q1
  · rename_i x
    obtain ⟨v1, rfl, r1⟩ := rx.one
    refine ⟨(by show 1 ≤ 1000; decide), fun a han => ⟨a, C, v1, .int 0, rfl, xc.ox, xc.noc, xc.nop, upd_same, fun d hd hne => ⟨rfl, d, _, ?_, upd_same, ?_, ?_⟩⟩⟩
    · rw [upd_ne hne.symm]
      exact upd_same
    · rw [upd_ne hne] at hd
      exact hd
    · have hd' : H1 d = none := by rw [upd_ne hne] at hd; exact hd
      rw [made_heap hne han, ← hC]
      exact q1 _ _ σ _ as1 (Stp.new hd') (rs1.new hd') (re1.mono (Stp.new hd')) ⟨rfl, d, v1, .int 0, rfl, upd_same, r1.mono (Stp.new hd'), .int 0⟩
  · exact q1.elim
end
def sRs2 (c : Nat) (a : AD) : SD := fun en st => (a en st).toS en fun xs s1 => match xs with
  | [x, y] => .er ⟨c, x, y⟩ en s1
  | _ => .no
def sRs1 (c : Nat) (a : AD) : SD := fun en st => (a en st).toS en fun xs s1 => match xs with
  | [x] => .er ⟨c, x, .int 0⟩ en s1
  | _ => .no

/-! ### try: .. except X as e: return e.code | return (e.code, e.place) -/
def sTry (c i : Nat) (f : Ex → D) (body : SD) : SD := fun en st => match body en st with
  | .er x en1 s1 => if x.cls = c ∧ i < en1.length then .rt (f x) s1 else .no
  | r => r
section
variable {X : Cx} {T : Nat → Addr} {W : WX} {x n : Str} {i c : Nat} {C fI : Addr} {body : List Stmt} {np pos pos' q1 q2 q3 q4 q5 q6 : Pos} {sb : SD} {kk : Nat}
theorem gs_tryC (hs : X.stack = X.env :: X.outer) (hf : X.env.frame = some X.env.locals) (hN : X.N.Nodup) (hi : X.N[i]? = some n) (hln : X.env.kindOf n = some .local) (hm : X.mg x = some (.ref C)) (tk : Takes X W) (xc : XC X.K C fI) (hC : T c = C)
    (hb : ∀ (W : WX) (pn : List (Addr × Obj)) (xe : Value → Shared → Prop), Takes (X.tr pn xe) W → PassesOwn (model X.prog X.w) X.A X.env xe → PSs (X.tr pn xe) body (tS X.K T W sb))
    (hat : attributeBase (.Name n q1) "code" X.env (eval (.Name n q1) X.env) = eval (.Name n q1) X.env) (hg : Gl X x := by rfl) (hdb : (x == ("__debug__" : Str)) = false := by decide) (hdn : (n == ("__debug__" : Str)) = false := by decide) (hcn : (n == ("__classdict__" : Str)) = false := by decide) :
    PS X (.Try body [.ExceptHandler (some (.Name x np)) (some n) [.Return (some (.Attribute (.Name n q1) "code" q2)) q3] pos'] [] [] pos) (tS X.K T W (sTry c i Ex.code sb)) := by
  refine ps_mono (ps_try_as (Wout := WF) (ts := fun a cls d => tRet (tXf a cls d C "code" (tVar i))) hs hf hN hi hln ⟨hg, hdb, .inl hm⟩ takes0 hb
    (fun a oe cls d pn hz hfd => pss_one (ps_ret (pe_xf (X := X) xc.xf xc.noc hz hfd (pe_var hi (.inl hln) hdn hcn) hat)))) fun D σ H ⟨en, st, as, rs, re, q⟩ => ?_
  refine ⟨en, st, as, rs, re, ?_⟩
  unfold sTry at q
  cases e : sb en st with
  | er ex en1 s1 =>
    rw [e] at q
    dsimp only at q
    split at q
    · rename_i hcl
      intro cls dx σ' H' as' p rs' re' rx
      obtain ⟨rfl, d, vc, vp, rfl, hd, r1, r2⟩ := rx
      rw [hcl.1, hC]
      refine ⟨true, xc.ex, fun _ a ha => ?_, fun z => nomatch z⟩
      refine ⟨.ref a, List.getElem?_set_self (by rw [re'.len]; exact hcl.2), rfl, rfl, d, _, vc, rfl, hd, by rfl, ?_⟩
      exact q vc H' as' p rs' r1
    · exact q.elim
  | nx a b => rw [e] at q; exact q
  | rt a b => rw [e] at q; exact q
  | bk a b => rw [e] at q; exact q
  | ct a b => rw [e] at q; exact q
  | no => rw [e] at q; exact q
theorem gs_tryP (hs : X.stack = X.env :: X.outer) (hf : X.env.frame = some X.env.locals) (hN : X.N.Nodup) (hi : X.N[i]? = some n) (hln : X.env.kindOf n = some .local) (hm : X.mg x = some (.ref C)) (tk : Takes X W) (xc : XC X.K C fI) (hC : T c = C)
    (hb : ∀ (W : WX) (pn : List (Addr × Obj)) (xe : Value → Shared → Prop), Takes (X.tr pn xe) W → PassesOwn (model X.prog X.w) X.A X.env xe → PSs (X.tr pn xe) body (tS X.K T W sb))
    (hat : attributeBase (.Name n q1) "code" X.env (eval (.Name n q1) X.env) = eval (.Name n q1) X.env) (hat2 : attributeBase (.Name n q3) "place" X.env (eval (.Name n q3) X.env) = eval (.Name n q3) X.env)
    (hs1 : starEach [Expr.Attribute (.Name n q1) "code" q2, .Attribute (.Name n q3) "place" q4] X.env = (false, eval (Expr.Attribute (.Name n q1) "code" q2) X.env) :: starEach [Expr.Attribute (.Name n q3) "place" q4] X.env)
    (hs2 : starEach [Expr.Attribute (.Name n q3) "place" q4] X.env = (false, eval (Expr.Attribute (.Name n q3) "place" q4) X.env) :: starEach [] X.env) (hg : Gl X x := by rfl) (hdb : (x == ("__debug__" : Str)) = false := by decide) (hdn : (n == ("__debug__" : Str)) = false := by decide) (hcn : (n == ("__classdict__" : Str)) = false := by decide) :
    PS X (.Try body [.ExceptHandler (some (.Name x np)) (some n) [.Return (some (.Tuple [.Attribute (.Name n q1) "code" q2, .Attribute (.Name n q3) "place" q4] kk q5)) q6] pos'] [] [] pos) (tS X.K T W (sTry c i (fun e => .tup [e.code, e.place]) sb)) := by
  refine ps_mono (ps_try_as (Wout := WF) (ts := fun a cls d => tRet (tTup (tCons (tXf a cls d C "code" (tVar i)) (tCons (tXf a cls d C "place" (tVar i)) tNil)))) hs hf hN hi hln ⟨hg, hdb, .inl hm⟩ takes0 hb
    (fun a oe cls d pn hz hfd => pss_one (ps_ret (pe_tup (pa_cons (pe_xf (X := X) xc.xf xc.noc hz hfd (pe_var hi (.inl hln) hdn hcn) hat) (pa_cons (pe_xf (X := X) xc.xf xc.nop hz hfd (pe_var hi (.inl hln) hdn hcn) hat2) pa_nil hs2) hs1))))) fun D σ H ⟨en, st, as, rs, re, q⟩ => ?_
  refine ⟨en, st, as, rs, re, ?_⟩
  unfold sTry at q
  cases e : sb en st with
  | er ex en1 s1 =>
    rw [e] at q
    dsimp only at q
    split at q
    · rename_i hcl
      intro cls dx σ' H' as' p rs' re' rx
      obtain ⟨rfl, d, vc, vp, rfl, hd, r1, r2⟩ := rx
      rw [hcl.1, hC]
      refine ⟨true, xc.ex, fun _ a ha => ?_, fun z => nomatch z⟩
      have hg' : (σ'.set i (some (V.ref a)))[i]? = some (some (.ref a)) := List.getElem?_set_self (by rw [re'.len]; exact hcl.2)
      refine ⟨.ref a, hg', rfl, rfl, d, _, vc, rfl, hd, by rfl, ?_⟩
      refine ⟨.ref a, hg', rfl, rfl, d, _, vp, rfl, hd, by rfl, ?_⟩
      refine ⟨by show 2 ≤ sizeLine; decide, fun t ht => ?_⟩
      exact q _ _ as' (p.trans (Stp.new ht)) (rs'.new ht) (.tup upd_same (.cons (r1.mono (Stp.new ht)) (.cons (r2.mono (Stp.new ht)) .nil)))
    · exact q.elim
  | nx a b => rw [e] at q; exact q
  | rt a b => rw [e] at q; exact q
  | bk a b => rw [e] at q; exact q
  | ct a b => rw [e] at q; exact q
  | no => rw [e] at q; exact q
end
end Gv
namespace Gv
open PySem PySem.Spec L2

/-! ### calls on the part of the store that the arguments reach -/
mutual
def D.objs : D → List Nat
  | .tup xs => objsL xs
  | .obj i => [i]
  | _ => []
def objsL : List D → List Nat
  | [] => []
  | x :: xs => x.objs ++ objsL xs
end
mutual
def D.ren (f : Nat → Nat) : D → D
  | .tup xs => .tup (renL f xs)
  | .obj i => .obj (f i)
  | d => d
def renL (f : Nat → Nat) : List D → List D
  | [] => []
  | x :: xs => x.ren f :: renL f xs
end
def Ob.vals : Ob → List D
  | .lst xs => xs
  | .fls xs => xs
  | .dK kvs => kvs.map (·.2)
  | .dT kvs => kvs.map (·.2)
def Ob.ren (f : Nat → Nat) : Ob → Ob
  | .lst xs => .lst (renL f xs)
  | .fls xs => .fls (renL f xs)
  | .dK kvs => .dK (kvs.map fun p => (p.1, p.2.ren f))
  | .dT kvs => .dT (kvs.map fun p => (p.1, p.2.ren f))
def Ob.muB : Ob → Bool
  | .fls _ => false
  | _ => true
def Ob.objs (o : Ob) : List Nat := objsL o.vals
def subB (xs R : List Nat) : Bool := xs.all fun x => R.contains x
def reachF (st : Sto) : Nat → List Nat → List Nat → List Nat
  | 0, _, acc => acc
  | _ + 1, [], acc => acc
  | n + 1, i :: todo, acc => if acc.contains i then reachF st n todo acc else match st[i]? with
    | some o => reachF st n (o.objs ++ todo) (acc ++ [i])
    | none => acc
def nodB : List Nat → Bool
  | [] => true
  | x :: xs => !xs.contains x && nodB xs
/-- R is closed in st -/
def closB (st : Sto) (R : List Nat) : Bool := nodB R && R.all fun r => match st[r]? with
  | some o => subB o.objs R
  | none => false
def mutB (st : Sto) (R : List Nat) : Bool := R.all fun r => match st[r]? with
  | some o => o.muB
  | none => false
def idx (R : List Nat) (i : Nat) : Nat := R.idxOf i
def nthO (st : Sto) (i : Nat) : Ob := match st[i]? with
  | some o => o
  | none => .lst []
def sel (st : Sto) (R : List Nat) : Sto := R.map fun r => (nthO st r).ren (idx R)
def selA (as : List Addr) (R : List Nat) : List Addr := R.map fun r => as.getD r 0
/-- what is new and not held goes -/
def canR (n : Nat) (s : Sto) (x : List D) : List Nat := reachF s 1000000 (objsL x ++ objsL ((s.take n).map Ob.vals).flatten) (List.range n)
def canOk (n : Nat) (s : Sto) (x : List D) : Bool := let R := canR n s x
  closB s R && subB (objsL x) R && decide (n ≤ s.length)
def canon (n : Nat) (r : Re D) : Re D := match r with
  | .ok x s => if canOk n s [x] = true then .ok (x.ren (idx (canR n s [x]))) (sel s (canR n s [x])) else .no
  | .er e s => if canOk n s [e.code, e.place] = true then .er ⟨e.cls, e.code.ren (idx (canR n s [e.code, e.place])), e.place.ren (idx (canR n s [e.code, e.place]))⟩ (sel s (canR n s [e.code, e.place])) else .no
  | .no => .no
/-- index in the small store to index in the whole -/
def upI (N : Nat) (R : List Nat) (j : Nat) : Nat := match R[j]? with
  | some r => r
  | none => N + (j - R.length)
def wrB (st' : Sto) (N : Nat) (R : List Nat) : Nat → Sto → Sto
  | _, [] => []
  | i, o :: st => (if R.contains i then (nthO st' (idx R i)).ren (upI N R) else o) :: wrB st' N R (i + 1) st
def merge (st st' : Sto) (R : List Nat) : Sto := wrB st' st.length R 0 st ++ (st'.drop R.length).map (Ob.ren (upI st.length R))
def callX (f : FnD) (xs : List D) (st : Sto) : Re D :=
  let R := reachF st 1000000 (objsL xs) []
  if closB st R && mutB st R && subB (objsL xs) R then match f (renL (idx R) xs) (sel st R) with
    | .ok x s => .ok (x.ren (upI st.length R)) (merge st s R)
    | .er e s => .er ⟨e.cls, e.code.ren (upI st.length R), e.place.ren (upI st.length R)⟩ (merge st s R)
    | .no => .no
  else .no

section
variable {K : PySem.W.Frag} {as as' as0 : List Addr} {H H' : Hp} {st st' s : Sto} {f : Nat → Nat}
theorem subB_mem {xs R : List Nat} (h : subB xs R = true) {i : Nat} (hi : i ∈ xs) : i ∈ R := by
  have := List.all_eq_true.mp h i hi
  simpa using this
mutual
theorem RV.ren : ∀ {d : D} {v : V}, RV K as H v d → (∀ i ∈ d.objs, ∀ a, as[i]? = some a → as'[f i]? = some a) → RV K as' H v (d.ren f)
  | .non, _, .non, _ => .non
  | .bl _, _, .bl b, _ => .bl b
  | .int _, _, .int i, _ => .int i
  | .str _, _, .str x, _ => .str x
  | .tup _, _, .tup h r, k => .tup h (RVs.ren r (by simpa [D.objs] using k))
  | .obj i, _, .obj h, k => .obj (k i (by simp [D.objs]) _ h)
theorem RVs.ren : ∀ {ds : List D} {vs : List V}, RVs K as H vs ds → (∀ i ∈ objsL ds, ∀ a, as[i]? = some a → as'[f i]? = some a) → RVs K as' H vs (renL f ds)
  | [], _, .nil, _ => .nil
  | d :: ds, _, .cons h r, k => .cons (RV.ren h fun i hi => k i (by simp [objsL, hi])) (RVs.ren r fun i hi => k i (by simp [objsL, hi]))
end
theorem RKs.ren {κ : Type} : ∀ {xs : List (κ × V)} {ys : List (κ × D)}, RKs K as H xs ys → (∀ i ∈ objsL (ys.map (·.2)), ∀ a, as[i]? = some a → as'[f i]? = some a) → RKs K as' H xs (ys.map fun p => (p.1, p.2.ren f))
  | _, _, .nil, _ => .nil
  | _, _, .cons h r, k => .cons ⟨h.1, h.2.ren fun i hi => k i (by simp [objsL, hi])⟩ (RKs.ren r fun i hi => k i (by simp [objsL, hi]))
theorem RO.ren {a : Addr} {o : Ob} (h : RO K as H a o) (k : ∀ i ∈ o.objs, ∀ a, as[i]? = some a → as'[f i]? = some a) : RO K as' H a (o.ren f) := by
  cases o with
  | lst ds => obtain ⟨xs, e, r⟩ := h; exact ⟨xs, e, r.ren k⟩
  | fls ds => obtain ⟨xs, e, r⟩ := h; exact ⟨xs, e, r.ren k⟩
  | dK ds => obtain ⟨xs, e, r⟩ := h; exact ⟨xs, e, r.ren k⟩
  | dT ds => obtain ⟨xs, e, r⟩ := h; exact ⟨xs, e, r.ren k⟩
theorem Ob.ren_mu {o : Ob} : (o.ren f).mu ↔ o.mu := by cases o <;> exact Iff.rfl
theorem Ob.muB_mu {o : Ob} (h : o.muB = true) : o.mu := by cases o <;> first | exact trivial | cases h
theorem nodB_nod : ∀ {R : List Nat}, nodB R = true → R.Nodup
  | [], _ => .nil
  | x :: R, h => by
    simp only [nodB, Bool.and_eq_true, Bool.not_eq_true'] at h
    refine List.nodup_cons.mpr ⟨fun hm => ?_, nodB_nod h.2⟩
    have : R.contains x = true := by simpa using hm
    rw [this] at h
    cases h.1
theorem idx_get {R : List Nat} {i : Nat} (h : i ∈ R) : R[idx R i]? = some i := by
  have hl : R.idxOf i < R.length := List.idxOf_lt_length_of_mem h
  rw [show idx R i = R.idxOf i from rfl, List.getElem?_eq_getElem hl, List.getElem_idxOf hl]
theorem idx_of {R : List Nat} (hn : R.Nodup) {i j : Nat} (h : R[j]? = some i) : idx R i = j := by
  have hm : i ∈ R := List.mem_of_getElem? h
  have h2 := idx_get hm
  obtain ⟨l1, e1⟩ := List.getElem?_eq_some_iff.mp h
  obtain ⟨l2, e2⟩ := List.getElem?_eq_some_iff.mp h2
  exact (List.getElem_inj hn).mp (e2.trans e1.symm)
theorem selA_get {R : List Nat} {j r : Nat} {a : Addr} (h : R[j]? = some r) (ha : as[r]? = some a) : (selA as R)[j]? = some a := by
  unfold selA
  rw [List.getElem?_map, h, Option.map_some, List.getD_eq_getElem?_getD, ha]
  rfl
theorem clos_get {R : List Nat} (h : closB st R = true) : R.Nodup ∧ ∀ r ∈ R, ∃ o, st[r]? = some o ∧ ∀ i ∈ o.objs, i ∈ R := by
  simp only [closB, Bool.and_eq_true] at h
  refine ⟨nodB_nod h.1, fun r hr => ?_⟩
  have := List.all_eq_true.mp h.2 r hr
  cases e : st[r]? with
  | none => rw [e] at this; cases this
  | some o => rw [e] at this; exact ⟨o, rfl, fun i hi => subB_mem this hi⟩
theorem sel_get {R : List Nat} {j r : Nat} {o : Ob} (h : R[j]? = some r) (ho : st[r]? = some o) : (sel st R)[j]? = some (o.ren (idx R)) := by
  unfold sel
  rw [List.getElem?_map, h, Option.map_some]
  simp only [nthO, ho]
theorem RS.reach (rs : RS K as H st) {R : List Nat} (h : closB st R = true) {i : Nat} (hi : i ∈ R) {a : Addr} (ha : as[i]? = some a) : (selA as R)[idx R i]? = some a := selA_get (idx_get hi) ha
/-- the part R of the store -/
theorem RS.sel (rs : RS K as H st) {R : List Nat} (h : closB st R = true) : RS K (selA as R) H (Gv.sel st R) := by
  obtain ⟨hn, hc⟩ := clos_get h
  have get : ∀ {j : Nat} {o : Ob}, (Gv.sel st R)[j]? = some o → ∃ r u, R[j]? = some r ∧ st[r]? = some u ∧ o = u.ren (idx R) := fun {j o} e => by
    cases er : R[j]? with
    | none => simp [Gv.sel, er] at e
    | some r =>
      obtain ⟨u, hu, _⟩ := hc r (List.mem_of_getElem? er)
      rw [sel_get er hu] at e
      cases e
      exact ⟨r, u, rfl, hu, rfl⟩
  refine ⟨by simp [selA, Gv.sel], fun i j a o u h1 h2 h3 h4 m1 m2 => ?_, fun j o e => ?_⟩
  · obtain ⟨r1, u1, g1, g2, rfl⟩ := get h3
    obtain ⟨r2, u2, k1, k2, rfl⟩ := get h4
    obtain ⟨a1, e1, _⟩ := rs.ob r1 u1 g2
    obtain ⟨a2, e2, _⟩ := rs.ob r2 u2 k2
    rw [selA_get g1 e1] at h1
    rw [selA_get k1 e2] at h2
    cases h1
    cases h2
    have := rs.inj r1 r2 _ u1 u2 e1 e2 g2 k2 (Ob.ren_mu.mp m1) (Ob.ren_mu.mp m2)
    subst this
    rw [← idx_of hn g1, ← idx_of hn k1]
  · obtain ⟨r, u, g1, g2, rfl⟩ := get e
    obtain ⟨a, e1, ro⟩ := rs.ob r u g2
    refine ⟨a, selA_get g1 e1, ro.ren fun i hi b hb => ?_⟩
    obtain ⟨u', hu', hs⟩ := hc r (List.mem_of_getElem? g1)
    rw [g2] at hu'
    cases hu'
    exact selA_get (idx_get (hs i hi)) hb
theorem wrB_get {N : Nat} {R : List Nat} : ∀ {st : Sto} (k i : Nat), (wrB st' N R k st)[i]? = (st[i]?).map fun o => if R.contains (k + i) then (nthO st' (idx R (k + i))).ren (upI N R) else o
  | [], k, i => by simp [wrB]
  | o :: st, k, 0 => by simp [wrB]
  | o :: st, k, i + 1 => by
    rw [wrB, List.getElem?_cons_succ, List.getElem?_cons_succ, wrB_get (st := st) (k + 1) i, show k + 1 + i = k + (i + 1) by omega]
theorem wrB_len {N : Nat} {R : List Nat} : ∀ {st : Sto} (k : Nat), (wrB st' N R k st).length = st.length
  | [], k => rfl
  | o :: st, k => by rw [wrB, List.length_cons, List.length_cons, wrB_len (st := st) (k + 1)]
/-- back from the part into the whole -/
theorem RS.merge (rs : RS K as H st) {R : List Nat} (h : closB st R = true) (hm : mutB st R = true) {e : List Addr} (p : Stp (selA as R) H (selA as R ++ e) H') (rs' : RS K (selA as R ++ e) H' st') :
    Stp as H (as ++ e) H' ∧ RS K (as ++ e) H' (Gv.merge st st' R) ∧ ∀ i a, (selA as R ++ e)[i]? = some a → (as ++ e)[upI st.length R i]? = some a := by
  obtain ⟨hn, hc⟩ := clos_get h
  have hmu : ∀ r ∈ R, ∀ o, st[r]? = some o → o.mu := fun r hr o ho => by
    have := List.all_eq_true.mp hm r hr
    rw [ho] at this
    exact Ob.muB_mu this
  have hsl : (selA as R).length = R.length := by simp [selA]
  have hl := rs.len
  have mem0 : ∀ {b : Addr}, b ∈ selA as R → ∃ (r : Nat) (o : Ob), r ∈ R ∧ as[r]? = some b ∧ st[r]? = some o ∧ o.mu := fun {b} hb => by
    obtain ⟨r, hr, e1⟩ := List.mem_map.mp hb
    obtain ⟨o, ho, _⟩ := hc r hr
    obtain ⟨a, ha, _⟩ := rs.ob r o ho
    rw [List.getD_eq_getElem?_getD, ha] at e1
    exact ⟨r, o, hr, by rw [ha]; exact congrArg some e1, ho, hmu r hr o ho⟩
  have fresh : ∀ a ∈ e, H a = none := by
    obtain ⟨⟨e', he, hf⟩, _⟩ := p
    have := List.append_cancel_left he
    subst this
    exact hf
  have S : Stp as H (as ++ e) H' := ⟨⟨e, rfl, fresh⟩, p.tup, fun b o hb ho => p.fr b o (fun hb' => by
    obtain ⟨r, _, _, h1, _⟩ := mem0 hb'
    exact hb (List.mem_of_getElem? h1)) ho, p.lv⟩
  have up : ∀ i a, (selA as R ++ e)[i]? = some a → (as ++ e)[upI st.length R i]? = some a := fun i a hi => by
    unfold upI
    cases er : R[i]? with
    | some r =>
      have hlt := (List.getElem?_eq_some_iff.mp er).1
      rw [List.getElem?_append_left (by omega)] at hi
      obtain ⟨o, ho, _⟩ := hc r (List.mem_of_getElem? er)
      obtain ⟨b, hb, _⟩ := rs.ob r o ho
      rw [selA_get er hb] at hi
      have hr := (List.getElem?_eq_some_iff.mp hb).1
      dsimp only
      rw [List.getElem?_append_left hr, hb]
      exact hi
    | none =>
      have hge : R.length ≤ i := List.getElem?_eq_none_iff.mp er
      rw [List.getElem?_append_right (by omega)] at hi
      dsimp only
      rw [List.getElem?_append_right (by omega), show st.length + (i - R.length) - as.length = i - (selA as R).length by omega]
      exact hi
  have hl' := rs'.len
  rw [List.length_append, hsl] at hl'
  -- what stands at an index
  have look : ∀ {i : Nat} {o : Ob}, (Gv.merge st st' R)[i]? = some o → (i < st.length ∧ i ∉ R ∧ st[i]? = some o) ∨
      (∃ j u, st'[j]? = some u ∧ o = u.ren (upI st.length R) ∧ i = upI st.length R j ∧ (R[j]? = some i ∨ (R.length ≤ j ∧ i = st.length + (j - R.length)))) := fun {i o} e1 => by
    unfold Gv.merge at e1
    by_cases hi : i < st.length
    · rw [List.getElem?_append_left (by rw [wrB_len]; exact hi), wrB_get, List.getElem?_eq_getElem hi, Option.map_some, Nat.zero_add] at e1
      by_cases hr : i ∈ R
      · rw [if_pos (by simpa using hr)] at e1
        have g := idx_get hr
        have hlt := (List.getElem?_eq_some_iff.mp g).1
        have hj : idx R i < st'.length := by omega
        refine .inr ⟨idx R i, st'[idx R i], List.getElem?_eq_getElem hj, ?_, ?_, .inl g⟩
        · simp only [Option.some.injEq] at e1
          rw [← e1]
          simp only [nthO, List.getElem?_eq_getElem hj]
        · simp only [upI, g]
      · rw [if_neg (by simpa using hr)] at e1
        exact .inl ⟨hi, hr, by rw [List.getElem?_eq_getElem hi]; exact e1⟩
    · rw [List.getElem?_append_right (by rw [wrB_len]; omega), wrB_len, List.getElem?_map, List.getElem?_drop] at e1
      cases eu : st'[R.length + (i - st.length)]? with
      | none => rw [eu] at e1; cases e1
      | some u =>
        rw [eu] at e1
        cases e1
        have hnone : R[R.length + (i - st.length)]? = none := List.getElem?_eq_none_iff.mpr (by omega)
        exact .inr ⟨_, u, eu, rfl, by simp only [upI, hnone]; omega, .inr ⟨by omega, by omega⟩⟩
  refine ⟨S, ⟨?_, fun i j a o u h1 h2 h3 h4 m1 m2 => ?_, fun i o e1 => ?_⟩, up⟩
  · unfold Gv.merge
    rw [List.length_append, List.length_append, wrB_len, List.length_map, List.length_drop]
    omega
  · have outin : ∀ {i j : Nat} {a : Addr} {o : Ob}, i < st.length → i ∉ R → st[i]? = some o → o.mu → (as ++ e)[i]? = some a → (as ++ e)[j]? = some a → (∃ k, R[k]? = some j ∨ (R.length ≤ k ∧ j = st.length + (k - R.length))) → False := fun {i j a o} hi hr ho mo g1 g2 hk => by
      rw [List.getElem?_append_left (by omega)] at g1
      obtain ⟨a', ha', ro⟩ := rs.ob i o ho
      rw [g1] at ha'
      cases ha'
      obtain ⟨w, hw, _⟩ := ro.ex mo
      obtain ⟨k, hk | hk⟩ := hk
      · have hj := List.mem_of_getElem? hk
        obtain ⟨u, hu, _⟩ := hc j hj
        have hjl := (List.getElem?_eq_some_iff.mp hu).1
        rw [List.getElem?_append_left (by omega)] at g2
        have := rs.inj i j a o u g1 g2 ho hu mo (hmu j hj u hu)
        subst this
        exact hr hj
      · rw [List.getElem?_append_right (by omega)] at g2
        rw [fresh a (List.mem_of_getElem? g2)] at hw
        cases hw
    rcases look h3 with ⟨a1, a2, a3⟩ | ⟨j1, u1, b1, rfl, b3, b4⟩ <;> rcases look h4 with ⟨c1, c2, c3⟩ | ⟨j2, u2, d1, rfl, d3, d4⟩
    · rw [List.getElem?_append_left (by omega)] at h1 h2
      exact rs.inj i j a o u h1 h2 a3 c3 m1 m2
    · exact (outin a1 a2 a3 m1 h1 h2 ⟨j2, d4⟩).elim
    · exact (outin c1 c2 c3 m2 h2 h1 ⟨j1, b4⟩).elim
    · obtain ⟨x1, y1, _⟩ := rs'.ob j1 u1 b1
      obtain ⟨x2, y2, _⟩ := rs'.ob j2 u2 d1
      have z1 := up _ _ y1
      have z2 := up _ _ y2
      rw [← b3, h1] at z1
      rw [← d3, h2] at z2
      cases z1
      cases z2
      have := rs'.inj j1 j2 a u1 u2 y1 y2 b1 d1 (Ob.ren_mu.mp m1) (Ob.ren_mu.mp m2)
      rw [b3, d3, this]
  · rcases look e1 with ⟨a1, a2, a3⟩ | ⟨j, u, b1, rfl, b3, _⟩
    · obtain ⟨a, ha, ro⟩ := rs.ob i o a3
      have keep : ∀ w, H a = some w → ¬ (∃ r o', r ∈ R ∧ as[r]? = some a ∧ st[r]? = some o' ∧ o'.mu) → H' a = some w := fun w hw hno => p.fr a w (fun hb => hno (mem0 hb)) hw
      refine ⟨a, by rw [List.getElem?_append_left (by omega)]; exact ha, ?_⟩
      have nomut : o.mu → ¬ (∃ r o', r ∈ R ∧ as[r]? = some a ∧ st[r]? = some o' ∧ o'.mu) := fun m ⟨r, o', hr, g1, g2, g3⟩ => by
        have := rs.inj i r a o o' ha g1 a3 g2 m g3
        subst this
        exact a2 hr
      cases o with
      | lst ds => obtain ⟨xs, ex, r⟩ := ro; exact ⟨xs, keep _ ex (nomut trivial), r.mono S⟩
      | dK ds => obtain ⟨xs, ex, r⟩ := ro; exact ⟨xs, keep _ ex (nomut trivial), r.mono S⟩
      | dT ds => obtain ⟨xs, ex, r⟩ := ro; exact ⟨xs, keep _ ex (nomut trivial), r.mono S⟩
      | fls ds =>
        obtain ⟨xs, ex, r⟩ := ro
        refine ⟨xs, ?_, r.mono S⟩
        rcases ex with ⟨q, hq⟩ | hq
        · refine .inl ⟨q, keep _ hq fun ⟨r, o', hr, g1, g2, g3⟩ => ?_⟩
          obtain ⟨b, hb, ro'⟩ := rs.ob r o' g2
          rw [g1] at hb
          cases hb
          obtain ⟨w, hw, ww⟩ := ro'.ex g3
          rw [hq] at hw
          cases hw
          exact ww
        · exact .inr hq
    · obtain ⟨a, ha, ro⟩ := rs'.ob j u b1
      exact ⟨a, by rw [b3]; exact up _ _ ha, ro.ren fun i _ a ha => up i a ha⟩
end

/-! ### the rules -/
section
variable {K : PySem.W.Frag} {T : Nat → Addr} {as as' : List Addr} {H H' : Hp} {st s : Sto} {W : WX} {σ : L2.St}
theorem reachF_pre : ∀ (k : Nat) (todo acc : List Nat), ∃ t, reachF s k todo acc = acc ++ t
  | 0, _, acc => ⟨[], by simp [reachF]⟩
  | k + 1, [], acc => ⟨[], by simp [reachF]⟩
  | k + 1, i :: todo, acc => by
    rw [reachF]
    split
    · exact reachF_pre k todo acc
    · split
      · rename_i o _
        obtain ⟨t, h⟩ := reachF_pre k (o.objs ++ todo) (acc ++ [i])
        exact ⟨i :: t, by rw [h, List.append_assoc]; rfl⟩
      · exact ⟨[], (List.append_nil _).symm⟩
theorem selA_pre {e : List Addr} {t : List Nat} {n : Nat} (hn : as.length = n) (hR : (List.range n ++ t).Nodup) (hl : ∀ r ∈ t, r < (as ++ e).length) : selA (as ++ e) (List.range n ++ t) = as ++ selA (as ++ e) t ∧ ∀ a ∈ selA (as ++ e) t, a ∈ e := by
  refine ⟨?_, fun a ha => ?_⟩
  · unfold selA
    rw [List.map_append]
    congr 1
    apply List.ext_getElem?
    intro i
    rw [List.getElem?_map]
    by_cases hi : i < n
    · rw [List.getElem?_range hi, Option.map_some, List.getD_eq_getElem?_getD, List.getElem?_append_left (by omega), List.getElem?_eq_getElem (by omega)]
      rfl
    · rw [List.getElem?_eq_none (by simp; omega), List.getElem?_eq_none (by omega)]
      rfl
  · obtain ⟨r, hr, e1⟩ := List.mem_map.mp ha
    have h1 := hl r hr
    have h2 : n ≤ r := by
      have := (List.nodup_append.mp hR).2.2
      rcases Nat.lt_or_ge r n with h | h
      · exact absurd rfl (this r (List.mem_range.mpr h) r hr)
      · exact h
    rw [List.getD_eq_getElem?_getD, List.getElem?_append_right (by omega)] at e1
    rw [List.length_append] at h1
    rw [List.getElem?_eq_getElem (by omega)] at e1
    rw [← e1]
    exact List.getElem_mem _
theorem canon_step {n : Nat} {xs : List D} {R : List Nat} (eR : R = canR n s xs) (hn : as.length = n) (hc : closB s R = true) (hx : subB (objsL xs) R = true) (p : Stp as H as' H') (rs : RS K as' H' s) :
    ∃ t, Stp as H (as ++ t) H' ∧ RS K (as ++ t) H' (Gv.sel s R) ∧ ∀ i, i ∈ R → ∀ a, as'[i]? = some a → (as ++ t)[idx R i]? = some a := by
  have rs2 := rs.sel hc
  obtain ⟨t, ht⟩ := reachF_pre (s := s) 1000000 (objsL xs ++ objsL ((s.take n).map Ob.vals).flatten) (List.range n)
  rw [show R = List.range n ++ t from eR.trans ht] at hc hx rs2 ⊢
  obtain ⟨hnod, hcl⟩ := clos_get hc
  obtain ⟨⟨e, rfl, hf⟩, ptup, pfr, plv⟩ := p
  obtain ⟨e1, e2⟩ := selA_pre (as := as) (e := e) hn hnod fun r hr => by
    obtain ⟨o, ho, _⟩ := hcl r (List.mem_append_right _ hr)
    rw [rs.len]
    exact (List.getElem?_eq_some_iff.mp ho).1
  rw [e1] at rs2
  exact ⟨_, ⟨⟨_, rfl, fun a ha => hf a (e2 a ha)⟩, ptup, pfr, plv⟩, rs2, fun i hi a ha => by rw [← e1]; exact selA_get (idx_get hi) ha⟩
theorem Post.canon {n : Nat} {r : Re D} {Q : V → Hp → Prop} (hn : as.length = n) (h : Post K T (RV K) W σ as H (Gv.canon n r) Q) : Post K T (RV K) W σ as H r Q := by
  cases r with
  | no => exact h
  | ok x s =>
    simp only [Gv.canon] at h
    split at h
    · rename_i c
      simp only [canOk, Bool.and_eq_true] at c
      intro v H' as' p rs rv
      obtain ⟨t, q1, q2, q3⟩ := canon_step rfl hn c.1.1 c.1.2 p rs
      exact h v H' _ q1 q2 (rv.ren fun i hi a ha => q3 i (subB_mem c.1.2 (by simp [objsL, hi])) a ha)
    · exact h.elim
  | er e s =>
    simp only [Gv.canon] at h
    split at h
    · rename_i c
      simp only [canOk, Bool.and_eq_true] at c
      intro cls dx H' as' p rs rx
      obtain ⟨t, q1, q2, q3⟩ := canon_step rfl hn c.1.1 c.1.2 p rs
      obtain ⟨e1, d, vc, vp, e2, e3, r1, r2⟩ := rx
      exact h cls dx H' _ q1 q2 ⟨e1, d, vc, vp, e2, e3, r1.ren fun i hi a ha => q3 i (subB_mem c.1.2 (by simp [objsL, hi])) a ha, r2.ren fun i hi a ha => q3 i (subB_mem c.1.2 (by simp [objsL, hi])) a ha⟩
    · exact h.elim
end
/-- a def's answer, in order -/
def clean (f : FnD) : FnD := fun ds st => canon st.length (f ds st)
abbrev dFc (n ar : Nat) (body : SD) : FnD := clean (dFn n ar body)
section
variable {P : Program} {w : World} {K : PySem.W.Frag} {mg : Str → Option Value} {base : Heap} {T : Nat → Addr}
theorem GF.clean {k : Nat} {f : Addr} {fd : FuncData} {ps : List Str} {d : FnD} (g : GF P w K mg base T k f fd ps d) : GF P w K mg base T k f fd ps (Gv.clean d) :=
  ⟨g.ok.imp fun vs H Q E ⟨h1, ds, st, as, rs, rx, q⟩ => ⟨h1, ds, st, as, rs, rx, Post.canon rs.len q⟩, fun ds st h => by
    unfold Gv.clean
    rw [g.len ds st h]
    rfl⟩
end
def dX (f : FnD) (a : AD) : ED := fun en st => (a en st).bind fun xs s1 => callX f xs s1
section
variable {X : Cx} {T : Nat → Addr} {W : WX}
theorem g_callX {k : Nat} {fa : Addr} {fd : FuncData} {ps : List Str} {f : FnD} {x : Str} {p pos : Pos} {e : Expr} {es : List Expr} {da : AD} (F : GF X.prog X.w X.K X.mg X.base T k fa fd ps f) (hr : Room k X.A) (tk : Takes X W) (hm : X.mg x = some (.ref fa)) (hk : PySem.W.keepIn X.K (.ref fa) = true) (hb : Binds X.K fd ps [])
    (ha : PA X (e :: es) (tA X.K T W da)) (hg : Gl X x := by rfl) (hdb : (x == ("__debug__" : Str)) = false := by decide) (he : starEach (e :: es) X.env = (false, eval e X.env) :: starEach es X.env := by rfl) (hpl : (backTo pos (starEach es X.env)).any (·.1) = false := by rfl) :
    PE X (.Call (.Name x p) (e :: es) [] pos) (tE X.K T W (dX f da)) := by
  refine pe_mono (pe_callS F.ok hr hg hm hk hb (fun σ => passAt tk σ) ha hdb he hpl) fun σ H Q ⟨en, st, as, rs, re, q⟩ => ?_
  refine ⟨en, st, as, rs, re, (Post.bind (rel := RVs X.K) q).imp fun vs H1 ⟨as1, s1, xs, p1, rs1, rx, q1⟩ => ?_⟩
  unfold callX at q1
  generalize hR : reachF s1 1000000 (objsL xs) [] = R at q1
  dsimp only at q1
  split at q1
  · rename_i c
    simp only [Bool.and_eq_true] at c
    obtain ⟨⟨c1, c2⟩, c3⟩ := c
    have rsR := rs1.sel c1
    have rxR : RVs X.K (selA as1 R) H1 vs (renL (idx R) xs) := rx.ren fun i hi a ha => selA_get (idx_get (subB_mem c3 hi)) ha
    by_cases hl : xs.length = ps.length
    · refine ⟨by rw [rx.length]; exact hl, _, _, _, rsR, rxR, ?_⟩
      cases e : f (renL (idx R) xs) (Gv.sel s1 R) with
      | ok y s2 =>
        rw [e] at q1
        intro v H' as' p rs' rv
        have p' := p
        obtain ⟨⟨ex, rfl, _⟩, _⟩ := p'
        obtain ⟨S, rm, up⟩ := rs1.merge c1 c2 p rs'
        exact q1 v H' _ S rm (rv.ren fun i _ a ha => up i a ha)
      | er y s2 =>
        rw [e] at q1
        intro cls dx H' as' p rs' ry
        have p' := p
        obtain ⟨⟨ex, rfl, _⟩, _⟩ := p'
        obtain ⟨S, rm, up⟩ := rs1.merge c1 c2 p rs'
        obtain ⟨e1, d, vc, vp, e2, e3, r1, r2⟩ := ry
        exact q1 cls dx H' _ S rm ⟨e1, d, vc, vp, e2, e3, r1.ren fun i _ a ha => up i a ha, r2.ren fun i _ a ha => up i a ha⟩
      | no => rw [e] at q1; exact q1
    · have hl' : (renL (idx R) xs).length ≠ ps.length := by
        have : ∀ (g : Nat → Nat) (ys : List D), (renL g ys).length = ys.length := fun g ys => by
          induction ys with
          | nil => rfl
          | cons y ys ih => rw [renL, List.length_cons, List.length_cons, ih]
        rw [this]
        exact hl
      rw [F.len _ _ hl'] at q1
      exact q1.elim
  · exact q1.elim
end
end Gv
namespace Gv
open PySem PySem.Spec L2

/-! ### what stands at a name of the module -/
/-- the def x does f -/
structure Cal (P : Program) (w : World) (K : PySem.W.Frag) (mg : Str → Option Value) (base : Heap) (T : Nat → Addr) (k : Nat) (x : Str) (ps : List Str) (f : FnD) : Prop where
  ex : ∃ fa fd, GF P w K mg base T k fa fd ps f ∧ mg x = some (.ref fa) ∧ PySem.W.keepIn K (.ref fa) = true ∧ Binds K fd ps []
/-- the error x is class c -/
structure Exn (P : Program) (w : World) (K : PySem.W.Frag) (mg : Str → Option Value) (base : Heap) (T : Nat → Addr) (c : Nat) (x : Str) : Prop where
  ex : ∃ C fI fd dv, XC K C fI ∧ T c = C ∧ mg x = some (.ref C) ∧ FnOk P w K mg base (L2.CX P w) 1 fI fd ["self", "code", "place"] (spI K) ∧ Binds K fd ["self", "code", "place"] [] ∧ Binds K fd ["self", "code", "place"] dv ∧ Vals [.int 0] dv
section
variable {X : Cx} {T : Nat → Addr} {W : WX}
theorem g_cX {j k : Nat} {ps : List Str} {f : FnD} {x : Str} {p pos : Pos} {e : Expr} {es : List Expr} {da : AD} (c : Cal X.prog X.w X.K X.mg X.base T k x ps f) (hr : Room j X.A) (hk : k ≤ j) (tk : Takes X W)
    (ha : PA X (e :: es) (tA X.K T W da)) (hg : Gl X x := by rfl) (hdb : (x == ("__debug__" : Str)) = false := by decide) (he : starEach (e :: es) X.env = (false, eval e X.env) :: starEach es X.env := by rfl) (hpl : (backTo pos (starEach es X.env)).any (·.1) = false := by rfl) :
    PE X (.Call (.Name x p) (e :: es) [] pos) (tE X.K T W (dX f da)) := by
  obtain ⟨fa, fd, F, hm, hkp, hb⟩ := c.ex
  exact g_callX F (hr.mono hk) tk hm hkp hb ha hg hdb he hpl
theorem g_cC {j k : Nat} {ps : List Str} {f : FnD} {x : Str} {p pos : Pos} {e : Expr} {es : List Expr} {da : AD} (c : Cal X.prog X.w X.K X.mg X.base T k x ps f) (hr : Room j X.A) (hk : k ≤ j) (tk : Takes X W)
    (ha : PA X (e :: es) (tA X.K T W da)) (hg : Gl X x := by rfl) (hdb : (x == ("__debug__" : Str)) = false := by decide) (he : starEach (e :: es) X.env = (false, eval e X.env) :: starEach es X.env := by rfl) (hpl : (backTo pos (starEach es X.env)).any (·.1) = false := by rfl) :
    PE X (.Call (.Name x p) (e :: es) [] pos) (tE X.K T W (dCall f da)) := by
  obtain ⟨fa, fd, F, hm, hkp, hb⟩ := c.ex
  exact g_call F (hr.mono hk) tk hm hkp hb ha hg hdb he hpl
theorem g_rs1 {c j : Nat} {x : Str} {e : Expr} {p pos pos2 : Pos} {ds : AD} (xn : Exn X.prog X.w X.K X.mg X.base T c x) (hc : X.calm = true) (tk : Takes X W) (hr : Room j X.A) (hk : 2 ≤ j) (ha : PA X [e] (tA X.K T W ds)) (hg : Gl X x := by rfl) (hdb : (x == ("__debug__" : Str)) = false := by decide)
    (he : starEach [e] X.env = (false, eval e X.env) :: starEach [] X.env := by rfl) (hpl : (backTo pos (starEach [] X.env)).any (·.1) = false := by rfl) : PS X (.Raise (some (.Call (.Name x p) [e] [] pos)) none pos2) (tS X.K T W (sRs1 c ds)) := by
  obtain ⟨C, fI, fd, dv, xc, hC, hm, F, hb, hb2, hv⟩ := xn.ex
  exact gs_rs1 hc tk xc hC F (hr.mono hk) hb2 hv hm ha hg hdb he hpl
theorem g_rs2 {c j : Nat} {x : Str} {e1 e2 : Expr} {p pos pos2 : Pos} {ds : AD} (xn : Exn X.prog X.w X.K X.mg X.base T c x) (hc : X.calm = true) (tk : Takes X W) (hr : Room j X.A) (hk : 2 ≤ j) (ha : PA X [e1, e2] (tA X.K T W ds)) (hg : Gl X x := by rfl) (hdb : (x == ("__debug__" : Str)) = false := by decide)
    (he : starEach [e1, e2] X.env = (false, eval e1 X.env) :: starEach [e2] X.env := by rfl) (hpl : (backTo pos (starEach [e2] X.env)).any (·.1) = false := by rfl) : PS X (.Raise (some (.Call (.Name x p) [e1, e2] [] pos)) none pos2) (tS X.K T W (sRs2 c ds)) := by
  obtain ⟨C, fI, fd, dv, xc, hC, hm, F, hb, hb2, hv⟩ := xn.ex
  exact gs_rs2 hc tk xc hC F (hr.mono hk) hb hm ha rfl hg hdb he hpl
theorem g_tryC {x n : Str} {i c : Nat} {body : List Stmt} {np pos pos' q1 q2 q3 : Pos} {sb : SD} (xn : Exn X.prog X.w X.K X.mg X.base T c x) (tk : Takes X W) (hN : X.N.Nodup) (hi : X.N[i]? = some n) (hln : X.env.kindOf n = some .local)
    (hb : ∀ (W : WX) (pn : List (Addr × Obj)) (xe : Value → Shared → Prop), Takes (X.tr pn xe) W → PassesOwn (model X.prog X.w) X.A X.env xe → PSs (X.tr pn xe) body (tS X.K T W sb))
    (hs : X.stack = X.env :: X.outer := by rfl) (hf : X.env.frame = some X.env.locals := by rfl)
    (hat : attributeBase (.Name n q1) "code" X.env (eval (.Name n q1) X.env) = eval (.Name n q1) X.env := by rfl) (hg : Gl X x := by rfl) (hdb : (x == ("__debug__" : Str)) = false := by decide) (hdn : (n == ("__debug__" : Str)) = false := by decide) (hcn : (n == ("__classdict__" : Str)) = false := by decide) :
    PS X (.Try body [.ExceptHandler (some (.Name x np)) (some n) [.Return (some (.Attribute (.Name n q1) "code" q2)) q3] pos'] [] [] pos) (tS X.K T W (sTry c i Ex.code sb)) := by
  obtain ⟨C, fI, fd, dv, xc, hC, hm, F, _, _, hv⟩ := xn.ex
  exact gs_tryC hs hf hN hi hln hm tk xc hC hb hat hg hdb hdn hcn
theorem g_tryP {x n : Str} {i c kk : Nat} {body : List Stmt} {np pos pos' q1 q2 q3 q4 q5 q6 : Pos} {sb : SD} (xn : Exn X.prog X.w X.K X.mg X.base T c x) (tk : Takes X W) (hN : X.N.Nodup) (hi : X.N[i]? = some n) (hln : X.env.kindOf n = some .local)
    (hb : ∀ (W : WX) (pn : List (Addr × Obj)) (xe : Value → Shared → Prop), Takes (X.tr pn xe) W → PassesOwn (model X.prog X.w) X.A X.env xe → PSs (X.tr pn xe) body (tS X.K T W sb))
    (hs : X.stack = X.env :: X.outer := by rfl) (hf : X.env.frame = some X.env.locals := by rfl)
    (hat : attributeBase (.Name n q1) "code" X.env (eval (.Name n q1) X.env) = eval (.Name n q1) X.env := by rfl) (hat2 : attributeBase (.Name n q3) "place" X.env (eval (.Name n q3) X.env) = eval (.Name n q3) X.env := by rfl)
    (hs1 : starEach [Expr.Attribute (.Name n q1) "code" q2, .Attribute (.Name n q3) "place" q4] X.env = (false, eval (Expr.Attribute (.Name n q1) "code" q2) X.env) :: starEach [Expr.Attribute (.Name n q3) "place" q4] X.env := by rfl)
    (hs2 : starEach [Expr.Attribute (.Name n q3) "place" q4] X.env = (false, eval (Expr.Attribute (.Name n q3) "place" q4) X.env) :: starEach [] X.env := by rfl) (hg : Gl X x := by rfl) (hdb : (x == ("__debug__" : Str)) = false := by decide) (hdn : (n == ("__debug__" : Str)) = false := by decide) (hcn : (n == ("__classdict__" : Str)) = false := by decide) :
    PS X (.Try body [.ExceptHandler (some (.Name x np)) (some n) [.Return (some (.Tuple [.Attribute (.Name n q1) "code" q2, .Attribute (.Name n q3) "place" q4] kk q5)) q6] pos'] [] [] pos) (tS X.K T W (sTry c i (fun e => .tup [e.code, e.place]) sb)) := by
  obtain ⟨C, fI, fd, dv, xc, hC, hm, F, _, _, hv⟩ := xn.ex
  exact gs_tryP hs hf hN hi hln hm tk xc hC hb hat hat2 hs1 hs2 hg hdb hdn hcn
end

/-! ### targets -/
section
variable {X : Cx} {pos p1 p2 p3 p4 : Pos} {kk : Nat}
theorem gg_t2 {i j : Nat} {x y : Str} (hc : X.calm = true) (hN : X.N.Nodup) (hi : X.N[i]? = some x) (hj : X.N[j]? = some y) (hx : Loc X.env.scope x) (hy : Loc X.env.scope y) (fx : X.fn x = true ∨ X.env.scope.names.lookup x = some .local) (fy : X.fn y = true ∨ X.env.scope.names.lookup y = some .local)
    (s1 : (assignEach [Expr.Name x p1, .Name y p2] X.env).map (·.2) = assign (.Name x p1) X.env :: (assignEach [Expr.Name y p2] X.env).map (·.2) := by rfl) (s2 : (assignEach [Expr.Name y p2] X.env).map (·.2) = assign (.Name y p2) X.env :: (assignEach [] X.env).map (·.2) := by rfl)
    (hn : (assignEach [Expr.Name x p1, .Name y p2] X.env).length = 2 := by rfl) (hst : (assignEach [Expr.Name x p1, .Name y p2] X.env).findIdx? (·.1) = none := by rfl) :
    PG X (.Tuple [.Name x p1, .Name y p2] kk pos) (gTup X.K 2 (gCons (gName i) (gCons (gName j) gNil))) :=
  pg_tup hc (pgs_cons (pg_name hN hi hx fx) (pgs_cons (pg_name hN hj hy fy) pgs_nil s2) s1) hn hst
theorem gg_t3 {i j k : Nat} {x y z : Str} (hc : X.calm = true) (hN : X.N.Nodup) (hi : X.N[i]? = some x) (hj : X.N[j]? = some y) (hk : X.N[k]? = some z) (hx : Loc X.env.scope x) (hy : Loc X.env.scope y) (hz : Loc X.env.scope z) (fx : X.fn x = true ∨ X.env.scope.names.lookup x = some .local) (fy : X.fn y = true ∨ X.env.scope.names.lookup y = some .local) (fz : X.fn z = true ∨ X.env.scope.names.lookup z = some .local)
    (s1 : (assignEach [Expr.Name x p1, .Name y p2, .Name z p3] X.env).map (·.2) = assign (.Name x p1) X.env :: (assignEach [Expr.Name y p2, .Name z p3] X.env).map (·.2) := by rfl) (s2 : (assignEach [Expr.Name y p2, .Name z p3] X.env).map (·.2) = assign (.Name y p2) X.env :: (assignEach [Expr.Name z p3] X.env).map (·.2) := by rfl) (s3 : (assignEach [Expr.Name z p3] X.env).map (·.2) = assign (.Name z p3) X.env :: (assignEach [] X.env).map (·.2) := by rfl)
    (hn : (assignEach [Expr.Name x p1, .Name y p2, .Name z p3] X.env).length = 3 := by rfl) (hst : (assignEach [Expr.Name x p1, .Name y p2, .Name z p3] X.env).findIdx? (·.1) = none := by rfl) :
    PG X (.Tuple [.Name x p1, .Name y p2, .Name z p3] kk pos) (gTup X.K 3 (gCons (gName i) (gCons (gName j) (gCons (gName k) gNil)))) :=
  pg_tup hc (pgs_cons (pg_name hN hi hx fx) (pgs_cons (pg_name hN hj hy fy) (pgs_cons (pg_name hN hk hz fz) pgs_nil s3) s2) s1) hn hst
theorem gg_t4 {i j k l : Nat} {x y z u : Str} (hc : X.calm = true) (hN : X.N.Nodup) (hi : X.N[i]? = some x) (hj : X.N[j]? = some y) (hk : X.N[k]? = some z) (hl : X.N[l]? = some u) (hx : Loc X.env.scope x) (hy : Loc X.env.scope y) (hz : Loc X.env.scope z) (hu : Loc X.env.scope u) (fx : X.fn x = true ∨ X.env.scope.names.lookup x = some .local) (fy : X.fn y = true ∨ X.env.scope.names.lookup y = some .local) (fz : X.fn z = true ∨ X.env.scope.names.lookup z = some .local) (fu : X.fn u = true ∨ X.env.scope.names.lookup u = some .local)
    (s1 : (assignEach [Expr.Name x p1, .Name y p2, .Name z p3, .Name u p4] X.env).map (·.2) = assign (.Name x p1) X.env :: (assignEach [Expr.Name y p2, .Name z p3, .Name u p4] X.env).map (·.2) := by rfl) (s2 : (assignEach [Expr.Name y p2, .Name z p3, .Name u p4] X.env).map (·.2) = assign (.Name y p2) X.env :: (assignEach [Expr.Name z p3, .Name u p4] X.env).map (·.2) := by rfl)
    (s3 : (assignEach [Expr.Name z p3, .Name u p4] X.env).map (·.2) = assign (.Name z p3) X.env :: (assignEach [Expr.Name u p4] X.env).map (·.2) := by rfl) (s4 : (assignEach [Expr.Name u p4] X.env).map (·.2) = assign (.Name u p4) X.env :: (assignEach [] X.env).map (·.2) := by rfl)
    (hn : (assignEach [Expr.Name x p1, .Name y p2, .Name z p3, .Name u p4] X.env).length = 4 := by rfl) (hst : (assignEach [Expr.Name x p1, .Name y p2, .Name z p3, .Name u p4] X.env).findIdx? (·.1) = none := by rfl) :
    PG X (.Tuple [.Name x p1, .Name y p2, .Name z p3, .Name u p4] kk pos) (gTup X.K 4 (gCons (gName i) (gCons (gName j) (gCons (gName k) (gCons (gName l) gNil))))) :=
  pg_tup hc (pgs_cons (pg_name hN hi hx fx) (pgs_cons (pg_name hN hj hy fy) (pgs_cons (pg_name hN hk hz fz) (pgs_cons (pg_name hN hl hu fu) pgs_nil s4) s3) s2) s1) hn hst
end

/-! ### -x, a, b, c = .. -/
def fNeg : D → Sto → Vr := fun x st => match x with
  | .int i => some (.int (-i), st)
  | _ => none
section
variable {X : Cx} {T : Nat → Addr} {W : WX} {a b c : Expr} {da : ED} {pos : Pos}
theorem g_neg (ha : PE X a (tE X.K T W da)) : PE X (.UnaryOp .USub a pos) (tE X.K T W (dUn fNeg da)) := by
  refine g_un (fun pins s σ H x v Q I rx ⟨as, st, dx, rs, hx, q⟩ => ?_) ha
  unfold fNeg at q
  split at q
  · cases hx
    exact un_neg pins s σ H _ v Q I rx ⟨_, rfl, postv1 rs (.int _) q⟩
  · exact q.elim
theorem gs_par3 {i j l : Nat} {x y z : Str} {ds : AD} {px py pz pt : Pos} {kt k2 pt2} (hc : X.calm = true) (hN : X.N.Nodup) (hi : X.N[i]? = some x) (hj : X.N[j]? = some y) (hl : X.N[l]? = some z) (hij : i ≠ j) (hil : i ≠ l) (hjl : j ≠ l)
    (hx : X.env.scope.names.lookup x = some .local) (hy : X.env.scope.names.lookup y = some .local) (hz : X.env.scope.names.lookup z = some .local) (ha : PA X [a, b, c] (tA X.K T W ds))
    (hw : swappedStores [.Tuple [.Name x px, .Name y py, .Name z pz] kt pt] (.Tuple [a, b, c] k2 pt2) X.env = pure (some [x, y, z]))
    (hs : swapsWithSole [.Tuple [.Name x px, .Name y py, .Name z pz] kt pt] (.Tuple [a, b, c] k2 pt2) pos.line X.env = pure false := by rfl) :
    PS X (.Assign [.Tuple [.Name x px, .Name y py, .Name z pz] kt pt] (.Tuple [a, b, c] k2 pt2) pos) (tS X.K T W (sPar3 i j l ds)) := by
  refine ps_mono (ps_par3 hc hN hi hj hl hij hil hjl hx hy hz ha hw hs) fun D σ H ⟨en, st, as, rs, re, q⟩ => ?_
  refine ⟨en, st, as, rs, re, (PostS.bind re q).imp fun vs H1 ⟨as1, s1, xs, p1, rs1, rx, re1, q1⟩ => ?_⟩
  split at q1
  · cases rx with
    | @cons v1 _ _ _ r1 rx =>
    cases rx with
    | @cons v2 _ _ _ r2 rx =>
    cases rx with
    | @cons v3 _ _ _ r3 rx =>
    cases rx
    exact ⟨v1, v2, v3, rfl, q1 _ H1 as1 Stp.refl rs1 (((re1.set r1).set r2).set r3)⟩
  · exact q1.elim
end

/-! ### len(set(list of ints)) where all differ -/
def nodI : List Int → Bool
  | [] => true
  | x :: xs => !xs.contains x && nodI xs
theorem nodI_ok : ∀ {xs : List Int}, nodI xs = true → xs.Nodup
  | [], _ => .nil
  | x :: xs, h => by
    simp only [nodI, Bool.and_eq_true, Bool.not_eq_true'] at h
    refine List.nodup_cons.mpr ⟨fun hm => ?_, nodI_ok h.2⟩
    have : xs.contains x = true := by simpa using hm
    rw [this] at h
    cases h.1
def dLenS (a : ED) : ED := fun en st => (a en st).bind fun x s1 => match (lstOf s1 x).bind intsD with
  | some ns => if nodI ns = true ∧ ns.length ≤ 4000 then .ok (.int ns.length) s1 else .no
  | none => .no
section
variable {X : Cx} {T : Nat → Addr} {W : WX} {a : Expr} {da : ED} {p p2 q pos : Pos}
theorem g_lenS (ha : PE X a (tE X.K T W da)) (hm : X.mg "len" = none) (hm2 : X.mg "set" = none) (hg : Gl X "len" := by rfl) (hg2 : Gl X "set" := by rfl) (hc : X.calm = true := by rfl)
    (na : starEach [a] X.env = (false, eval a X.env) :: starEach [] X.env := by rfl) : PE X (.Call (.Name "len" p) [.Call (.Name "set" p2) [a] [] q] [] pos) (tE X.K T W (dGC (dLenS da))) := by
  refine g_gc (pe_mono (RZ.pe_lenSetI hg hm hg2 hm2 ha hc na) fun σ H Q ⟨en, st, as, rs, re, q⟩ => ?_)
  refine ⟨en, st, as, rs, re, (Post.bind (rel := RV X.K) q).imp fun x H1 ⟨as1, s1, dx, p1, rs1, rx, q1⟩ => ?_⟩
  cases e : lstOf s1 dx with
  | none => rw [e] at q1; exact q1.elim
  | some zs =>
    rw [e] at q1
    cases e2 : intsD zs with
    | none => simp only [Option.bind_some, e2] at q1; exact q1.elim
    | some ns =>
      simp only [Option.bind_some, e2] at q1
      split at q1
      · rename_i h
        obtain ⟨pp, ys, rfl, sq, r⟩ := lstOf_sq rs1 rx e
        rw [intsD_rv r e2] at sq
        exact ⟨pp, ns, rfl, sq, nodI_ok h.1, h.2, q1 _ H1 as1 Stp.refl rs1 (.int _)⟩
      · exact q1.elim
end
theorem bt_len : bootBuiltins "len" = some (.builtin "len") := by decide +kernel
theorem bt_abs : bootBuiltins "abs" = some (.builtin "abs") := by decide +kernel
theorem bt_max : bootBuiltins "max" = some (.builtin "max") := by decide +kernel
theorem bt_min : bootBuiltins "min" = some (.builtin "min") := by decide +kernel
theorem bt_any : bootBuiltins "any" = some (.builtin "any") := by decide +kernel
theorem bt_all : bootBuiltins "all" = some (.builtin "all") := by decide +kernel
theorem bt_sum : bootBuiltins "sum" = some (.builtin "sum") := by decide +kernel
theorem bt_int : bootBuiltins "int" = some (.type "int") := by decide +kernel
theorem bt_list : bootBuiltins "list" = some (.type "list") := by decide +kernel
theorem bt_tuple : bootBuiltins "tuple" = some (.type "tuple") := by decide +kernel
theorem bt_bool : bootBuiltins "bool" = some (.type "bool") := by decide +kernel
theorem bt_str : bootBuiltins "str" = some (.type "str") := by decide +kernel
theorem u65 {k : Nat} {A : Around} (r : Room k A) : A.units + 65 < cLine := by have := r.un; omega
theorem u1 {k : Nat} {A : Around} (r : Room k A) : A.units + 1 < cLine := by have := r.un; omega
/-! ### what is never reached -/
def dNo : ED := fun _ _ => .no
def bNo : BD := fun _ _ => .no
def iNo : ID := fun _ _ => .no
def sNo : SD := fun _ _ => .no
section
variable {X : Cx} {T : Nat → Addr} {W : WX} {e tg : Expr} {s : Stmt}
theorem g_no : PE X e (tE X.K T W dNo) := ⟨fun pins s σ H Q I ⟨en, st, as, rs, re, q⟩ => q.elim⟩
theorem gt_no : PT X e (tT X.K T W bNo) := ⟨fun pins s σ H Q I ⟨en, st, as, rs, re, q⟩ => q.elim⟩
theorem gi_no : PI X tg e (tI X.K T W iNo) := ⟨fun pins s σ H Q I ⟨en, st, as, rs, re, q⟩ => q.elim⟩
theorem gs_no : PS X s (tS X.K T W sNo) := ⟨fun pins s σ H D I ⟨en, st, as, rs, re, q⟩ => q.elim⟩
end
end Gv
namespace Gv
open PySem PySem.Spec L2 PyProof.Rows

/-! ### sorted: any data that compares -/
def pdG (d : D) : PyData := (pd d).getD .none
def allPd (xs : List D) : Bool := xs.all fun d => (pd d).isSome
def alikeB (xs : List D) : Bool := xs.all fun a => xs.all fun b => PySem.W.alike (pdG a) (pdG b)
def tupB : PyData → Bool
  | .tuple (_ :: _) => true
  | _ => false
def othB : PyData → Bool
  | .tuple _ => false
  | .none => false
  | _ => true
def sortOk (xs : List D) : Bool := allPd xs && alikeB xs && (xs.all (fun d => tupB (pdG d)) || xs.all (fun d => othB (pdG d))) && xs.all (fun d => decide ((pdG d).depth ≤ 60)) && decide (xs.length ≤ 16777216)
def sortD (xs : List D) : List D := xs.mergeSort (PySem.W.dataLe false pdG)
def fSorted : FN := fun ds st => match ds with
  | [d] => (lstOf st d).bind fun xs => if sortOk xs = true then some (.obj st.length, st ++ [.lst (sortD xs)]) else none
  | _ => none
theorem pairs_rv {K : PySem.W.Frag} {as : List Addr} {H : Hp} : ∀ {vs : List V} {ds : List D}, RVs K as H vs ds → ∀ p ∈ vs.zip ds, RV K as H p.1 p.2
  | _, _, .nil, p, h => by cases h
  | _, _, .cons h r, p, hp => by
    rcases List.mem_cons.mp hp with rfl | hp
    · exact h
    · exact pairs_rv r p hp
theorem rv_pairs {K : PySem.W.Frag} {as : List Addr} {H : Hp} : ∀ {ps : List (V × D)}, (∀ p ∈ ps, RV K as H p.1 p.2) → RVs K as H (ps.map (·.1)) (ps.map (·.2))
  | [], _ => .nil
  | p :: ps, h => .cons (h p List.mem_cons_self) (rv_pairs fun q hq => h q (List.mem_cons_of_mem _ hq))
section
variable {X : Cx}
theorem each_vals {xs : List V} {ds : List D} {us : List Value} (r : Vals xs us) (hl : xs.length = ds.length) : PySem.W.EachIs (fun (v : Value) (p : V × D) => RelV p.1 v) us (xs.zip ds) := by
  induction r generalizing ds with
  | nil => exact .nil
  | cons h r ih =>
    cases ds with
    | nil => simp at hl
    | cons d ds => exact .cons h (ih (by simpa using hl))
theorem vals_each : ∀ {us : List Value} {ps : List (V × D)}, PySem.W.EachIs (fun (v : Value) (p : V × D) => RelV p.1 v) us ps → Vals (ps.map (·.1)) us
  | _, _, .nil => .nil
  | _, _, .cons h r => .cons h (vals_each r)
theorem cg_sorted (hc : X.calm = true) (hu : X.A.units + 64 < cLine) : CallR X (.builtin "sorted") (cOf X.K fSorted) := by
  intro pins s σ H xs us Q I r ⟨as, st, ds, rs, rx, q⟩
  unfold fSorted at q
  split at q
  · rename_i d
    obtain ⟨v, rfl, rv⟩ := rx.one
    cases e : lstOf st d with
    | none => rw [e] at q; exact q.elim
    | some zs =>
      rw [e] at q
      simp only [Option.bind_some] at q
      split at q
      · rename_i hk
        simp only [sortOk, Bool.and_eq_true, Bool.or_eq_true, decide_eq_true_eq] at hk
        obtain ⟨⟨⟨⟨k1, k2⟩, k3⟩, k4⟩, k5⟩ := hk
        obtain ⟨a, ys, rfl, sq, ry⟩ := lstOf_sq rs rv e
        obtain ⟨its, rv', hl, hz⟩ := I.list sq
        rw [Vals.ref1 r]
        have hlen : ys.length = zs.length := ry.length
        have hpr := pairs_rv ry
        have hmem : ∀ p ∈ ys.zip zs, p.2 ∈ zs := fun p hp => (List.of_mem_zip hp).2
        have e1 := each_vals rv' hlen
        have pdof : ∀ d ∈ zs, pd d = some (pdG d) := fun d hd => by
          have := List.all_eq_true.mp k1 d hd
          unfold pdG
          cases h : pd d with
          | none => rw [h] at this; cases this
          | some p => rfl
        have e2 : PySem.W.EachIs (fun v (p : V × D) => ∃ bs, Reads s.heap v (pdG p.2) bs) its (ys.zip zs) := by
          refine PySem.W.EachIs.of_zip e1.length fun z hz => ?_
          have hr := e1.zip z hz
          have hz2 : z.2 ∈ ys.zip zs := (List.of_mem_zip hz).2
          exact Dp.reads I (pdG z.2.2) z.2.1 z.1 (pd_dp (hpr _ hz2) (pdof _ (hmem _ hz2))) hr
        have al : PySem.W.AllAlike ((ys.zip zs).map fun p => pdG p.2) := by
          intro d hd d' hd'
          obtain ⟨p, hp, rfl⟩ := List.mem_map.mp hd
          obtain ⟨p', hp', rfl⟩ := List.mem_map.mp hd'
          exact List.all_eq_true.mp (List.all_eq_true.mp k2 _ (hmem p hp)) _ (hmem p' hp')
        have sb : PySem.W.Sortable ((ys.zip zs).map fun p => pdG p.2) := by
          rcases k3 with k3 | k3
          · refine .inl fun d hd => ?_
            obtain ⟨p, hp, rfl⟩ := List.mem_map.mp hd
            have := List.all_eq_true.mp k3 _ (hmem p hp)
            unfold tupB at this
            split at this
            · rename_i x r h; exact ⟨x, r, h⟩
            · cases this
          · refine .inr fun d hd => ?_
            obtain ⟨p, hp, rfl⟩ := List.mem_map.mp hd
            have := List.all_eq_true.mp k3 _ (hmem p hp)
            constructor
            · intro z
              rw [z] at this
              cases this
            · intro xs z
              rw [z] at this
              cases this
        refine PySem.W.sorted_data (enc := fun (p : V × D) => pdG p.2) hl.isList e1 e2 al sb (by rw [List.length_zip, hlen, Nat.min_self, sizeLine_eq]; exact k5) (fun p hp => ?_) fun out h1 h2 => ?_
        · have := of_decide_eq_true (List.all_eq_true.mp k4 _ (hmem p hp))
          omega
        · have hv := vals_each h2
          obtain ⟨ep, he'⟩ := sortedAll_at s.heap its out.toArray
          have hmap : ((ys.zip zs).mergeSort (PySem.W.dataLe false fun (p : V × D) => pdG p.2)).map (·.2) = sortD zs := by
            have h := List.map_mergeSort (r := PySem.W.dataLe false fun (p : V × D) => pdG p.2) (s := PySem.W.dataLe false pdG) (f := fun p : V × D => p.2) (l := ys.zip zs) (fun a _ b _ => rfl)
            rw [h]
            unfold sortD
            rw [show (ys.zip zs).map (fun p => p.2) = zs from List.map_snd_zip (by rw [hlen]; exact Nat.le_refl _)]
          have hrv : RVs X.K as H (((ys.zip zs).mergeSort (PySem.W.dataLe false fun (p : V × D) => pdG p.2)).map (·.1)) (sortD zs) := by
            rw [← hmap]
            exact rv_pairs fun p hp => hpr p ((List.mergeSort_perm _ _).mem_iff.mp hp)
          have hfree := I.hok.fresh (Nat.le_succ s.heap.objs.size)
          have ho : (((ys.zip zs).mergeSort (PySem.W.dataLe false fun (p : V × D) => pdG p.2)).map (·.1)).length ≤ sizeLine := by
            rw [List.length_map, List.length_mergeSort, List.length_zip, hlen, Nat.min_self, sizeLine_eq]
            exact k5
          refine ⟨.ref _, upd H (s.heap.objs.size + 1) (.lst _), I.laid (t' := s.toks) (fun _ _ => sortedAll_old) (Nat.le_succ _) ⟨ho, out, ep, hv, he'⟩, rfl, ?_⟩
          exact q _ _ (as ++ [s.heap.objs.size + 1]) (Stp.alloc hfree) (rs.alloc hfree ⟨_, upd_same, hrv.mono (Stp.alloc hfree)⟩) (newAt rs)
      · exact q.elim
  · exact q.elim
end
theorem bt_sorted : bootBuiltins "sorted" = some (.builtin "sorted") := by decide +kernel
end Gv
namespace Gv
open PySem PySem.Spec L2
def relU (Dn : Addr) (n : Nat) (as : List Addr) (_ : Hp) (_ _ : Unit) : Prop := as[n]? = some Dn
theorem wipe_wipe (vs : List Nat) (σ : L2.St) : L2.wipe (L2.wipe σ vs) vs = L2.wipe σ vs := by
  have key : ∀ (ws us : List Nat), (∀ w ∈ ws, w ∈ us) → L2.wipe (L2.wipe σ ws) us = L2.wipe σ us := by
    intro ws
    induction ws with
    | nil => intro us _; rfl
    | cons w ws ih =>
      intro us h
      show L2.wipe ((L2.wipe σ ws).set w none) us = L2.wipe σ us
      rw [show L2.wipe ((L2.wipe σ ws).set w none) us = L2.wipe (L2.wipe σ ws) us from wipe_set _ _ _ _ (h w List.mem_cons_self)]
      exact ih us fun x hx => h x (List.mem_cons_of_mem _ hx)
  exact key vs vs fun _ h => h
theorem comp_in {K : PySem.W.Frag} {T : Nat → Addr} {u : UD} {g : TG} {dc : BD} {de : ED} {σ : L2.St} {en : En} {J : It} {it : ItD} {as1 : List Addr} {H1 : Hp} {s1 : Sto} {vs : List Nat} {n : Nat} {Dn : Addr} {Qd : Hp → Prop} (gk : gOk K vs u g) (re : RE K as1 H1 σ en) (rs1 : RS K as1 H1 s1) (jr : JR K as1 H1 J it) (hn : as1[n]? = some Dn)
    (q : Post K T (relU Dn n) WF σ as1 H1 (compL it u dc de (wipeE en vs) n 0 it.items s1) fun _ H => Qd H) :
    ∃ W : Nat → Nat → Hp → Prop, (∃ m, W 0 m H1) ∧ ∀ i m H, W i m H →
      (J.stop i H ∧ Qd H) ∨ (J.go i H ∧ ∃ Nx : Hp → Prop, (∀ H', Nx H' → ∃ m', m' < m ∧ W (i + 1) m' H') ∧ ∀ x H', J.yld i H x H' → g x (L2.wipe σ vs) H' fun σ2 H2 => L2.wipe σ2 vs = L2.wipe σ vs ∧ tT K T WF dc σ2 H2 fun b H3 =>
        if b = true then tE K T WF de σ2 H3 fun y H4 => ∃ acc, H4 Dn = some (.lst acc) ∧ acc.length < sizeLine ∧ Nx (upd H4 Dn (.lst (acc ++ [y]))) else Nx H3) := by
  have ww : ∀ σ : L2.St, L2.wipe (L2.wipe σ vs) vs = L2.wipe σ vs := by
    intro σ
    have key : ∀ (ws us : List Nat), (∀ w ∈ ws, w ∈ us) → L2.wipe (L2.wipe σ ws) us = L2.wipe σ us := by
      intro ws
      induction ws with
      | nil => intro us _; rfl
      | cons w ws ih =>
        intro us h
        show L2.wipe ((L2.wipe σ ws).set w none) us = L2.wipe σ us
        rw [show L2.wipe ((L2.wipe σ ws).set w none) us = L2.wipe (L2.wipe σ ws) us from wipe_set _ _ _ _ (h w List.mem_cons_self)]
        exact ih us fun x hx => h x (List.mem_cons_of_mem _ hx)
    exact key vs vs fun _ h => h
  refine ⟨fun i m H => ∃ as st, Stp as1 H1 as H ∧ RS K as H st ∧ m = it.items.length - i ∧ i ≤ it.items.length ∧
      Post K T (relU Dn n) WF σ as H (compL it u dc de (wipeE en vs) n i (it.items.drop i) st) fun _ H => Qd H,
    ⟨_, as1, s1, Stp.refl, rs1, rfl, Nat.zero_le _, (by rw [List.drop_zero]; exact q)⟩, ?_⟩
  rintro i m H ⟨as, st, p, rs, rfl, hi, q⟩
  have pd : as[n]? = some Dn := p.get hn
  by_cases hlt : i < it.items.length
  · have hd : it.items[i]? = some it.items[i] := List.getElem?_eq_getElem hlt
    rw [List.drop_eq_getElem_cons hlt] at q
    simp only [compL] at q
    by_cases ok : it.ok i st = true
    · rw [if_pos ok] at q
      obtain ⟨go, yld⟩ := jr.go i as H st (p) rs ok _ hd
      refine .inr ⟨go, fun H' => ∃ as' st', Stp as1 H1 as' H' ∧ RS K as' H' st' ∧ Post K T (relU Dn n) WF σ as' H' (compL it u dc de (wipeE en vs) n (i + 1) (it.items.drop (i + 1)) st') fun _ H => Qd H,
        fun H' ⟨as', st', p', rs', q'⟩ => ⟨it.items.length - (i + 1), by omega, as', st', p', rs', rfl, hlt, q'⟩, fun x H' y => ?_⟩
      obtain ⟨py, rs', rx⟩ := yld x H' y
      cases eu : u it.items[i] (wipeE en vs) with
      | none => rw [eu] at q; exact q.elim
      | some en1 =>
        rw [eu] at q
        dsimp only at q
        refine gk as H' _ _ x _ en1 _ (((re.mono (p)).mono py).wipe vs) rx eu fun σ2 re2 hw => ⟨hw.trans (ww σ), en1, st, as, rs', re2, ?_⟩
        have q0 := Post.shift q py
        have q1 := q0.bind (rel := relB)
        refine Post.imp (Post.wf q1 (σ' := σ2)) fun b H3 ⟨as3, s3, b', p3, rs3, rb, q3⟩ => ?_
        cases rb
        cases b with
        | false =>
          exact ⟨as3, s3, (p.trans py).trans p3, rs3, q3⟩
        | true =>
          rw [if_pos rfl]
          rw [if_pos rfl] at q3
          refine ⟨en1, s3, as3, rs3, re2.mono p3, Post.imp (Post.wf (q3.bind (rel := RV K))) fun y H4 ⟨as4, s4, dy, p4, rs4, ry, q4⟩ => ?_⟩
          have pd4 : as4[n]? = some Dn := ((py.trans p3).trans p4).get pd
          split at q4
          · rename_i acc hacc
            split at q4
            · rename_i hl
              obtain ⟨ys, ey, r⟩ := rs4.at' pd4 hacc
              refine ⟨ys, ey, by rw [r.length, sizeLine_eq]; exact hl, as4, _, ?_, rs4.write (y := .lst (acc ++ [dy])) pd4 hacc trivial trivial ⟨ys ++ [y], upd_same, ?_⟩, Post.shift q4 (Stp.write pd4 ey trivial)⟩
              · exact (((p.trans py).trans p3).trans p4).trans (Stp.write pd4 ey trivial)
              · exact (r.append (.cons ry .nil)).mono (Stp.write pd4 ey trivial)
            · exact q4.elim
          · exact q4.elim
    · rw [if_neg ok] at q
      exact q.elim
  · have e : i = it.items.length := by omega
    subst e
    rw [List.drop_length] at q
    simp only [compL] at q
    by_cases ok : it.ok it.items.length st = true
    · rw [if_pos ok] at q
      exact .inl ⟨jr.stop as H st (p) rs ok, q () H as Stp.refl rs pd⟩
    · rw [if_neg ok] at q
      exact q.elim

/-! ### two clauses -/
def compL2 (it : ItD) (u : UD) (c : BD) (inner : En → Sto → Re Unit) (en : En) : Nat → List D → Sto → Re Unit
  | k, [], st => if it.ok k st = true then .ok () st else .no
  | k, d :: ds, st => if it.ok k st = true then match u d en with
      | some en1 => (c en1 st).bind fun b s2 => if b = true then (inner en1 s2).bind fun _ s3 => compL2 it u c inner en (k + 1) ds s3
          else compL2 it u c inner en (k + 1) ds s2
      | none => .no
    else .no
def innerC (i1 : ID) (u1 : UD) (c1 : BD) (elt : ED) (vs1 : List Nat) (n : Nat) : En → Sto → Re Unit := fun en st => (i1 en st).bind fun it s => compL it u1 c1 elt (wipeE en vs1) n 0 it.items s
def dLC2 (own vs1 : List Nat) (i : ID) (u : UD) (c : BD) (i1 : ID) (u1 : UD) (c1 : BD) (elt : ED) : ED := fun en st => (i en st).bind fun it s1 =>
  (noEr (compL2 it u c (innerC i1 u1 c1 elt vs1 s1.length) (wipeE en own) 0 it.items (s1 ++ [.lst []]))).bind fun _ s2 => .ok (.obj s1.length) s2
section
variable {X : Cx} {T : Nat → Addr} {W : WX} {elt tg iter tg1 iter1 : Expr} {ifs ifs1 : List Expr} {scope : Scope} {own : List (Str × Nat)} {vs1 : List Nat} {pos : Pos} {di di1 : ID} {u u1 : UD} {g g1 : TG} {dc dc1 : BD} {de : ED}
theorem g_lc2 (hc : X.calm = true) (hN : X.N.Nodup) (hi : PI X tg iter (tI X.K T W di)) (ok : BlkOk X.N X.env.scope scope own) (hv : ∀ i ∈ vs1, i ∈ own.map (·.2)) (gk : gOk X.K (own.map (·.2)) u g) (gk1 : gOk X.K vs1 u1 g1)
    (hg : ∀ (s : Shared) (H : Hp) (C : Addr) (cl : List (Str × Addr)) (fp : List Addr), PG (X.blk s H scope (compEnvC scope cl C X.env) fp) tg g)
    (ht : ∀ (s : Shared) (H : Hp) (C : Addr) (cl : List (Str × Addr)) (fp : List Addr), PTs (X.blk s H scope (compEnvC scope cl C X.env) fp) ifs (tT X.K T WF dc))
    (hi1 : ∀ (s : Shared) (H : Hp) (C : Addr) (cl : List (Str × Addr)) (fp : List Addr), PI (X.blk s H scope (compEnvC scope cl C X.env) fp) tg1 iter1 (tI X.K T WF di1))
    (hg1 : ∀ (s : Shared) (H : Hp) (C : Addr) (cl : List (Str × Addr)) (fp : List Addr), PG (X.blk s H scope (compEnvC scope cl C X.env) fp) tg1 g1)
    (ht1 : ∀ (s : Shared) (H : Hp) (C : Addr) (cl : List (Str × Addr)) (fp : List Addr), PTs (X.blk s H scope (compEnvC scope cl C X.env) fp) ifs1 (tT X.K T WF dc1))
    (he : ∀ (s : Shared) (H : Hp) (C : Addr) (cl : List (Str × Addr)) (fp : List Addr), PE (X.blk s H scope (compEnvC scope cl C X.env) fp) elt (tE X.K T WF de)) (hs : ∀ x, foldedSetIterable iter X.env x = pure x := by intro _; rfl) (hs1 : ∀ env x, foldedSetIterable iter1 env x = pure x := by intro _ _; rfl) :
    PE X (.ListComp elt [⟨tg, iter, ifs, 0⟩, ⟨tg1, iter1, ifs1, 0⟩] scope pos) (tE X.K T W (dLC2 (own.map (·.2)) vs1 di u dc di1 u1 dc1 de)) := by
  refine pe_mono (pe_lc2 hc hN hi ok hv hg ht hi1 hg1 ht1 he hs hs1) fun σ H Q ⟨en, st, as, rs, re, q⟩ => ?_
  refine ⟨en, st, as, rs, re, q.bind.imp fun J H1 ⟨as1, s1, it, p1, rs1, jr, q1⟩ Dn hD => ?_⟩
  have q2 := Post.shift q1 (Stp.alloc (o := .lst []) hD)
  have q3 := q2.bind (rel := relU Dn s1.length)
  have q4 : Post X.K T (relU Dn s1.length) WF σ (as1 ++ [Dn]) (upd H1 Dn (.lst [])) (compL2 it u dc (innerC di1 u1 dc1 de vs1 s1.length) (wipeE en (own.map (·.2))) 0 it.items (s1 ++ [.lst []])) fun _ H => Q (.ref Dn) H :=
    Post.imp (Post.noEr q3) fun v H2 ⟨as2, s2, x, p2, rs2, r2, q4⟩ => q4 _ H2 as2 Stp.refl rs2 (.obj r2)
  have re1 := re.mono p1
  have p0 : Stp as1 H1 (as1 ++ [Dn]) (upd H1 Dn (.lst [])) := Stp.alloc hD
  refine ⟨fun i m H => ∃ as st, Stp (as1 ++ [Dn]) (upd H1 Dn (.lst [])) as H ∧ RS X.K as H st ∧ m = it.items.length - i ∧ i ≤ it.items.length ∧
      Post X.K T (relU Dn s1.length) WF σ as H (compL2 it u dc (innerC di1 u1 dc1 de vs1 s1.length) (wipeE en (own.map (·.2))) i (it.items.drop i) st) fun _ H => Q (.ref Dn) H,
    ⟨_, as1 ++ [Dn], s1 ++ [.lst []], Stp.refl, (show RS X.K (as1 ++ [Dn]) (upd H1 Dn (.lst [])) (s1 ++ [Ob.lst []]) from rs1.alloc (x := Ob.lst []) hD ⟨[], upd_same, .nil⟩), rfl, Nat.zero_le _, (by rw [List.drop_zero]; exact q4)⟩, ?_⟩
  rintro i m H ⟨as, st, p, rs, rfl, hi', q⟩
  have pd : as[s1.length]? = some Dn := p.get (by rw [← rs1.len, List.getElem?_append_right (Nat.le_refl _), Nat.sub_self]; rfl)
  by_cases hlt : i < it.items.length
  · have hd : it.items[i]? = some it.items[i] := List.getElem?_eq_getElem hlt
    rw [List.drop_eq_getElem_cons hlt] at q
    simp only [compL2] at q
    by_cases ok' : it.ok i st = true
    · rw [if_pos ok'] at q
      obtain ⟨go, yld⟩ := jr.go i as H st (p0.trans p) rs ok' _ hd
      refine .inr ⟨go, fun H' => ∃ as' st', Stp (as1 ++ [Dn]) (upd H1 Dn (.lst [])) as' H' ∧ RS X.K as' H' st' ∧ Post X.K T (relU Dn s1.length) WF σ as' H' (compL2 it u dc (innerC di1 u1 dc1 de vs1 s1.length) (wipeE en (own.map (·.2))) (i + 1) (it.items.drop (i + 1)) st') fun _ H => Q (.ref Dn) H,
        fun H' ⟨as', st', p', rs', q'⟩ => ⟨it.items.length - (i + 1), by omega, as', st', p', rs', rfl, hlt, q'⟩, fun x H' y => ?_⟩
      obtain ⟨py, rs', rx⟩ := yld x H' y
      cases eu : u it.items[i] (wipeE en (own.map (·.2))) with
      | none => rw [eu] at q; exact q.elim
      | some en1 =>
        rw [eu] at q
        dsimp only at q
        refine gk as H' _ _ x _ en1 _ (((re1.mono (p0.trans p)).mono py).wipe (own.map (·.2))) rx eu fun σ2 re2 hw => ⟨hw.trans (wipe_wipe _ σ), en1, st, as, rs', re2, ?_⟩
        have q0 := Post.shift q py
        have q1 := q0.bind (rel := relB)
        refine Post.imp (Post.wf q1 (σ' := σ2)) fun b H3 ⟨as3, s3, b', p3, rs3, rb, q3⟩ => ?_
        cases rb
        cases b with
        | false =>
          rw [if_neg Bool.false_ne_true]
          rw [if_neg Bool.false_ne_true] at q3
          exact ⟨as3, s3, (p.trans py).trans p3, rs3, q3⟩
        | true =>
          rw [if_pos rfl]
          rw [if_pos rfl] at q3
          have q5 := q3.bind (rel := relU Dn s1.length)
          unfold innerC at q5
          have q6 := Post.bind (rel := JR X.K) q5
          refine ⟨en1, s3, as3, rs3, re2.mono p3, Post.imp (Post.wf q6) fun J1 H4 ⟨as4, s4, it1, p4, rs4, jr1, q7⟩ => ?_⟩
          have pd4 : as4[s1.length]? = some Dn := ((py.trans p3).trans p4).get pd
          refine comp_in gk1 (re2.mono (p3.trans p4)) rs4 jr1 pd4 (Post.imp (Post.wf q7) fun _ H5 ⟨as5, s5, _, p5, rs5, _, q8⟩ => ?_)
          exact ⟨as5, s5, ((p.trans py).trans p3).trans p5, rs5, q8⟩
    · rw [if_neg ok'] at q
      exact q.elim
  · have e : i = it.items.length := by omega
    subst e
    rw [List.drop_length] at q
    simp only [compL2] at q
    by_cases ok' : it.ok it.items.length st = true
    · rw [if_pos ok'] at q
      exact .inl ⟨jr.stop as H st (p0.trans p) rs ok', q () H as Stp.refl rs pd⟩
    · rw [if_neg ok'] at q
      exact q.elim
end
theorem wipe_more : ∀ (ws us : List Nat) (σ : L2.St), (∀ w ∈ ws, w ∈ us) → L2.wipe (L2.wipe σ ws) us = L2.wipe σ us
  | [], _, _, _ => rfl
  | w :: ws, us, σ, h => by
    show L2.wipe ((L2.wipe σ ws).set w none) us = L2.wipe σ us
    rw [show L2.wipe ((L2.wipe σ ws).set w none) us = L2.wipe (L2.wipe σ ws) us from wipe_set _ _ _ _ (h w List.mem_cons_self)]
    exact wipe_more ws us σ fun x hx => h x (List.mem_cons_of_mem _ hx)
theorem gok_sub {K : PySem.W.Frag} {vs us : List Nat} {u : UD} {g : TG} (h : gOk K vs u g) (hs : ∀ v ∈ vs, v ∈ us) : gOk K us u g := fun as H σ en v d en' Q re rv e q =>
  h as H σ en v d en' Q re rv e fun σ' re' hw => q σ' re' (by rw [← wipe_more vs us σ' hs, hw, wipe_more vs us σ hs])
end Gv
namespace Gv
open PySem PySem.Spec L2

/-! ### zip of two tuples -/
def zipD (xs ys : List D) : List D := List.zipWith (fun x y => .tup [x, y]) xs ys
def iZp (a : AD) : ID := fun en st => (a en st).bind fun xs s1 => match xs with
  | [.tup xs, .tup ys] => .ok ⟨zipD xs ys, none⟩ s1
  | _ => .no
theorem zipD_at {xs ys : List D} {i : Nat} {d : D} (h : (zipD xs ys)[i]? = some d) : ∃ x y, xs[i]? = some x ∧ ys[i]? = some y ∧ d = .tup [x, y] := by
  unfold zipD at h
  rw [List.getElem?_zipWith] at h
  cases e1 : xs[i]? with
  | none => rw [e1] at h; cases h
  | some x =>
    cases e2 : ys[i]? with
    | none => rw [e1, e2] at h; cases h
    | some y => rw [e1, e2] at h; cases h; exact ⟨x, y, rfl, rfl, rfl⟩
theorem jr_zipT {K : PySem.W.Frag} {as0 : List Addr} {H0 : Hp} {a b : Addr} {vs ws : List V} {xs ys : List D} (h : H0 a = some (.tup vs)) (h' : H0 b = some (.tup ws)) (r : RVs K as0 H0 vs xs) (r' : RVs K as0 H0 ws ys) : JR K as0 H0 (RZ.ItzT K a b) ⟨zipD xs ys, none⟩ where
  go := fun i as H st p rs _ d hd => by
    obtain ⟨x, y, e1, e2, rfl⟩ := zipD_at hd
    obtain ⟨v, hv, rv⟩ := (r.mono p).get e1
    obtain ⟨w, hw, rw'⟩ := (r'.mono p).get e2
    refine ⟨⟨vs, ws, v, w, SqT.of (p.tup _ _ h), SqT.of (p.tup _ _ h'), hv, hw⟩, fun z H' q => ?_⟩
    obtain ⟨Tp, v', w', rfl, hT, rfl, q1, q2⟩ := q
    have := q1 vs (SqT.of (p.tup _ _ h))
    rw [hv] at this
    cases this
    have := q2 ws (SqT.of (p.tup _ _ h'))
    rw [hw] at this
    cases this
    exact ⟨Stp.new hT, rs.new hT, .tup upd_same (.cons (rv.mono (Stp.new hT)) (.cons (rw'.mono (Stp.new hT)) .nil))⟩
  stop := fun as H st p rs _ => by
    refine ⟨vs, ws, SqT.of (p.tup _ _ h), SqT.of (p.tup _ _ h'), ?_⟩
    show vs.length ≤ (zipD xs ys).length ∨ ws.length ≤ (zipD xs ys).length
    unfold zipD
    rw [List.length_zipWith, r.length, r'.length]
    have := Nat.le_total xs.length ys.length
    omega
/-! ### range(a, b, c) -/
def rng3 (lo c : Int) (n : Nat) : List D := (List.range n).map fun (i : Nat) => D.int (lo + (i : Int) * c)
def rg3B (i j c : Int) : Bool := decide (c ≠ 0) && decide (c.natAbs < 1073741824) && Builtin.Range.small i j c && decide (0 ≤ Builtin.Range.rangeSize i j c)
def iRg3 (a : AD) : ID := fun en st => (a en st).bind fun xs s1 => match xs with
  | [.int i, .int j, .int c] => if rg3B i j c = true then .ok ⟨rng3 i c (Builtin.Range.rangeSize i j c).toNat, none⟩ s1 else .no
  | _ => .no
/-! ### targets within targets -/
def uT12 (i j k : Nat) : UD := fun d en => match d with
  | .tup [a, .tup [b, c]] => some (((en.set i (some a)).set j (some b)).set k (some c))
  | _ => none
def uT13 (i j k l : Nat) : UD := fun d en => match d with
  | .tup [a, .tup [b, c, e]] => some ((((en.set i (some a)).set j (some b)).set k (some c)).set l (some e))
  | _ => none
theorem gok_t12 {K : PySem.W.Frag} {i j k : Nat} : gOk K [i, j, k] (uT12 i j k) (gTup K 2 (gCons (gName i) (gCons (gTup K 2 (gCons (gName j) (gCons (gName k) gNil))) gNil))) := by
  intro as H σ en v d en' Q re rv e q
  unfold uT12 at e
  split at e
  · cases e
    cases rv with
    | @tup a xs _ h r =>
    cases r with
    | @cons x1 _ _ _ r1 r =>
    cases r with
    | @cons x2 _ _ _ r2 r =>
    cases r
    cases r2 with
    | @tup b ys _ h2 s =>
    cases s with
    | @cons y1 _ _ _ s1 s =>
    cases s with
    | @cons y2 _ _ _ s2 s =>
    cases s
    refine ⟨a, [x1, .ref b], rfl, SqT.of h, rfl, x1, [.ref b], rfl, .ref b, [], rfl, b, [y1, y2], rfl, SqT.of h2, rfl, y1, [y2], rfl, y2, [], rfl, rfl, rfl, ?_⟩
    exact q _ (((re.set r1).set s1).set s2) (by rw [wipe_set _ _ _ _ (by simp), wipe_set _ _ _ _ (by simp), wipe_set _ _ _ _ (by simp)])
  · cases e
theorem gok_t13 {K : PySem.W.Frag} {i j k l : Nat} : gOk K [i, j, k, l] (uT13 i j k l) (gTup K 2 (gCons (gName i) (gCons (gTup K 3 (gCons (gName j) (gCons (gName k) (gCons (gName l) gNil)))) gNil))) := by
  intro as H σ en v d en' Q re rv e q
  unfold uT13 at e
  split at e
  · cases e
    cases rv with
    | @tup a xs _ h r =>
    cases r with
    | @cons x1 _ _ _ r1 r =>
    cases r with
    | @cons x2 _ _ _ r2 r =>
    cases r
    cases r2 with
    | @tup b ys _ h2 s =>
    cases s with
    | @cons y1 _ _ _ s1 s =>
    cases s with
    | @cons y2 _ _ _ s2 s =>
    cases s with
    | @cons y3 _ _ _ s3 s =>
    cases s
    refine ⟨a, [x1, .ref b], rfl, SqT.of h, rfl, x1, [.ref b], rfl, .ref b, [], rfl, b, [y1, y2, y3], rfl, SqT.of h2, rfl, y1, [y2, y3], rfl, y2, [y3], rfl, y3, [], rfl, rfl, rfl, ?_⟩
    exact q _ ((((re.set r1).set s1).set s2).set s3) (by rw [wipe_set _ _ _ _ (by simp), wipe_set _ _ _ _ (by simp), wipe_set _ _ _ _ (by simp), wipe_set _ _ _ _ (by simp)])
  · cases e
section
variable {X : Cx} {T : Nat → Addr} {W : WX} {a b c tg : Expr} {ds : AD} {pos p tpos : Pos} {elts : List Expr} {kk : Nat}
theorem gi_zip (ha : PA X [a, b] (tA X.K T W ds)) (hm : X.mg "zip" = none) (hg : Gl X "zip" := by rfl) (hs : starEach [a, b] X.env = (false, eval a X.env) :: starEach [b] X.env := by rfl) (hpl : (backTo pos (starEach [b] X.env)).any (·.1) = false := by rfl) :
    PI X (.Tuple elts kk tpos) (.Call (.Name "zip" p) [a, b] [] pos) (tI X.K T W (iZp ds)) := by
  refine pi_mono (RZ.pi_zipA hg hm ha hs hpl) fun σ H R ⟨en, st, as, rs, re, q⟩ => ?_
  refine ⟨en, st, as, rs, re, q.bind.imp fun vs H1 ⟨as1, s1, xs, p1, rs1, rx, q1⟩ => ?_⟩
  split at q1
  · obtain ⟨v, w, rfl, rv, rw'⟩ := rx.two
    cases rv with
    | @tup a1 ys _ h r =>
    cases rw' with
    | @tup a2 zs _ h2 r2 =>
    exact ⟨a1, a2, ys, zs, rfl, .inr ⟨SqT.of h, SqT.of h2, q1 _ H1 as1 Stp.refl rs1 (jr_zipT h h2 r r2)⟩⟩
  · exact q1.elim
theorem gi_rg3 (ha : PA X [a, b, c] (tA X.K T W ds)) (hm : X.mg "range" = none) (hg : Gl X "range" := by rfl) (hs : starEach [a, b, c] X.env = (false, eval a X.env) :: starEach [b, c] X.env := by rfl) (hpl : (backTo pos (starEach [b, c] X.env)).any (·.1) = false := by rfl) :
    PI X tg (.Call (.Name "range" p) [a, b, c] [] pos) (tI X.K T W (iRg3 ds)) := by
  refine pi_mono (pi_range3 hg hm ha hs hpl) fun σ H R ⟨en, st, as, rs, re, q⟩ => ?_
  refine ⟨en, st, as, rs, re, q.bind.imp fun vs H1 ⟨as1, s1, xs, p1, rs1, rx, q1⟩ => ?_⟩
  split at q1
  · rename_i i j k
    split at q1
    · rename_i hk
      simp only [rg3B, Bool.and_eq_true, decide_eq_true_eq] at hk
      cases rx with
      | cons r1 rr =>
      cases rr with
      | cons r2 rr =>
      cases rr with
      | cons r3 rr =>
      cases rr
      cases r1
      cases r2
      cases r3
      refine ⟨i, j, k, (Builtin.Range.rangeSize i j k).toNat, rfl, ⟨hk.1.1.1, hk.1.1.2, hk.1.2, (Int.toNat_of_nonneg hk.2).symm⟩, q1 _ H1 as1 Stp.refl rs1 ⟨fun n as H st p rs _ d hd => ?_, fun as H st p rs _ => ?_⟩⟩
      · have hn : n < (Builtin.Range.rangeSize i j k).toNat := by
          have := (List.getElem?_eq_some_iff.mp hd).1
          simpa [rng3] using this
        simp only [rng3, List.getElem?_map, List.getElem?_range hn, Option.map_some, Option.some.injEq] at hd
        subst hd
        refine ⟨hn, fun x H' y => ?_⟩
        obtain ⟨rfl, rfl⟩ := y
        exact ⟨Stp.refl, rs, .int _⟩
      · show (Builtin.Range.rangeSize i j k).toNat ≤ (rng3 i k (Builtin.Range.rangeSize i j k).toNat).length
        simp [rng3]
    · exact q1.elim
  · exact q1.elim
end
end Gv
namespace Gv
open PySem PySem.Spec L2

/-! ### list(range(..)), tuple(range(..)) -/
def rgD (a b : Int) : List D := (List.range (b - a).toNat).map fun (i : Nat) => D.int (a + (i : Int))
def rgB (a b : Int) : Bool := decide (-1000000000 ≤ a) && decide (a ≤ 1000000000) && decide (-1000000000 ≤ b) && decide (b ≤ 1000000000) && decide ((b - a).toNat ≤ 16777216)
theorem rgB_ok {a b : Int} (h : rgB a b = true) : RgOk a b := by
  simp only [rgB, Bool.and_eq_true, decide_eq_true_eq] at h
  obtain ⟨⟨⟨⟨h1, h2⟩, h3⟩, h4⟩, h5⟩ := h
  exact ⟨by omega, by omega, by omega, by omega, by omega⟩
theorem rg_rvs {K : PySem.W.Frag} {as : List Addr} {H : Hp} (a b : Int) : RVs K as H (rgV a b) (rgD a b) := by
  unfold rgV rgD
  generalize List.range (b - a).toNat = l
  induction l with
  | nil => exact .nil
  | cons i l ih => exact .cons (.int _) ih
def dLR1 (a : ED) : ED := fun en st => (a en st).bind fun x s1 => match x with
  | .int n => if rgB 0 n = true then .ok (.obj s1.length) (s1 ++ [.lst (rgD 0 n)]) else .no
  | _ => .no
def dTR1 (a : ED) : ED := fun en st => (a en st).bind fun x s1 => match x with
  | .int n => if rgB 0 n = true then .ok (.tup (rgD 0 n)) s1 else .no
  | _ => .no
def dLR2 (a b : ED) : ED := fun en st => (a en st).bind fun x s1 => (b en s1).bind fun y s2 => match x, y with
  | .int m, .int n => if rgB m n = true then .ok (.obj s2.length) (s2 ++ [.lst (rgD m n)]) else .no
  | _, _ => .no
def dTR2 (a b : ED) : ED := fun en st => (a en st).bind fun x s1 => (b en s1).bind fun y s2 => match x, y with
  | .int m, .int n => if rgB m n = true then .ok (.tup (rgD m n)) s2 else .no
  | _, _ => .no
section
variable {X : Cx} {T : Nat → Addr} {W : WX} {a b : Expr} {da db : ED} {p p2 pos pos2 : Pos}
theorem fin_lr {σ : St} {as : List Addr} {H : Hp} {st : Sto} {m n : Int} {Q : VK} (rs : RS X.K as H st) (hb : rgB m n = true) (q : Post X.K T (RV X.K) W σ as H (.ok (.obj st.length) (st ++ [.lst (rgD m n)])) Q) : RgOk m n ∧ ∀ p, H p = none → Q (.ref p) (upd H p (.lst (rgV m n))) :=
  ⟨rgB_ok hb, fun p hp => q _ _ (as ++ [p]) (Stp.alloc hp) (rs.alloc hp ⟨_, upd_same, rg_rvs m n⟩) (.obj (by rw [← rs.len, List.getElem?_append_right (Nat.le_refl _), Nat.sub_self]; rfl))⟩
theorem fin_tr {σ : St} {as : List Addr} {H : Hp} {st : Sto} {m n : Int} {Q : VK} (rs : RS X.K as H st) (hb : rgB m n = true) (q : Post X.K T (RV X.K) W σ as H (.ok (.tup (rgD m n)) st) Q) : RgOk m n ∧ ∀ p, H p = none → Q (.ref p) (upd H p (.tup (rgV m n))) :=
  ⟨rgB_ok hb, fun p hp => q _ _ as (Stp.new hp) (rs.new hp) (.tup upd_same (rg_rvs m n))⟩
theorem g_lr1 (ha : PE X a (tE X.K T W da)) (hm : X.mg "list" = none) (hm2 : X.mg "range" = none) (hc : X.calm = true := by rfl) (hg : Gl X "list" := by rfl) (hg2 : Gl X "range" := by rfl) (na : starEach [a] X.env = (false, eval a X.env) :: starEach [] X.env := by rfl)
    (ne : starEach [.Call (.Name "range" p2) [a] [] pos2] X.env = (false, eval (.Call (.Name "range" p2) [a] [] pos2) X.env) :: starEach [] X.env := by rfl) : PE X (.Call (.Name "list" p) [.Call (.Name "range" p2) [a] [] pos2] [] pos) (tE X.K T W (dLR1 da)) := by
  refine pe_mono (pe_listRg hc hg hm (prg_1 hg2 hm2 ha na) ne) fun σ H Q ⟨en, st, as, rs, re, q⟩ => ?_
  refine ⟨en, st, as, rs, re, q.bind.imp fun x H1 ⟨as1, s1, dx, p1, rs1, rx, q1⟩ => ?_⟩
  cases rx with
  | int n =>
    by_cases hb : rgB 0 n = true
    · simp only [if_pos hb] at q1
      exact ⟨n, rfl, fin_lr rs1 hb q1⟩
    · simp only [if_neg hb] at q1; exact q1.elim
  | _ => exact q1.elim
theorem g_tr1 (ha : PE X a (tE X.K T W da)) (hm : X.mg "tuple" = none) (hm2 : X.mg "range" = none) (hc : X.calm = true := by rfl) (hg : Gl X "tuple" := by rfl) (hg2 : Gl X "range" := by rfl) (na : starEach [a] X.env = (false, eval a X.env) :: starEach [] X.env := by rfl)
    (ne : starEach [.Call (.Name "range" p2) [a] [] pos2] X.env = (false, eval (.Call (.Name "range" p2) [a] [] pos2) X.env) :: starEach [] X.env := by rfl) : PE X (.Call (.Name "tuple" p) [.Call (.Name "range" p2) [a] [] pos2] [] pos) (tE X.K T W (dTR1 da)) := by
  refine pe_mono (pe_tupRg hc hg hm (prg_1 hg2 hm2 ha na) ne) fun σ H Q ⟨en, st, as, rs, re, q⟩ => ?_
  refine ⟨en, st, as, rs, re, q.bind.imp fun x H1 ⟨as1, s1, dx, p1, rs1, rx, q1⟩ => ?_⟩
  cases rx with
  | int n =>
    by_cases hb : rgB 0 n = true
    · simp only [if_pos hb] at q1
      exact ⟨n, rfl, fin_tr rs1 hb q1⟩
    · simp only [if_neg hb] at q1; exact q1.elim
  | _ => exact q1.elim
theorem g_lr2 (ha : PE X a (tE X.K T W da)) (hb : PE X b (tE X.K T W db)) (hm : X.mg "list" = none) (hm2 : X.mg "range" = none) (hc : X.calm = true := by rfl) (hg : Gl X "list" := by rfl) (hg2 : Gl X "range" := by rfl) (na : starEach [a, b] X.env = (false, eval a X.env) :: starEach [b] X.env := by rfl)
    (nb : starEach [b] X.env = (false, eval b X.env) :: starEach [] X.env := by rfl) (hp : (backTo pos2 (starEach [b] X.env)).any (·.1) = false := by rfl)
    (ne : starEach [.Call (.Name "range" p2) [a, b] [] pos2] X.env = (false, eval (.Call (.Name "range" p2) [a, b] [] pos2) X.env) :: starEach [] X.env := by rfl) : PE X (.Call (.Name "list" p) [.Call (.Name "range" p2) [a, b] [] pos2] [] pos) (tE X.K T W (dLR2 da db)) := by
  refine pe_mono (pe_listRg hc hg hm (prg_2 hg2 hm2 ha hb na nb hp) ne) fun σ H Q ⟨en, st, as, rs, re, q⟩ => ?_
  refine ⟨en, st, as, rs, re, q.bind.imp fun x H1 ⟨as1, s1, dx, p1, rs1, rx, q1⟩ => ?_⟩
  refine ⟨en, s1, as1, rs1, re.mono p1, q1.bind.imp fun y H2 ⟨as2, s2, dy, p2, rs2, ry, q2⟩ => ?_⟩
  cases rx with
  | int m =>
    cases ry with
    | int n =>
      by_cases hb : rgB m n = true
      · simp only [if_pos hb] at q2
        exact ⟨m, n, rfl, rfl, fin_lr rs2 hb q2⟩
      · simp only [if_neg hb] at q2; exact q2.elim
    | _ => exact q2.elim
  | _ => exact q2.elim
theorem g_tr2 (ha : PE X a (tE X.K T W da)) (hb : PE X b (tE X.K T W db)) (hm : X.mg "tuple" = none) (hm2 : X.mg "range" = none) (hc : X.calm = true := by rfl) (hg : Gl X "tuple" := by rfl) (hg2 : Gl X "range" := by rfl) (na : starEach [a, b] X.env = (false, eval a X.env) :: starEach [b] X.env := by rfl)
    (nb : starEach [b] X.env = (false, eval b X.env) :: starEach [] X.env := by rfl) (hp : (backTo pos2 (starEach [b] X.env)).any (·.1) = false := by rfl)
    (ne : starEach [.Call (.Name "range" p2) [a, b] [] pos2] X.env = (false, eval (.Call (.Name "range" p2) [a, b] [] pos2) X.env) :: starEach [] X.env := by rfl) : PE X (.Call (.Name "tuple" p) [.Call (.Name "range" p2) [a, b] [] pos2] [] pos) (tE X.K T W (dTR2 da db)) := by
  refine pe_mono (pe_tupRg hc hg hm (prg_2 hg2 hm2 ha hb na nb hp) ne) fun σ H Q ⟨en, st, as, rs, re, q⟩ => ?_
  refine ⟨en, st, as, rs, re, q.bind.imp fun x H1 ⟨as1, s1, dx, p1, rs1, rx, q1⟩ => ?_⟩
  refine ⟨en, s1, as1, rs1, re.mono p1, q1.bind.imp fun y H2 ⟨as2, s2, dy, p2, rs2, ry, q2⟩ => ?_⟩
  cases rx with
  | int m =>
    cases ry with
    | int n =>
      by_cases hb : rgB m n = true
      · simp only [if_pos hb] at q2
        exact ⟨m, n, rfl, rfl, fin_tr rs2 hb q2⟩
      · simp only [if_neg hb] at q2; exact q2.elim
    | _ => exact q2.elim
  | _ => exact q2.elim
end
end Gv
namespace Gv
open PySem PySem.Spec L2

/-! ### {k: v} -/
section
variable {X : Cx} {pins : List (Addr × Obj)} {σ : St} {H : Hp} {s : Shared} {a : Addr} {A : Around} {E : Value → Shared → Prop} {y v : V} {u r : Value}
theorem d_dictSet {H' : Hp} {Q : Unit → Shared → Prop} (hu : A.units + 1 < cLine) (I : Inv X pins σ H s) (g : DPut H a y v H') (ry : RelV y u) (rv : RelV v r) (h : ∀ s', Inv X pins σ H' s' → Q () s') :
    wpAny (model X.prog X.w) A (dictSet a u r) Q E s := by
  rcases g with ⟨kvs, k, e, ey, l, eH⟩ | ⟨kvs, k, b, e, ey, eb, l, eH⟩
  · subst ey eH
    obtain ⟨z, hd, vs, rel, dd⟩ := dk_of I.hok e
    have hz : vs.length ≤ sizeLine := by rw [← rel.length]; exact z
    have hl : (putK kvs k v).length ≤ sizeLine := by have := length_putK kvs k v; omega
    refine wpAny_dictSet_pairs (hsz := hz) (kV_is ry) dd fun h' dd' hs => h _ ?_
    have he : ∃ q, h'.get? a = some q := let ⟨q, _, _, hq, _⟩ := dd'; ⟨q, hq⟩
    exact d_write I (by rw [e]; exact True.intro) hs he (dk_new hl hd (rel.put k rv) dd')
  · subst ey eH
    cases (show u = Value.ref b from ry)
    obtain ⟨z, hd, xs, rel, dd⟩ := dt_of I.hok e
    have hz : xs.length ≤ sizeLine := by rw [← Paired.length rel]; exact z
    have hl : (putK kvs k v).length ≤ sizeLine := by have := length_putK kvs k v; omega
    refine wpAny_dictSet_heap (hsz := hz) (show A.units < cLine from Nat.lt_of_succ_lt hu) (key_of I.hok eb) dd fun h' dd' hs => h _ ?_
    obtain ⟨q, es, ep, hq, h2, h3, h4, _, h5⟩ := dd'
    refine d_write I (by rw [e]; exact True.intro) hs ⟨q, hq⟩ ⟨hl, hd, _, (rel.put k eb rv).keeps fun c ys ec => ?_, q, es, ep, hq, h2, h3, h4, h5⟩
    rw [upd_ne (ne_of ec e (fun z => nomatch z))]
    exact ec
end
def tD1T (ta tb : TE) : TE := fun σ H Q => ∀ p, H p = none → ta σ (upd H p (.dT [])) fun x H1 => tb σ H1 fun y H2 => ∃ H3, DPut H2 p x y H3 ∧ Q (.ref p) H3
def tD1K (ta tb : TE) : TE := fun σ H Q => ∀ p, H p = none → ta σ (upd H p (.dK [])) fun x H1 => tb σ H1 fun y H2 => ∃ H3, DPut H2 p x y H3 ∧ Q (.ref p) H3
section
variable {X : Cx} {T : Nat → Addr} {W : WX} {a b : Expr} {ta tb : TE} {da db : ED} {pos : Pos}
theorem wp_disp1 {A : Around} {E : Value → Shared → Prop} {s : Shared} {Q : Value → Shared → Prop} {env : Env} {P : Program} {w : World}
    (h : wpAny (model P w) A (eval a env) (fun kv s₁ => wpAny (model P w) A (eval b env) (fun vv s₂ => wpAny (model P w) A (dictSet s.heap.objs.size kv vv) (fun _ s₃ => Q (.ref s.heap.objs.size) s₃) E s₂) E s₁) E { s with heap := s.heap.push { cls := .type "dict", data := .dict #[] } }) :
    wpAny (model P w) A (eval (.Dict [some a] [b] pos) env) Q E s := by
  rw [arm_eval_Dict, zip_pairTrees [some a] [b] env pos rfl rfl, dictDisplay_pairs _ (by simp [pairTrees]) (by simp [pairTrees])]
  refine wpAny_bind (wpAny_standAt (wpAny_bind ?_))
  unfold subDict
  refine wpAny_bind (wpAny_alloc ?_)
  refine wpAny_bind (wpAny_holding ?_)
  rw [if_pos (show (pairTrees [some a] [b] env pos).length ≤ 15 by simp [pairTrees])]
  refine wpAny_bind (pairTrees_cons_walk (wpAny_mono h (fun kv s1 h1 => wpAny_mono h1 (fun vv s2 h2 => pairTrees_nil_walk ?_) fun _ _ e => e) fun _ _ e => e))
  refine wpAny_holding ?_
  refine wpAny_bind ?_
  rw [List.forIn_cons]
  refine wpAny_bind (wpAny_bind (wpAny_mono h2 (fun _ s3 h3 => wpAny_pure ?_) fun _ _ e => e))
  dsimp only
  rw [List.forIn_nil]
  exact wpAny_pure (wpAny_pure (wpAny_pure (wpAny_pure h3)))
theorem pe_d1T (hu : X.A.units + 1 < cLine) (ha : PE X a ta) (hb : PE X b tb) : PE X (.Dict [some a] [b] pos) (tD1T ta tb) := ⟨fun pins s σ H Q I q => by
  have hn := I.hok.fresh (Nat.le_refl s.heap.objs.size)
  have I1 := I.laid (a := s.heap.objs.size) (o := .dT []) (h' := s.heap.push { cls := .type "dict", data := .dict #[] }) (t' := s.toks) (fun _ _ q => Heap.get?_push_of_some _ q) (Nat.le_refl _) (dt_empty s.heap I.big)
  refine wp_disp1 (thn (ha.run pins _ σ _ _ I1 (q _ hn)) fun u s1 ⟨x, H1, J1, rx, q1⟩ => thn (hb.run pins s1 σ H1 _ J1 q1) fun u2 s2 ⟨y, H2, J2, ry, H3, g, q2⟩ => ?_)
  exact d_dictSet hu J2 g rx ry fun s' J3 => ⟨.ref s.heap.objs.size, H3, J3, rfl, q2⟩⟩
theorem pe_d1K (hu : X.A.units + 1 < cLine) (ha : PE X a ta) (hb : PE X b tb) : PE X (.Dict [some a] [b] pos) (tD1K ta tb) := ⟨fun pins s σ H Q I q => by
  have hn := I.hok.fresh (Nat.le_refl s.heap.objs.size)
  have I1 := I.laid (a := s.heap.objs.size) (o := .dK []) (h' := s.heap.push { cls := .type "dict", data := .dict #[] }) (t' := s.toks) (fun _ _ q => Heap.get?_push_of_some _ q) (Nat.le_refl _) (dk_empty s.heap I.big)
  refine wp_disp1 (thn (ha.run pins _ σ _ _ I1 (q _ hn)) fun u s1 ⟨x, H1, J1, rx, q1⟩ => thn (hb.run pins s1 σ H1 _ J1 q1) fun u2 s2 ⟨y, H2, J2, ry, H3, g, q2⟩ => ?_)
  exact d_dictSet hu J2 g rx ry fun s' J3 => ⟨.ref s.heap.objs.size, H3, J3, rfl, q2⟩⟩
/-- the key and the value are made while the new dict stands empty -/
def putD1 (n : Nat) (x y : D) (s : Sto) : Re D := match s[n]? with
  | some o => match putO o x y with
    | some o' => .ok (.obj n) (s.set n o')
    | none => .no
  | none => .no
def dD1T (a b : ED) : ED := fun en st => (a en (st ++ [.dT []])).bind fun x s1 => (b en s1).bind fun y s2 => putD1 st.length x y s2
def dD1K (a b : ED) : ED := fun en st => (a en (st ++ [.dK []])).bind fun x s1 => (b en s1).bind fun y s2 => putD1 st.length x y s2
theorem fin_d1 {σ : St} {as2 : List Addr} {H2 : Hp} {s2 : Sto} {n : Nat} {p : Addr} {dx dy : D} {x y : V} {Q : VK} (rs : RS X.K as2 H2 s2) (hp : as2[n]? = some p) (rx : RV X.K as2 H2 x dx) (ry : RV X.K as2 H2 y dy) (q : Post X.K T (RV X.K) W σ as2 H2 (putD1 n dx dy s2) Q) :
    ∃ H3, DPut H2 p x y H3 ∧ Q (.ref p) H3 := by
  unfold putD1 at q
  cases e : s2[n]? with
  | none => rw [e] at q; exact q.elim
  | some ob =>
    rw [e] at q
    dsimp only at q
    cases ep : putO ob dx dy with
    | none => rw [ep] at q; exact q.elim
    | some o' =>
      rw [ep] at q
      have roo := rs.at' hp e
      obtain ⟨m1, m2, ho, ⟨w0, hw, ww⟩, dp, hro⟩ := putO_dput roo rx ry ep
      exact ⟨_, dp, q _ _ as2 (Stp.write hp hw ww) (rs.write hp e m1 m2 (hro as2 (Stp.write hp hw ww))) (.obj hp)⟩
theorem g_d1T (hu : X.A.units + 1 < cLine) (ha : PE X a (tE X.K T W da)) (hb : PE X b (tE X.K T W db)) : PE X (.Dict [some a] [b] pos) (tE X.K T W (dD1T da db)) := by
  refine pe_mono (pe_d1T hu ha hb) fun σ H Q ⟨en, st, as, rs, re, q⟩ p hp => ?_
  have hn : (as ++ [p])[st.length]? = some p := by rw [← rs.len, List.getElem?_append_right (Nat.le_refl _), Nat.sub_self]; rfl
  refine ⟨en, st ++ [.dT []], as ++ [p], rs.alloc (x := .dT []) hp ⟨[], upd_same, .nil⟩, re.mono (Stp.alloc hp), (Post.bind (rel := RV X.K) (Post.shift q (Stp.alloc hp))).imp fun x H1 ⟨as1, s1, dx, p1, rs1, rx, q1⟩ => ?_⟩
  refine ⟨en, s1, as1, rs1, (re.mono (Stp.alloc hp)).mono p1, q1.bind.imp fun y H2 ⟨as2, s2, dy, p2, rs2, ry, q2⟩ => ?_⟩
  exact fin_d1 rs2 ((p1.trans p2).get hn) (rx.mono p2) ry q2
theorem g_d1K (hu : X.A.units + 1 < cLine) (ha : PE X a (tE X.K T W da)) (hb : PE X b (tE X.K T W db)) : PE X (.Dict [some a] [b] pos) (tE X.K T W (dD1K da db)) := by
  refine pe_mono (pe_d1K hu ha hb) fun σ H Q ⟨en, st, as, rs, re, q⟩ p hp => ?_
  have hn : (as ++ [p])[st.length]? = some p := by rw [← rs.len, List.getElem?_append_right (Nat.le_refl _), Nat.sub_self]; rfl
  refine ⟨en, st ++ [.dK []], as ++ [p], rs.alloc (x := .dK []) hp ⟨[], upd_same, .nil⟩, re.mono (Stp.alloc hp), (Post.bind (rel := RV X.K) (Post.shift q (Stp.alloc hp))).imp fun x H1 ⟨as1, s1, dx, p1, rs1, rx, q1⟩ => ?_⟩
  refine ⟨en, s1, as1, rs1, (re.mono (Stp.alloc hp)).mono p1, q1.bind.imp fun y H2 ⟨as2, s2, dy, p2, rs2, ry, q2⟩ => ?_⟩
  exact fin_d1 rs2 ((p1.trans p2).get hn) (rx.mono p2) ry q2
end
end Gv
namespace Gv
open PySem PySem.Spec L2 PyProof.Rows

/-! ### set(list of whole numbers) -/
/-- a set just made -/
abbrev empO (u : World) : Obj := { cls := .type "set", dict := none, data := .set #[] 0 (.fresh 0 0 (!u.params.followText "set-order")) }
section
variable {Pg : Program} {u : World} {Ar : Around} {Er : Value → Shared → Prop} {sh : Shared}
/-- what set(..) leaves: all stands, and the new set holds just these -/
def SetMade (u : World) (sh : Shared) (zs : List Int) (s₂ : Shared) : Prop :=
  ∃ hp tk c, s₂ = { sh with heap := hp, toks := tk } ∧ SetR u hp sh.heap.objs.size (fun j => decide (j ∈ zs)) c ∧ c ≤ zs.length ∧ ∀ b o, sh.heap.get? b = some o → hp.get? b = some o
theorem listInit {la : Addr} {its : Array Value} {zs : List Int} (hd : Ar.handled = none) (hl : sh.heap.IsList la its) (hz : IntsAre its.toList zs) (hb : zs.length + 1 < scanBound) {Qf : PySem.Fin → Shared → Prop} (hq : ∀ s₂, SetMade u sh zs s₂ → wpAny (model Pg u) Ar (ret Value.none) Qf Er s₂) :
    wpAny (model Pg u) Ar (Builtin.«set.__init__» ⟨[.ref sh.heap.objs.size, .ref la], []⟩) Qf Er { sh with heap := sh.heap.push (empO u) } := by
  have hn : its.size = zs.length := by have q := IntsAre.length hz; rwa [Array.length_toList] at q
  have hS : (sh.heap.push (empO u)).get? sh.heap.objs.size = some (empO u) := Heap.get?_push_size _ rfl
  have hT : Shared.TypeIs { sh with heap := sh.heap.push (empO u) } (.ref sh.heap.objs.size) "set" := ⟨_, hS, rfl⟩
  obtain ⟨⟨cl, di, da, sl⟩, ho, e1, nl, e2⟩ := hl
  dsimp only at e1 e2
  subst e1 e2
  have ho2 : (sh.heap.push (empO u)).get? la = some ⟨.type "list", di, .seq its nl, sl⟩ := Heap.get?_push_of_some _ ho
  have f1 := F.sub_list_set
  have f2 := F.sub_list_frozenset
  have f3 : (Value.type "list" == Value.type "dict") = false := by decide
  have hl2 : (sh.heap.push (empO u)).IsList la its := ⟨_, ho2, rfl, nl, rfl⟩
  unfold Builtin.«set.__init__» noKeywords Builtin.Frozenset.updateFrom
  generalize hJ : pyIter = J
  wp_walk
  subst hJ
  have hlt : la < sh.heap.objs.size := Heap.lt_size ho
  have hz1 : (sh.heap.push (empO u)).objs.size = sh.heap.objs.size + 1 := Heap.size_push ..
  have hne : la ≠ (sh.heap.push (empO u)).objs.size := by rw [hz1]; exact Nat.ne_of_lt (Nat.lt_succ_of_lt hlt)
  have hnf : sh.heap.objs.size ∉ [(sh.heap.push (empO u)).objs.size, la] := by
    rw [hz1]
    intro h
    rcases List.mem_cons.mp h with h | h
    · exact Nat.ne_of_lt (Nat.lt_succ_self _) h
    · exact Nat.ne_of_gt hlt (List.mem_singleton.mp h)
  have hv : ∀ (i : Nat) (v : Value), its[i]? = some v → ∃ k t, zs[i]? = some k ∧ v = .int k t := fun i v h => by
    have hi : i < zs.length := by rw [← hn]; exact (Array.getElem?_eq_some_iff.mp h).1
    obtain ⟨t, e⟩ := IntsAre.int_at hz i v (by rw [Array.getElem?_toList]; exact h)
    have e3 : zs[i]? = some zs[i] := List.getElem?_eq_getElem hi
    exact ⟨_, t, e3, by rw [e, List.getD_eq_getElem?_getD, e3]; rfl⟩
  have in3 : Ar.in1.in1.handled = none := hd
  refine wpAny_pyIter_list hl2 (wpAny_bind (wpAny_runValue ?_))
  refine set_update_ints (Walks.list (A := Ar.in1) in3 _ la hne its).toS sh.heap.objs.size hnf zs hn hb hv its.size 0 _ rfl (Nat.zero_le _) ⟨⟨_, Heap.get?_push_size _ rfl, rfl, rfl⟩, hl2.push _⟩ ⟨0, Nat.le_refl 0, setR_new_at (Heap.get?_push_of_some _ hS)⟩ ?_
  rintro ⟨hp, g, d, tk, os⟩ c hm hc hR
  have eg := hm.gens
  have ed := hm.drawn
  have eo := hm.os
  dsimp only at eg ed eo
  subst eg ed eo
  refine wpAny_pure (hq _ ⟨hp, tk, c, rfl, hR, by omega, fun b o e => ?_⟩)
  have hb0 : b < sh.heap.objs.size := Heap.lt_size e
  refine hm.heap b o (fun h => ?_) (Heap.get?_push_of_some _ (Heap.get?_push_of_some _ e))
  rcases List.mem_cons.mp h with h | h
  · exact Nat.ne_of_lt hb0 h
  · have := List.mem_singleton.mp h
    rw [hz1] at this
    exact Nat.ne_of_lt (Nat.lt_succ_of_lt hb0) this
theorem setMake {la : Addr} {its : Array Value} {zs : List Int} {Qk : Value → Shared → Prop} (hd : Ar.handled = none) (hl : sh.heap.IsList la its) (hz : IntsAre its.toList zs) (hb : zs.length + 1 < scanBound)
    (hq : ∀ s₂, SetMade u sh zs s₂ → Qk (.ref sh.heap.objs.size) s₂) : wpAny (model Pg u) Ar (call (.type "set") [.ref la]) Qk Er sh := by
  obtain ⟨c1, c2, m1⟩ := F.called_set.mro
  have m2 := F.called_set.made
  have m3 := F.called_set.sub
  have m4 := F.called_set.notType
  have m5 := F.called_set.canCreate
  have m6 := F.typeCall_set_1 (.ref la)
  refine wpAny_call (codeAny_of_tree (?_ : wpAny _ _ (callAny (.type "set") _) _ _ _))
  refine wpAny_pure ⟨Code.quiet_builtin _ (by decide +kernel), codeAny_builtin F.entry_type_call ?_⟩
  rw [Around.under_plain (weight_type_call_type "set" [.ref la] []) rfl]
  repeat (any_goals (first | assumption | wp_step))
  refine codeAny_mono (code_set_led1 (.ref la) (Q₁ := fun o1 s₁ => o1 = .ref sh.heap.objs.size ∧ s₁ = { sh with heap := sh.heap.push (empO u) }) (E := Er) ⟨rfl, rfl⟩) fun r1 s1 q1 => ?_
  match r1, q1 with
  | .error _, q1 => exact q1
  | .ok (.ret o1), q1 =>
    obtain ⟨rfl, rfl⟩ := q1
    have hS : (sh.heap.push (empO u)).get? sh.heap.objs.size = some (empO u) := Heap.get?_push_size _ rfl
    have hT : Shared.TypeIs { sh with heap := sh.heap.push (empO u) } (.ref sh.heap.objs.size) "set" := ⟨_, hS, rfl⟩
    have m7 := F.called_set.init.lookup
    have m8 := F.called_set.init.bind (.ref sh.heap.objs.size)
    repeat (any_goals (first | assumption | wp_step))
    refine codeAny_mono (codeAny_call_builtin (R := wants (fun r2 s2 => r2 = Value.none ∧ SetMade u sh zs s2) Er) F.called_set.init.plain F.entry_set_init (check_set_init_1 hT ?_)) fun r2 s2 q2 => ?_
    · refine listInit (Ar := Ar.in1.in1) hd hl hz hb fun s2 h => ?_
      exact wpAny_pure ⟨rfl, h⟩
    match r2, q2 with
    | .error _, q2 => exact q2
    | .ok (.ret r3), q2 =>
      obtain ⟨rfl, h⟩ := q2
      repeat (any_goals (first | assumption | wp_step))
      exact hq _ h
/-- as a rule for calls -/
def rSetL (K : PySem.W.Frag) (u : World) : List V → Hp → VK → Prop := fun vs H Q => ∃ (l : Addr) (zs : List Int), vs = [V.ref l] ∧ SqL K H l (zs.map V.int) ∧ zs.length + 1 < scanBound ∧ ∀ p c, H p = none → c ≤ zs.length → Q (.ref p) (upd H p (SetO u p (fun j => decide (j ∈ zs)) c))
theorem cr_setL {X : Cx} (hc : X.calm = true) : CallR X (.type "set") (rSetL X.K X.w) := by
  intro pins s σ H vs us Q I r h
  obtain ⟨l, zs, rfl, hl, hb, q⟩ := h
  obtain ⟨its, rv, hli, _⟩ := I.list hl
  rw [Vals.ref1 r]
  refine setMake (I.ok.hd hc) hli.isList (intsAre_of (by simpa using rv)) hb ?_
  rintro _ ⟨hp, tk, c, rfl, hR, hcl, hk⟩
  exact ⟨.ref _, _, I.laid (t' := tk) hk (Nat.le_refl _) (setO_new hR), rfl, q _ c (I.hok.fresh (Nat.le_refl _)) hcl⟩
end
/-! ### sorted(set(list of whole numbers)) -/
def insU (x : Int) : List Int → List Int
  | [] => [x]
  | y :: ys => if x < y then x :: y :: ys else if x = y then y :: ys else y :: insU x ys
def usort : List Int → List Int
  | [] => []
  | x :: xs => insU x (usort xs)
theorem insU_mem (x z : Int) : ∀ ys, z ∈ insU x ys ↔ z = x ∨ z ∈ ys
  | [] => by simp [insU]
  | y :: ys => by
    unfold insU
    split
    · simp
    · split
      · rename_i h1 h2
        subst h2
        simp
      · rw [List.mem_cons, insU_mem x z ys, List.mem_cons]
        constructor
        · rintro (h | h | h)
          · exact .inr (.inl h)
          · exact .inl h
          · exact .inr (.inr h)
        · rintro (h | h | h)
          · exact .inr (.inl h)
          · exact .inl h
          · exact .inr (.inr h)
theorem insU_inc (x : Int) : ∀ ys : List Int, ys.Pairwise (· < ·) → (insU x ys).Pairwise (· < ·)
  | [], _ => by simp [insU]
  | y :: ys, h => by
    obtain ⟨h1, h2⟩ := List.pairwise_cons.mp h
    unfold insU
    split
    · rename_i h3
      refine List.pairwise_cons.mpr ⟨fun z hz => ?_, h⟩
      rcases List.mem_cons.mp hz with e | e
      · omega
      · have := h1 z e; omega
    · split
      · exact h
      · rename_i h3 h4
        refine List.pairwise_cons.mpr ⟨fun z hz => ?_, insU_inc x ys h2⟩
        rcases (insU_mem x z ys).mp hz with e | e
        · omega
        · exact h1 z e
theorem usort_mem (z : Int) : ∀ xs, z ∈ usort xs ↔ z ∈ xs
  | [] => Iff.rfl
  | x :: xs => by rw [usort, insU_mem, usort_mem z xs, List.mem_cons]
theorem usort_inc : ∀ xs, (usort xs).Pairwise (· < ·)
  | [] => .nil
  | x :: xs => insU_inc x _ (usort_inc xs)
theorem inc_ext : ∀ xs ys : List Int, xs.Pairwise (· < ·) → ys.Pairwise (· < ·) → (∀ z, z ∈ xs ↔ z ∈ ys) → xs = ys
  | [], [], _, _, _ => rfl
  | [], y :: ys, _, _, h => absurd ((h y).mpr List.mem_cons_self) (by simp)
  | x :: xs, [], _, _, h => absurd ((h x).mp List.mem_cons_self) (by simp)
  | x :: xs, y :: ys, hx, hy, h => by
    obtain ⟨x1, x2⟩ := List.pairwise_cons.mp hx
    obtain ⟨y1, y2⟩ := List.pairwise_cons.mp hy
    have e : x = y := by
      rcases List.mem_cons.mp ((h x).mp List.mem_cons_self) with a | a
      · exact a
      · rcases List.mem_cons.mp ((h y).mpr List.mem_cons_self) with b | b
        · exact b.symm
        · have := y1 x a; have := x1 y b; omega
    subst e
    rw [inc_ext xs ys x2 y2 fun z => ?_]
    constructor
    · intro hz
      have := x1 z hz
      rcases List.mem_cons.mp ((h z).mp (List.mem_cons_of_mem _ hz)) with a | a
      · omega
      · exact a
    · intro hz
      have := y1 z hz
      rcases List.mem_cons.mp ((h z).mpr (List.mem_cons_of_mem _ hz)) with a | a
      · omega
      · exact a
def fSS : FN := fun ds st => match ds with
  | [d] => (lstOf st d).bind fun xs => (intsD xs).bind fun zs => if zs.length < 64 then some (.obj st.length, st ++ [.lst ((usort zs).map .int)]) else none
  | _ => none
section
variable {X : Cx} {T : Nat → Addr} {W : WX}
theorem g_ss {x x2 : Str} {p pos p2 pos2 : Pos} {e : Expr} {da : AD} (hc : X.calm = true) (hm : X.mg x = none) (hv : bootBuiltins x = some (.builtin "sorted")) (hm2 : X.mg x2 = none) (hv2 : bootBuiltins x2 = some (.type "set"))
    (ha : PA X [e] (tA X.K T W da)) (hg : Gl X x := by rfl) (hn : x ≠ "__name__" := by decide) (hdb : (x == ("__debug__" : Str)) = false := by decide) (hg2 : Gl X x2 := by rfl) (hn2 : x2 ≠ "__name__" := by decide) (hdb2 : (x2 == ("__debug__" : Str)) = false := by decide)
    (he2 : starEach [e] X.env = [(false, eval e X.env)] := by rfl) (hpl2 : (backTo pos2 (starEach [] X.env)).any (·.1) = false := by rfl)
    (he : starEach [Expr.Call (.Name x2 p2) [e] [] pos2] X.env = [(false, eval (.Call (.Name x2 p2) [e] [] pos2) X.env)] := by rfl) (hpl : (backTo pos (starEach [] X.env)).any (·.1) = false := by rfl) :
    PE X (.Call (.Name x p) [.Call (.Name x2 p2) [e] [] pos2] [] pos) (tE X.K T W (dGC (dCB fSS da))) := by
  have h1 := pe_callTy (pos := pos2) (p := p2) (cr_setL hc) hg2 hm2 hv2 ha hn2 hdb2 he2 hpl2
  have h3 := pe_callB (pos := pos) (p := p) (cr_sortedSet hc) hg hm hv (pa_cons h1 pa_nil he) hn hdb he hpl
  refine g_gc (pe_mono h3 fun σ H Q ⟨en, st, as, rs, re, q⟩ => ?_)
  refine ⟨en, st, as, rs, re, q.bind.imp fun vs H1 ⟨as1, s1, xs, p1, rs1, rx, q1⟩ => ?_⟩
  have q2 := q1.v
  unfold fSS at q2
  split at q2
  · rename_i d
    obtain ⟨v, rfl, rv⟩ := rx.one
    cases e1 : lstOf s1 d with
    | none => rw [e1] at q2; exact q2.elim
    | some ys =>
      obtain ⟨l, us, rfl, sq, ru⟩ := lstOf_sq rs1 rv e1
      rw [e1, Option.bind_some] at q2
      cases e2 : intsD ys with
      | none => rw [e2] at q2; exact q2.elim
      | some zs =>
        rw [e2, Option.bind_some] at q2
        rw [intsD_rv ru e2] at sq
        by_cases hz : zs.length < 64
        · rw [if_pos hz] at q2
          refine ⟨l, zs, rfl, sq, by unfold scanBound; omega, fun p c hp hcl => ?_⟩
          refine ⟨p, _, c, rfl, upd_same, by omega, fun ns p' hinc hmem hlen hp' => ?_⟩
          have hns : ns = usort zs := inc_ext _ _ hinc (usort_inc zs) fun z => by rw [hmem, usort_mem]; simp
          subst hns
          have rs2 := rs1.new (o := SetO X.w p (fun j => decide (j ∈ zs)) c) hp
          refine q2 _ _ (as1 ++ [p']) ((Stp.new hp).trans (Stp.alloc hp')) (rs2.alloc hp' ⟨_, upd_same, ?_⟩) (newAt rs2)
          have : ∀ ws : List Int, RVs X.K (as1 ++ [p']) (upd (upd H1 p (SetO X.w p (fun j => decide (j ∈ zs)) c)) p' (.lst ((usort zs).map V.int))) (ws.map V.int) (ws.map D.int) := fun ws => by
            induction ws with
            | nil => exact .nil
            | cons w ws ih => exact .cons (.int _) ih
          exact this _
        · rw [if_neg hz] at q2
          exact q2.elim
  · exact q2.elim
theorem bt_set : bootBuiltins "set" = some (.type "set") := by decide +kernel
end
end Gv
namespace Gv
open PySem PySem.Spec L2

/-! ### the law's end -/
theorem sqF_of {K : PySem.W.Frag} {H : Hp} {a : Addr} {xs : List V} (ho : Only H) (h : SqL K H a xs) : SqF K H a xs := by
  rcases h with h | h
  · rcases h with h | ⟨o, h⟩
    · rcases ho a with z | ⟨o, ys, z⟩
      · rw [z] at h; cases h
      · rw [z] at h; cases h
    · exact .inl ⟨o, h⟩
  · exact .inr (.inr h)
/-- an error is what its own class names -/
theorem exm_own {K : PySem.W.Frag} {S : Addr} (h1 : PySem.W.subIn K (.ref S) (.type "BaseException") = some true) (h2 : PySem.W.isClsIn K S = true) (h3 : PySem.W.typeIn K (.ref S) = some (.type "type")) (h4 : PySem.W.subIn K (.ref S) (.ref S) = some true) :
    PySem.W.exmOne K (.ref S) (.ref S) = some true := by
  have e1 : (PySem.W.subIn K (.ref S) (.type "BaseException") == some true) = true := by rw [h1] <;> rfl
  have e2 : ((PySem.W.clsIn K S).isSome && PySem.W.typeIn K (.ref S) == some (.type "type")) = true := by
    have h2' : (PySem.W.clsIn K S).isSome = true := h2
    rw [h2', h3] <;> rfl
  show (if (PySem.W.subIn K (.ref S) (.type "BaseException") == some true) = true then (if ((PySem.W.clsIn K S).isSome && PySem.W.typeIn K (.ref S) == some (.type "type")) = true then PySem.W.subIn K (.ref S) (.ref S) else none) else none) = some true
  rw [if_pos e1, if_pos e2]
  exact h4
def spLaw (K : PySem.W.Frag) : Sp := fun vs H Q _ => ∃ (a : Addr) (ns : List Int), vs = [.ref a] ∧ ns.length ≤ 63 ∧ SqF K H a (ns.map V.int) ∧ ∀ H', Q (.bl true) H'
theorem RVs.ints {K : PySem.W.Frag} {as : List Addr} {H : Hp} : ∀ ns : List Int, RVs K as H (ns.map V.int) (ns.map D.int)
  | [] => .nil
  | n :: ns => .cons (.int n) (RVs.ints ns)
section
variable {P : Program} {w : World} {K : PySem.W.Frag} {mg : Str → Option Value} {base : Heap} {T : Nat → Addr}
theorem GF.law {k : Nat} {f : Addr} {fd : FuncData} {d : FnD} (g : GF P w K mg base T k f fd ["script"] d) (hm : ∀ ns : List Int, ns.length ≤ 63 → ∃ s, d [.obj 0] [.fls (ns.map .int)] = .ok (.bl true) s) : FnOk P w K mg base (L2.CX P w) k f fd ["script"] (spLaw K) :=
  g.ok.imp fun vs H Q E ⟨a, ns, e, hl, hS, q⟩ => by
    subst e
    refine ⟨rfl, [.obj 0], [.fls (ns.map .int)], [a], ⟨rfl, fun i j b o u h1 h2 h3 h4 m1 m2 => ?_, fun i o h => ?_⟩, .cons (.obj rfl) .nil, ?_⟩
    · cases i with
      | zero => cases h3; exact m1.elim
      | succ i => simp at h3
    · cases i with
      | zero => cases h; exact ⟨a, rfl, _, hS, RVs.ints ns⟩
      | succ i => simp at h
    · obtain ⟨s, e⟩ := hm ns hl
      rw [e]
      intro v H' as' p rs rv
      cases rv
      exact q H'
/-- an error's class as the top has written it -/
theorem exn_mk {h : Heap} {x : Str} {c : Nat} {C N fI Td : Addr} {nm q : Str} {bs bm : List Value} {sn : List Str} {sub : List Value} {ab : Bool} {col : Option Bool} {dd : Option Addr} {m0 m1 m2 m3 m5 : Option Value}
    {od an : Option Addr} {sl : Array (Option Value)} {oc kV dc pm cd ct : Value} {oT : Obj} {tk : Tok} {nT : Nat} {p1 p2 p3 p4 p5 p6 p7 p8 r1 r2 r3 r4 : Pos}
    (X : K.In h) (G : h.Ns mainGlobals mg) (hT : T c = C)
    (aC : PySem.W.nsIn K mainGlobals x = some (some (.ref C)))
    (xL : K.lookup C = some (excClassObj nm q C N bs bm true sn sub ab col dd m0 m1 m2 m3 m5 "ValueError.__new__")) (hbm : PySem.HandSPX.refsVE bm = true)
    (sa : PySem.W.findIn K (.ref C) "__setattr__" = some (some (.builtin "object.__setattr__"))) (ga : PySem.W.findIn K (.ref C) "__getattribute__" = some (some (.builtin "BaseException.__getattribute__"))) (gg : PySem.W.findIn K (.ref C) "__getattr__" = some none)
    (noc : PySem.W.findIn K (.ref C) "code" = some none) (nop : PySem.W.findIn K (.ref C) "place" = some none)
    (iC : PySem.W.findIn K (.ref C) "__init__" = some (some (.ref fI))) (tI : PySem.W.typeIn K (.ref fI) = some (.type "function")) (kI : PySem.W.keepIn K (.ref fI) = true)
    (lI : K.lookup fI = some ⟨oc, od, .func (PySem.W.fnOf "__init__" "HallError.__init__" (iAr r1 r2 r3 r4) (iBd p1 p2 p3 p4 p5 p6 p7 p8) iSc (.ref Td) kV dc pm an cd ct), sl⟩) (cI : PySem.W.codeIn K cd "HallError.__init__" = true)
    (lT : K.lookup Td = some oT) (dT : oT.data = .seq #[.int 0 tk] nT)
    (kC : PySem.W.keepIn K (.ref C) = true) (eC : PySem.W.subIn K (.ref C) (.type "BaseException") = some true) (tC : PySem.W.typeIn K (.ref C) = some (.type "type")) (hC : PySem.W.hasDictIn K C = true) (isC : PySem.W.isClsIn K C = true) (sC : PySem.W.subIn K (.ref C) (.ref C) = some true) :
    Exn P w K mg base T c x := by
  have F0 : FunD K "__init__" "HallError.__init__" (iAr r1 r2 r3 r4) (iBd p1 p2 p3 p4 p5 p6 p7 p8) iSc [.int 0] [] fI (PySem.W.fnOf "__init__" "HallError.__init__" (iAr r1 r2 r3 r4) (iBd p1 p2 p3 p4 p5 p6 p7 p8) iSc (.ref Td) kV dc pm an cd ct) :=
    ⟨⟨oc, od, .ref Td, kV, dc, pm, an, cd, ct, sl, rfl, lI, cI, .inr ⟨by simp, Td, oT, [.int 0 tk], nT, rfl, lT, dT, .cons ⟨tk, rfl⟩ .nil⟩, .inl rfl⟩, kI⟩
  obtain ⟨d0, v0, b0⟩ := F0.binds1 (ps := ["self", "code", "place"]) 3 1 (by simp) rfl fun T kV doc pm an cdv ct us its h1 h2 => match us, its, h1, h2 with
    | [_, _, _], [_], _, _ => ⟨_, rfl, rfl⟩
  obtain ⟨d1, v1, b1⟩ := F0.binds1 (ps := ["self", "code", "place"]) 2 0 (by simp) rfl fun T kV doc pm an cdv ct us its h1 h2 => match us, its, h1, h2 with
    | [_, _], [_], _, _ => ⟨_, rfl, rfl⟩
  cases v0
  exact ⟨C, fI, _, d1, ⟨⟨⟨nm, q, N, bs, bm, sn, sub, ab, col, dd, m0, m1, m2, m3, m5, xL, hbm⟩, sa, eC, tC, kC⟩, ⟨ga, gg, eC, hC⟩, iC, tI, noc, nop, exm_own eC isC tC sC⟩, hT, PySem.W.mg_of X G aC, ok_init F0, b0, b1, v1⟩
end
end Gv
namespace Gv
open PySem

/-! ### calls with plain data -/
theorem reachF_nil (st : Sto) (acc : List Nat) : ∀ k, reachF st k [] acc = acc
  | 0 => rfl
  | _ + 1 => rfl
mutual
theorem ren_data (f : Nat → Nat) : ∀ d : D, d.objs = [] → d.ren f = d
  | .non, _ => rfl
  | .bl _, _ => rfl
  | .int _, _ => rfl
  | .str _, _ => rfl
  | .tup xs, h => by rw [D.ren, renL_data f xs (by simpa [D.objs] using h)]
  | .obj i, h => by simp [D.objs] at h
theorem renL_data (f : Nat → Nat) : ∀ ds : List D, objsL ds = [] → renL f ds = ds
  | [], _ => rfl
  | d :: ds, h => by
    simp only [objsL, List.append_eq_nil_iff] at h
    rw [renL, ren_data f d h.1, renL_data f ds h.2]
end
theorem wrB_none (N : Nat) : ∀ (i : Nat) (st : Sto), wrB [] N [] i st = st
  | _, [] => rfl
  | i, o :: st => by rw [wrB, wrB_none N (i + 1) st]; rfl
theorem callX_data {f : FnD} {xs : List D} {x : D} (h : f xs [] = .ok x []) (hx : objsL xs = []) (hr : x.objs = []) (st : Sto) : callX f xs st = .ok x st := by
  unfold callX
  rw [hx, reachF_nil]
  have e : (closB st [] && mutB st [] && subB [] []) = true := rfl
  rw [if_pos e, renL_data _ xs hx, show Gv.sel st [] = [] from rfl, h]
  show Re.ok (x.ren _) (merge st [] []) = _
  rw [ren_data _ x hr]
  unfold merge
  rw [wrB_none]
  simp
theorem callX_er {f : FnD} {xs : List D} {e : Ex} (h : f xs [] = .er e []) (hx : objsL xs = []) (h1 : e.code.objs = []) (h2 : e.place.objs = []) (st : Sto) : callX f xs st = .er e st := by
  unfold callX
  rw [hx, reachF_nil]
  have e1 : (closB st [] && mutB st [] && subB [] []) = true := rfl
  rw [if_pos e1, renL_data _ xs hx, show Gv.sel st [] = [] from rfl, h]
  show Re.er ⟨e.cls, e.code.ren _, e.place.ren _⟩ (merge st [] []) = _
  rw [ren_data _ _ h1, ren_data _ _ h2]
  unfold merge
  rw [wrB_none]
  simp
/-- an answer that holds no object, from an empty store -/
theorem canon_data {x : D} {s : Sto} (h : x.objs = []) : canon 0 (.ok x s) = .ok x [] := by
  have e1 : objsL [x] = [] := by simp [objsL, h]
  have e2 : canR 0 s [x] = [] := by
    unfold canR
    rw [e1]
    simp [objsL, reachF_nil]
  have e3 : canOk 0 s [x] = true := by
    unfold canOk
    rw [e2, e1]
    rfl
  unfold canon
  dsimp only
  rw [if_pos e3, e2, ren_data _ x h]
  rfl
theorem canon_er {e : Ex} {s : Sto} (h1 : e.code.objs = []) (h2 : e.place.objs = []) : canon 0 (.er e s) = .er e [] := by
  have e1 : objsL [e.code, e.place] = [] := by simp [objsL, h1, h2]
  have e2 : canR 0 s [e.code, e.place] = [] := by
    unfold canR
    rw [e1]
    simp [objsL, reachF_nil]
  have e3 : canOk 0 s [e.code, e.place] = true := by
    unfold canOk
    rw [e2, e1]
    rfl
  unfold canon
  dsimp only
  rw [if_pos e3, e2, ren_data _ _ h1, ren_data _ _ h2]
  rfl
theorem objsL_ints (ns : List Int) : objsL (ns.map D.int) = [] := by
  induction ns with
  | nil => rfl
  | cons n ns ih => simp [objsL, D.objs, ih]
theorem renL_ints (f : Nat → Nat) (ns : List Int) : renL f (ns.map D.int) = ns.map D.int := renL_data f _ (objsL_ints ns)

/-! ### draws -/
def b_begin : FnD := dFc 3 1 (sSeq (sSet 1 (dC (.int 7))) (sSeq (sFor (iSeq (dV 0)) (uN 2) (sSet 1 (dOp fMod (dOp fAdd (dOp fAdd (dOp fMul (dV 1) (dC (.int 16807))) (dOp fMod (dCB fInt1 (dCons (dV 2) dNil)) (dC (.int 2147483629)))) (dC (.int 5))) (dC (.int 2147483647))))) (sRet (dLst (dCons (dCB fList (dCons (dV 0) dNil)) (dCons (dC (.int 0)) (dCons (dC (.int 0)) (dCons (dV 1) dNil))))))))
def b_take : FnD := dFc 4 2 (sSeq (sIf (bAnd (bCmp fEq (dOp fIx (dV 0) (dC (.int 2))) (dC (.int 0))) (bCmp fLt (dOp fIx (dV 0) (dC (.int 1))) (dCB fLen (dCons (dOp fIx (dV 0) (dC (.int 0))) dNil)))) (sSeq (sSub (dV 0) (dC (.int 2)) (dCB fAbs (dCons (dCB fInt1 (dCons (dOp fIx (dOp fIx (dV 0) (dC (.int 0))) (dOp fIx (dV 0) (dC (.int 1)))) dNil)) dNil))) (sSeq (sSub (dV 0) (dC (.int 1)) (dOp fAdd (dOp fIx (dV 0) (dC (.int 1))) (dC (.int 1)))) (sIf (bCmp fLt (dOp fIx (dV 0) (dC (.int 2))) (dOp fPow (dC (.int 10)) (dC (.int 18)))) (sSeq (sSet 2 (dCB fInt1 (dCons (dOp fIx (dV 0) (dC (.int 2))) dNil))) (sSeq (sSub (dV 0) (dC (.int 2)) (dC (.int 0))) (sRet (dOp fMod (dV 2) (dV 1))))) sSkip))) sSkip) (sSeq (sIf (bCmp fGt (dOp fIx (dV 0) (dC (.int 2))) (dC (.int 0))) (sSeq (sSet 3 (dOp fMod (dCB fInt1 (dCons (dOp fIx (dV 0) (dC (.int 2))) dNil)) (dV 1))) (sSeq (sSub (dV 0) (dC (.int 2)) (dOp fDiv (dCB fInt1 (dCons (dOp fIx (dV 0) (dC (.int 2))) dNil)) (dV 1))) (sRet (dV 3)))) sSkip) (sSeq (sSub (dV 0) (dC (.int 3)) (dOp fMod (dCB fInt1 (dCons (dOp fAdd (dOp fMul (dOp fIx (dV 0) (dC (.int 3))) (dC (.int 48271))) (dC (.int 17))) dNil)) (dC (.int 2147483647)))) (sRet (dOp fMod (dCB fInt1 (dCons (dOp fDiv (dOp fIx (dV 0) (dC (.int 3))) (dC (.int 11))) dNil)) (dV 1))))))
/-- the drawer at i: its list at j -/
structure DS (st : Sto) (i j : Nat) : Prop where
  ex : ∃ (p : Nat) (g s : Int) (cells : List Int), i ≠ j ∧ st[i]? = some (.lst [.obj j, .int p, .int g, .int s]) ∧ st[j]? = some (.lst (cells.map .int))
def mini (p : Nat) (g s : Int) (cells : List Int) : Sto := [.lst [.obj 1, .int p, .int g, .int s], .lst (cells.map .int)]
theorem idx_pair {i j : Nat} (h : i ≠ j) : idx [i, j] i = 0 ∧ idx [i, j] j = 1 := by
  have h1 : (i == j) = false := by simpa using h
  have h2 : (j == i) = false := by simpa using h.symm
  constructor
  · simp [idx, List.idxOf, List.findIdx, List.findIdx.go]
  · simp [idx, List.idxOf, List.findIdx, List.findIdx.go, h1]
theorem canon_mini (r : Int) (p : Nat) (g s : Int) (cells : List Int) : canon 2 (.ok (.int r) (mini p g s cells)) = .ok (.int r) (mini p g s cells) := by
  have e2 : canR 2 (mini p g s cells) [.int r] = [0, 1] := by
    unfold canR
    show reachF _ 1000000 (objsL [D.int r] ++ objsL ((List.take 2 (mini p g s cells)).map Ob.vals).flatten) [0, 1] = _
    have : objsL [D.int r] ++ objsL ((List.take 2 (mini p g s cells)).map Ob.vals).flatten = [1] := by
      simp [mini, Ob.vals, objsL, D.objs, objsL_ints]
    rw [this]
    show reachF _ (999999 + 1) [1] [0, 1] = _
    rw [reachF]
    simp [reachF_nil]
  have e3 : canOk 2 (mini p g s cells) [.int r] = true := by
    unfold canOk
    rw [e2]
    simp [closB, nodB, mini, Ob.objs, Ob.vals, subB, objsL, D.objs, objsL_ints]
  unfold canon
  dsimp only
  rw [if_pos e3, e2]
  simp [sel, mini, nthO, Ob.ren, renL, D.ren, renL_ints, (idx_pair (show (0 : Nat) ≠ 1 by decide)).2]
def tk0 : SD := (sIf (bAnd (bCmp fEq (dOp fIx (dV 0) (dC (.int 2))) (dC (.int 0))) (bCmp fLt (dOp fIx (dV 0) (dC (.int 1))) (dCB fLen (dCons (dOp fIx (dV 0) (dC (.int 0))) dNil)))) (sSeq (sSub (dV 0) (dC (.int 2)) (dCB fAbs (dCons (dCB fInt1 (dCons (dOp fIx (dOp fIx (dV 0) (dC (.int 0))) (dOp fIx (dV 0) (dC (.int 1)))) dNil)) dNil))) (sSeq (sSub (dV 0) (dC (.int 1)) (dOp fAdd (dOp fIx (dV 0) (dC (.int 1))) (dC (.int 1)))) (sIf (bCmp fLt (dOp fIx (dV 0) (dC (.int 2))) (dOp fPow (dC (.int 10)) (dC (.int 18)))) (sSeq (sSet 2 (dCB fInt1 (dCons (dOp fIx (dV 0) (dC (.int 2))) dNil))) (sSeq (sSub (dV 0) (dC (.int 2)) (dC (.int 0))) (sRet (dOp fMod (dV 2) (dV 1))))) sSkip))) sSkip)
def tk1 : SD := (sSeq (sIf (bCmp fGt (dOp fIx (dV 0) (dC (.int 2))) (dC (.int 0))) (sSeq (sSet 3 (dOp fMod (dCB fInt1 (dCons (dOp fIx (dV 0) (dC (.int 2))) dNil)) (dV 1))) (sSeq (sSub (dV 0) (dC (.int 2)) (dOp fDiv (dCB fInt1 (dCons (dOp fIx (dV 0) (dC (.int 2))) dNil)) (dV 1))) (sRet (dV 3)))) sSkip) (sSeq (sSub (dV 0) (dC (.int 3)) (dOp fMod (dCB fInt1 (dCons (dOp fAdd (dOp fMul (dOp fIx (dV 0) (dC (.int 3))) (dC (.int 48271))) (dC (.int 17))) dNil)) (dC (.int 2147483647)))) (sRet (dOp fMod (dCB fInt1 (dCons (dOp fDiv (dOp fIx (dV 0) (dC (.int 3))) (dC (.int 11))) dNil)) (dV 1)))))
def take_raw : FnD := dFn 4 2 (sSeq tk0 tk1)
theorem cmul_r (i : Int) : cMul i 48271 = true := by simp [cMul]
theorem cpow18 : cPow 10 18 = true := by decide +kernel
theorem tail_raw {m : Int} (hm : 0 < m) (hm2 : m < 1073741824) (p : Nat) (g s : Int) (cells : List Int) (x : Option D) :
    ∃ r p' g' s', tk1 [some (.obj 0), some (.int m), x, none] (mini p g s cells) = .rt (.int r) (mini p' g' s' cells) ∧ 0 ≤ r ∧ r < m := by
  have hm3 : m ≠ 0 := by omega
  by_cases h1 : 0 < g
  · refine ⟨g % m, p, g / m, s, ?_, Int.emod_nonneg _ hm3, Int.emod_lt_of_pos _ hm⟩
    simp [dFn, sSeq, sIf, sSub, sSet, sRet, sRetN, sEx, sSkip, sUn, sPar, sPar3, sBrk, sCt, uN, uT2, uT3, uT4, bAnd, bOr, bNot, bCmp, bChain, bTru, bYes, truD, dAnd, dOr, dNot, dOp, dUn, dV, dC, dCB, dCons, dNil, dTup, dLst, dIf, dChain, dNewK, dNewT, dM, isL, fIx, fInt1, fIntC, fInt, fLt, fLe, fGt, fGe, fSub, fDiv, fMod, fMul, fAdd, fXor, fAnd, fOr, fShl, fShr, fPow, fNeg, fEq, fNe, fAbs, fLen, fMax2, fMin2, fAppend, fExtend, fPop, setV, tk1, mini, L2.atI, L2.ixN, h1, hm, hm2]
  · refine ⟨((s * 48271 + 17) % 2147483647 / 11) % m, p, g, (s * 48271 + 17) % 2147483647, ?_, Int.emod_nonneg _ hm3, Int.emod_lt_of_pos _ hm⟩
    simp [dFn, sSeq, sIf, sSub, sSet, sRet, sRetN, sEx, sSkip, sUn, sPar, sPar3, sBrk, sCt, uN, uT2, uT3, uT4, bAnd, bOr, bNot, bCmp, bChain, bTru, bYes, truD, dAnd, dOr, dNot, dOp, dUn, dV, dC, dCB, dCons, dNil, dTup, dLst, dIf, dChain, dNewK, dNewT, dM, isL, fIx, fInt1, fIntC, fInt, fLt, fLe, fGt, fGe, fSub, fDiv, fMod, fMul, fAdd, fXor, fAnd, fOr, fShl, fShr, fPow, fNeg, fEq, fNe, fAbs, fLen, fMax2, fMin2, fAppend, fExtend, fPop, setV, tk1, cmul_r, mini, L2.atI, L2.ixN, h1, hm, hm2]
theorem raw_of {m : Int} {p p' : Nat} {g s g' s' : Int} {cells : List Int} (hm : 0 < m) (hm2 : m < 1073741824) (e : tk0 [some (.obj 0), some (.int m), none, none] (mini p g s cells) = .nx [some (.obj 0), some (.int m), none, none] (mini p' g' s' cells)) :
    ∃ r p' g' s', take_raw [.obj 0, .int m] (mini p g s cells) = .ok (.int r) (mini p' g' s' cells) ∧ 0 ≤ r ∧ r < m := by
  obtain ⟨r, a, b, c, e2, q⟩ := tail_raw hm hm2 p' g' s' cells none
  refine ⟨r, a, b, c, ?_, q⟩
  simp only [take_raw, dFn, List.length_cons, List.length_nil, if_true, List.map_cons, List.map_nil, List.cons_append, List.nil_append, List.replicate, sSeq, e, e2]
theorem take_run {m : Int} (hm : 0 < m) (hm2 : m < 1073741824) (p : Nat) (g s : Int) (cells : List Int) :
    ∃ r p' g' s', take_raw [.obj 0, .int m] (mini p g s cells) = .ok (.int r) (mini p' g' s' cells) ∧ 0 ≤ r ∧ r < m := by
  have hm3 : m ≠ 0 := by omega
  have ea : ∀ y : Int, (if y < 0 then D.int (-y) else D.int y) = D.int (if y < 0 then -y else y) := fun y => by split <;> rfl
  by_cases h1 : g = 0
  · subst h1
    by_cases h2 : p < cells.length
    · by_cases h3 : (if cells[p] < 0 then -cells[p] else cells[p]) < 1000000000000000000
      · refine ⟨(if cells[p] < 0 then -cells[p] else cells[p]) % m, p + 1, 0, s, ?_, Int.emod_nonneg _ hm3, Int.emod_lt_of_pos _ hm⟩
        simp [dFn, sSeq, sIf, sSub, sSet, sRet, sRetN, sEx, sSkip, sUn, sPar, sPar3, sBrk, sCt, uN, uT2, uT3, uT4, bAnd, bOr, bNot, bCmp, bChain, bTru, bYes, truD, dAnd, dOr, dNot, dOp, dUn, dV, dC, dCB, dCons, dNil, dTup, dLst, dIf, dChain, dNewK, dNewT, dM, isL, fIx, fInt1, fIntC, fInt, fLt, fLe, fGt, fGe, fSub, fDiv, fMod, fMul, fAdd, fXor, fAnd, fOr, fShl, fShr, fPow, fNeg, fEq, fNe, fAbs, fLen, fMax2, fMin2, fAppend, fExtend, fPop, setV, take_raw, tk0, mini, h2, hm, hm2, cpow18]
        simp [L2.atI, L2.ixN, h2, ea, h3, hm, hm3]
      · refine raw_of (p' := p + 1) (g' := if cells[p] < 0 then -cells[p] else cells[p]) (s' := s) hm hm2 ?_
        simp [dFn, sSeq, sIf, sSub, sSet, sRet, sRetN, sEx, sSkip, sUn, sPar, sPar3, sBrk, sCt, uN, uT2, uT3, uT4, bAnd, bOr, bNot, bCmp, bChain, bTru, bYes, truD, dAnd, dOr, dNot, dOp, dUn, dV, dC, dCB, dCons, dNil, dTup, dLst, dIf, dChain, dNewK, dNewT, dM, isL, fIx, fInt1, fIntC, fInt, fLt, fLe, fGt, fGe, fSub, fDiv, fMod, fMul, fAdd, fXor, fAnd, fOr, fShl, fShr, fPow, fNeg, fEq, fNe, fAbs, fLen, fMax2, fMin2, fAppend, fExtend, fPop, setV, tk0, mini, h2, hm, hm2, cpow18]
        simp [L2.atI, L2.ixN, h2, ea, h3, hm, hm3]
    · refine raw_of (p' := p) (g' := 0) (s' := s) hm hm2 ?_
      simp [dFn, sSeq, sIf, sSub, sSet, sRet, sRetN, sEx, sSkip, sUn, sPar, sPar3, sBrk, sCt, uN, uT2, uT3, uT4, bAnd, bOr, bNot, bCmp, bChain, bTru, bYes, truD, dAnd, dOr, dNot, dOp, dUn, dV, dC, dCB, dCons, dNil, dTup, dLst, dIf, dChain, dNewK, dNewT, dM, isL, fIx, fInt1, fIntC, fInt, fLt, fLe, fGt, fGe, fSub, fDiv, fMod, fMul, fAdd, fXor, fAnd, fOr, fShl, fShr, fPow, fNeg, fEq, fNe, fAbs, fLen, fMax2, fMin2, fAppend, fExtend, fPop, setV, tk0, mini, h2, hm, hm2, cpow18, L2.atI, L2.ixN]
  · refine raw_of (p' := p) (g' := g) (s' := s) hm hm2 ?_
    simp [dFn, sSeq, sIf, sSub, sSet, sRet, sRetN, sEx, sSkip, sUn, sPar, sPar3, sBrk, sCt, uN, uT2, uT3, uT4, bAnd, bOr, bNot, bCmp, bChain, bTru, bYes, truD, dAnd, dOr, dNot, dOp, dUn, dV, dC, dCB, dCons, dNil, dTup, dLst, dIf, dChain, dNewK, dNewT, dM, isL, fIx, fInt1, fIntC, fInt, fLt, fLe, fGt, fGe, fSub, fDiv, fMod, fMul, fAdd, fXor, fAnd, fOr, fShl, fShr, fPow, fNeg, fEq, fNe, fAbs, fLen, fMax2, fMin2, fAppend, fExtend, fPop, setV, tk0, mini, h1, L2.atI, L2.ixN]
theorem take_cl {m : Int} (hm : 0 < m) (hm2 : m < 1073741824) (p : Nat) (g s : Int) (cells : List Int) :
    ∃ r p' g' s', b_take [.obj 0, .int m] (mini p g s cells) = .ok (.int r) (mini p' g' s' cells) ∧ 0 ≤ r ∧ r < m := by
  obtain ⟨r, p', g', s', e, q⟩ := take_run hm hm2 p g s cells
  refine ⟨r, p', g', s', ?_, q⟩
  show canon 2 (take_raw _ _) = _
  rw [e, canon_mini]
theorem reach_ds {st : Sto} {i j p : Nat} {g s : Int} {cells : List Int} (hij : i ≠ j) (h1 : st[i]? = some (.lst [.obj j, .int p, .int g, .int s])) (h2 : st[j]? = some (.lst (cells.map .int))) : reachF st 1000000 [i] [] = [i, j] := by
  show reachF st (999998 + 1 + 1) [i] [] = _
  rw [reachF]
  simp only [List.contains_nil, Bool.false_eq_true, if_false, h1, Ob.objs, Ob.vals, objsL, D.objs, List.nil_append, List.append_nil, List.cons_append]
  rw [reachF]
  have hji : ([i].contains j) = false := by simp; omega
  simp only [hji, Bool.false_eq_true, if_false, h2, Ob.objs, Ob.vals, objsL_ints, List.nil_append]
  exact reachF_nil _ _ _
theorem merge2 {st : Sto} {i j : Nat} {o1 o2 : Ob} (hij : i ≠ j) (hi : i < st.length) (hj : j < st.length) : merge st [o1, o2] [i, j] = (st.set i (o1.ren (upI st.length [i, j]))).set j (o2.ren (upI st.length [i, j])) := by
  unfold merge
  simp only [List.length_cons, List.length_nil, List.drop_succ_cons, List.drop_zero, List.map_nil, List.append_nil]
  apply List.ext_getElem?
  intro k
  rw [wrB_get, Nat.zero_add]
  by_cases hk : j = k
  · subst hk
    rw [List.getElem?_set_self (by rw [List.length_set]; exact hj), List.getElem?_eq_getElem hj]
    simp [nthO, (idx_pair hij).2]
  · rw [List.getElem?_set_ne hk]
    by_cases hk2 : i = k
    · subst hk2
      rw [List.getElem?_set_self hi, List.getElem?_eq_getElem hi]
      simp [nthO, (idx_pair hij).1]
    · rw [List.getElem?_set_ne hk2]
      have : ([i, j].contains k) = false := by simp; omega
      rw [this]
      cases st[k]? <;> rfl
/-- A DRAW: any number below m; the drawer alone is written -/
theorem draw {st : Sto} {i j : Nat} {m : Int} (h : DS st i j) (hm : 0 < m) (hm2 : m < 1073741824) : ∃ r o, callX b_take [.obj i, .int m] st = .ok (.int r) (st.set i o) ∧ 0 ≤ r ∧ r < m ∧ DS (st.set i o) i j := by
  obtain ⟨p, g, s, cells, hij, h1, h2⟩ := h.ex
  have hi := (List.getElem?_eq_some_iff.mp h1).1
  have hj := (List.getElem?_eq_some_iff.mp h2).1
  obtain ⟨r, p', g', s', e, q1, q2⟩ := take_cl hm hm2 p g s cells
  refine ⟨r, .lst [.obj j, .int p', .int g', .int s'], ?_, q1, q2, ⟨p', g', s', cells, hij, List.getElem?_set_self hi, by rw [List.getElem?_set_ne hij]; exact h2⟩⟩
  unfold callX
  have eR : objsL [.obj i, .int m] = [i] := rfl
  rw [eR, reach_ds hij h1 h2]
  dsimp only
  have hd := idx_pair hij
  have hji : (i == j) = false := by simpa using hij
  have c1 : (closB st [i, j] && mutB st [i, j] && subB [i] [i, j]) = true := by
    simp [closB, nodB, mutB, subB, h1, h2, Ob.objs, Ob.vals, objsL, D.objs, objsL_ints, Ob.muB, hji, hij]
  have c2 : Gv.sel st [i, j] = mini p g s cells := by
    simp [Gv.sel, nthO, h1, h2, Ob.ren, renL, D.ren, renL_ints, hd.2, mini]
  have c3 : renL (idx [i, j]) [.obj i, .int m] = [.obj 0, .int m] := by
    simp [renL, D.ren, hd.1]
  rw [if_pos c1, c2, c3, e]
  dsimp only
  rw [show mini p' g' s' cells = [.lst [.obj 1, .int p', .int g', .int s'], .lst (cells.map .int)] from rfl, merge2 hij hi hj]
  have e3 : (Ob.lst (cells.map D.int)).ren (upI st.length [i, j]) = .lst (cells.map .int) := by simp [Ob.ren, renL_ints]
  have e4 : (Ob.lst [.obj 1, .int p', .int g', .int s']).ren (upI st.length [i, j]) = .lst [.obj j, .int p', .int g', .int s'] := by simp [Ob.ren, renL, D.ren, upI]
  rw [e3, e4]
  congr 1
  apply List.ext_getElem?
  intro k
  by_cases hk : j = k
  · subst hk
    rw [List.getElem?_set_self (by rw [List.length_set]; exact hj), List.getElem?_set_ne hij, h2]
  · rw [List.getElem?_set_ne hk]
end Gv
namespace Gv
open PySem

/-! ### one behind another -/
theorem seq_nx {a b : SD} {en en' : En} {st st' : Sto} {r : Rs} (h : a en st = .nx en' st') (h2 : b en' st' = r) : sSeq a b en st = r := by
  unfold sSeq
  rw [h]
  exact h2
theorem seq_rt {a b : SD} {en : En} {st st' : Sto} {d : D} (h : a en st = .rt d st') : sSeq a b en st = .rt d st' := by
  unfold sSeq
  rw [h]
theorem fn_rt {n ar : Nat} {body : SD} {ds : List D} {st s : Sto} {d : D} (hl : ds.length = ar) (h : body (ds.map some ++ List.replicate (n - ar) none) st = .rt d s) : dFn n ar body ds st = .ok d s := by
  unfold dFn
  rw [if_pos hl, h]
theorem fn_nx {n ar : Nat} {body : SD} {ds : List D} {st s : Sto} {en : En} (hl : ds.length = ar) (h : body (ds.map some ++ List.replicate (n - ar) none) st = .nx en s) : dFn n ar body ds st = .ok .non s := by
  unfold dFn
  rw [if_pos hl, h]
/-- a def of plain data -/
theorem data_rt {n ar : Nat} {body : SD} {ds : List D} {s : Sto} {d : D} (hl : ds.length = ar) (h : body (ds.map some ++ List.replicate (n - ar) none) [] = .rt d s) (hd : d.objs = []) : dFc n ar body ds [] = .ok d [] := by
  show canon 0 (dFn n ar body ds []) = _
  rw [fn_rt hl h]
  exact canon_data hd
/-! ### steps by rules (no unfolding of calls) -/
section
variable {en : En} {st s1 s2 s3 s4 : Sto} {a b c : ED} {as : AD} {ba bb : BD} {x y z : D} {xs : List D} {i : Nat} {f : F2} {g : FN} {T : FnD} {k k2 : Bool} {A B : SD} {r : Rs}
theorem v_op (h1 : a en st = .ok x s1) (h2 : b en s1 = .ok y s2) (h3 : f x y s2 = some (z, s3)) : dOp f a b en st = .ok z s3 := by simp only [dOp, h1, h2, h3, Re.bind_ok, Vr.re_some]
theorem v_nil : dNil en st = .ok [] st := rfl
theorem v_cons (h1 : a en st = .ok x s1) (h2 : as en s1 = .ok xs s2) : dCons a as en st = .ok (x :: xs) s2 := by simp only [dCons, h1, h2, Re.bind_ok]
theorem v_cb (h1 : as en st = .ok xs s1) (h2 : g xs s1 = some (z, s2)) : dCB g as en st = .ok z s2 := by simp only [dCB, h1, h2, Re.bind_ok, Vr.re_some]
theorem v_X (h1 : as en st = .ok xs s1) (h2 : callX T xs s1 = .ok z s2) : dX T as en st = .ok z s2 := by simp only [dX, h1, h2, Re.bind_ok]
theorem v_if (h1 : ba en st = .ok k s1) (h2 : (if k = true then a else b) en s1 = .ok z s2) : dIf ba a b en st = .ok z s2 := by
  cases k <;> simpa [dIf, h1] using h2
theorem v_and (h1 : a en st = .ok (.bl true) s1) (h2 : b en s1 = .ok z s2) : dAnd a b en st = .ok z s2 := by simp [dAnd, h1, h2]
theorem v_and0 (h1 : a en st = .ok (.bl false) s1) : dAnd a b en st = .ok (.bl false) s1 := by simp [dAnd, h1]
theorem t_cmp (h1 : a en st = .ok x s1) (h2 : b en s1 = .ok y s2) (h3 : f x y s2 = some (.bl k, s3)) : bCmp f a b en st = .ok k s3 := by simp only [bCmp, h1, h2, h3, Re.bind_ok]
theorem t_not (h1 : ba en st = .ok k s1) : bNot ba en st = .ok (!k) s1 := by simp only [bNot, h1, Re.bind_ok]
theorem t_tru (h1 : a en st = .ok x s1) (h2 : truD s1 x = some k) : bTru a en st = .ok k s1 := by simp only [bTru, h1, h2, Re.bind_ok]
theorem t_or0 (h1 : ba en st = .ok false s1) (h2 : bb en s1 = .ok k s2) : bOr ba bb en st = .ok k s2 := by simp [bOr, h1, h2]
theorem t_or1 (h1 : ba en st = .ok true s1) : bOr ba bb en st = .ok true s1 := by simp [bOr, h1]
theorem t_and1 (h1 : ba en st = .ok true s1) (h2 : bb en s1 = .ok k s2) : bAnd ba bb en st = .ok k s2 := by simp [bAnd, h1, h2]
theorem t_and0 (h1 : ba en st = .ok false s1) : bAnd ba bb en st = .ok false s1 := by simp [bAnd, h1]
theorem s_set (h : a en st = .ok x s1) : sSet i a en st = .nx (en.set i (some x)) s1 := by simp only [sSet, h, Re.toS_ok]
theorem s_un {u : UD} {en' : En} (h : a en st = .ok x s1) (hu : u x en = some en') : sUn u a en st = .nx en' s1 := by simp only [sUn, h, hu, Re.toS_ok]
theorem s_ret (h : a en st = .ok x s1) : sRet a en st = .rt x s1 := by simp only [sRet, h, Re.toS_ok]
theorem s_ex (h : a en st = .ok x s1) : sEx a en st = .nx en s1 := by simp only [sEx, h, Re.toS_ok]
theorem s_if1 (h : ba en st = .ok true s1) (h2 : A en s1 = r) : sIf ba A B en st = r := by simp only [sIf, h, Re.toS_ok, if_true, h2]
theorem s_if0 (h : ba en st = .ok false s1) (h2 : B en s1 = r) : sIf ba A B en st = r := by simp [sIf, h, h2]
theorem s_tryR {c : Nat} {f' : Ex → D} (h : A en st = .rt x s1) : sTry c i f' A en st = .rt x s1 := by
  unfold sTry
  rw [h]
theorem s_tryE {c : Nat} {f' : Ex → D} {en1 : En} {e : Ex} (h : A en st = .er e en1 s1) (hc : e.cls = c) (hi : i < en1.length) : sTry c i f' A en st = .rt (f' e) s1 := by
  unfold sTry
  rw [h]
  exact if_pos ⟨hc, hi⟩
theorem s_skip : sSkip en st = .nx en st := rfl
end
/-! ### loops -/
/-- what a turn of a loop may leave -/
def TurnR (P : En → Sto → Prop) (R : Rs → Prop) : Rs → Prop
  | .nx en st => P en st
  | .ct en st => P en st
  | .bk en st => R (.nx en st)
  | r => R r
theorem forL_rule {it : ItD} {u : UD} {body : SD} (P : Nat → En → Sto → Prop) (R : Rs → Prop)
    (hs : ∀ k d en st, it.items[k]? = some d → P k en st → it.ok k st = true ∧ ∃ en1 r, u d en = some en1 ∧ body en1 st = r ∧ TurnR (P (k + 1)) R r)
    (he : ∀ en st, P it.items.length en st → it.ok it.items.length st = true ∧ R (.nx en st)) :
    ∀ (n k : Nat) (en : En) (st : Sto), it.items.length - k = n → k ≤ it.items.length → P k en st → R (forL it u body k (it.items.drop k) en st) := by
  intro n
  induction n with
  | zero =>
    intro k en st hn hk h
    have e : k = it.items.length := by omega
    subst e
    obtain ⟨ok, r⟩ := he en st h
    rw [List.drop_length, forL, if_pos ok]
    exact r
  | succ n ih =>
    intro k en st hn hk h
    have hlt : k < it.items.length := by omega
    obtain ⟨ok, en1, r, hu, eb, hb⟩ := hs k _ en st (List.getElem?_eq_getElem hlt) h
    rw [List.drop_eq_getElem_cons hlt, forL, if_pos ok, hu]
    dsimp only
    rw [eb]
    cases r with
    | nx en2 st2 => exact ih (k + 1) en2 st2 (by omega) hlt hb
    | ct en2 st2 => exact ih (k + 1) en2 st2 (by omega) hlt hb
    | bk en2 st2 => exact hb
    | rt d s => exact hb
    | er x e s => exact hb
    | no => exact hb
theorem sFor_rule {i : ID} {u : UD} {body : SD} {en : En} {st s1 : Sto} {it : ItD} (hi : i en st = .ok it s1) (P : Nat → En → Sto → Prop) (R : Rs → Prop) (h0 : P 0 en s1)
    (hs : ∀ k d en st, it.items[k]? = some d → P k en st → it.ok k st = true ∧ ∃ en1 r, u d en = some en1 ∧ body en1 st = r ∧ TurnR (P (k + 1)) R r)
    (he : ∀ en st, P it.items.length en st → it.ok it.items.length st = true ∧ R (.nx en st)) : R (sFor i u body en st) := by
  unfold sFor
  rw [hi]
  exact forL_rule P R hs he _ 0 en s1 rfl (Nat.zero_le _) h0
theorem whileF_rule {c : BD} {body : SD} (P : Nat → En → Sto → Prop) (R : Rs → Prop)
    (hs : ∀ m en st, P m en st → ∃ b s1, c en st = .ok b s1 ∧ (b = false → R (.nx en s1)) ∧ (b = true → ∃ r, body en s1 = r ∧ TurnR (fun en2 st2 => ∃ m', m' < m ∧ P m' en2 st2) R r)) :
    ∀ (n m : Nat) (en : En) (st : Sto), m < n → P m en st → R (whileF c body n en st) := by
  intro n
  induction n with
  | zero => intro m en st h; omega
  | succ n ih =>
    intro m en st h hp
    obtain ⟨b, s1, hc, h0, h1⟩ := hs m en st hp
    rw [whileF, hc]
    cases b with
    | false => exact h0 rfl
    | true =>
      obtain ⟨r, eb, h1⟩ := h1 rfl
      simp only [Re.toS_ok, ↓reduceIte, eb]
      cases r with
      | nx en2 st2 => obtain ⟨m', hm, hp⟩ := h1; exact ih m' en2 st2 (by omega) hp
      | ct en2 st2 => obtain ⟨m', hm, hp⟩ := h1; exact ih m' en2 st2 (by omega) hp
      | bk en2 st2 => exact h1
      | rt d s => exact h1
      | er x e s => exact h1
      | no => exact h1
theorem sWhile_rule {c : BD} {body : SD} {en : En} {st : Sto} (P : Nat → En → Sto → Prop) (R : Rs → Prop) (m : Nat) (hm : m < 1000000) (h0 : P m en st)
    (hs : ∀ m en st, P m en st → ∃ b s1, c en st = .ok b s1 ∧ (b = false → R (.nx en s1)) ∧ (b = true → ∃ r, body en s1 = r ∧ TurnR (fun en2 st2 => ∃ m', m' < m ∧ P m' en2 st2) R r)) : R (sWhile c body en st) := whileF_rule P R hs _ m en st hm h0

/-! ### comprehensions -/
theorem compL_rule {it : ItD} {u : UD} {c : BD} {elt : ED} {en : En} {n : Nat} (P : Nat → List D → Sto → Prop)
    (hs : ∀ k d acc s, it.items[k]? = some d → s[n]? = some (.lst acc) → P k acc s → it.ok k s = true ∧ ∃ en1, u d en = some en1 ∧ ∃ b s2, c en1 s = .ok b s2 ∧
      (b = false → s2[n]? = some (.lst acc) ∧ P (k + 1) acc s2) ∧ (b = true → ∃ y s3, elt en1 s2 = .ok y s3 ∧ s3[n]? = some (.lst acc) ∧ acc.length < 16777216 ∧ P (k + 1) (acc ++ [y]) (s3.set n (.lst (acc ++ [y])))))
    (he : ∀ acc s, s[n]? = some (.lst acc) → P it.items.length acc s → it.ok it.items.length s = true) :
    ∀ (m k : Nat) (acc : List D) (s : Sto), it.items.length - k = m → k ≤ it.items.length → s[n]? = some (.lst acc) → P k acc s → ∃ acc' s', compL it u c elt en n k (it.items.drop k) s = .ok () s' ∧ s'[n]? = some (.lst acc') ∧ P it.items.length acc' s' := by
  intro m
  induction m with
  | zero =>
    intro k acc s hm hk hn h
    have e : k = it.items.length := by omega
    subst e
    refine ⟨acc, s, ?_, hn, h⟩
    rw [List.drop_length, compL, if_pos (he acc s hn h)]
  | succ m ih =>
    intro k acc s hm hk hn h
    have hlt : k < it.items.length := by omega
    obtain ⟨ok, en1, hu, b, s2, hc, h0, h1⟩ := hs k _ acc s (List.getElem?_eq_getElem hlt) hn h
    rw [List.drop_eq_getElem_cons hlt, compL, if_pos ok, hu]
    dsimp only
    rw [hc]
    cases b with
    | false =>
      obtain ⟨a1, a2⟩ := h0 rfl
      exact ih (k + 1) acc s2 (by omega) hlt a1 a2
    | true =>
      obtain ⟨y, s3, a1, a2, a3, a4⟩ := h1 rfl
      have hl : n < s3.length := (List.getElem?_eq_some_iff.mp a2).1
      simp only [Re.bind_ok, ↓reduceIte, a1, a2, if_pos a3]
      exact ih (k + 1) (acc ++ [y]) _ (by omega) hlt (List.getElem?_set_self hl) a4
theorem dLC_rule {own : List Nat} {i : ID} {u : UD} {c : BD} {elt : ED} {en : En} {st s1 : Sto} {it : ItD} (hi : i en st = .ok it s1) (P : Nat → List D → Sto → Prop) (h0 : P 0 [] (s1 ++ [.lst []]))
    (hs : ∀ k d acc s, it.items[k]? = some d → s[s1.length]? = some (.lst acc) → P k acc s → it.ok k s = true ∧ ∃ en1, u d (wipeE en own) = some en1 ∧ ∃ b s2, c en1 s = .ok b s2 ∧
      (b = false → s2[s1.length]? = some (.lst acc) ∧ P (k + 1) acc s2) ∧ (b = true → ∃ y s3, elt en1 s2 = .ok y s3 ∧ s3[s1.length]? = some (.lst acc) ∧ acc.length < 16777216 ∧ P (k + 1) (acc ++ [y]) (s3.set s1.length (.lst (acc ++ [y])))))
    (he : ∀ acc s, s[s1.length]? = some (.lst acc) → P it.items.length acc s → it.ok it.items.length s = true) :
    ∃ acc s, dLC own i u c elt en st = .ok (.obj s1.length) s ∧ s[s1.length]? = some (.lst acc) ∧ P it.items.length acc s := by
  obtain ⟨acc, s, e, h1, h2⟩ := compL_rule (u := u) (c := c) (elt := elt) (en := wipeE en own) (n := s1.length) P hs he _ 0 [] (s1 ++ [.lst []]) rfl (Nat.zero_le _) (by simp) h0
  refine ⟨acc, s, ?_, h1, h2⟩
  rw [List.drop_zero] at e
  simp only [dLC, hi, Re.bind, e, noEr]
/-- elements that leave the store as it is -/
theorem dLC_pure {own : List Nat} {i : ID} {u : UD} {c : BD} {elt : ED} {en : En} {st s1 : Sto} {it : ItD} (hi : i en st = .ok it s1) (f : Nat → Option D)
    (hs : ∀ k d acc, it.items[k]? = some d → it.ok k (s1 ++ [.lst acc]) = true ∧ ∃ en1, u d (wipeE en own) = some en1 ∧ match f k with
      | none => c en1 (s1 ++ [.lst acc]) = .ok false (s1 ++ [.lst acc])
      | some y => c en1 (s1 ++ [.lst acc]) = .ok true (s1 ++ [.lst acc]) ∧ elt en1 (s1 ++ [.lst acc]) = .ok y (s1 ++ [.lst acc]))
    (he : ∀ acc, it.ok it.items.length (s1 ++ [.lst acc]) = true) (hl : it.items.length < 16777216) : dLC own i u c elt en st = .ok (.obj s1.length) (s1 ++ [.lst ((List.range it.items.length).filterMap f)]) := by
  have len : ∀ k, ((List.range k).filterMap f).length ≤ k := fun k => Nat.le_trans (List.length_filterMap_le _ _) (by simp)
  obtain ⟨acc, s, e, h1, h2, h3⟩ := dLC_rule (own := own) (u := u) (c := c) (elt := elt) hi (fun k acc s => s = s1 ++ [.lst acc] ∧ acc = (List.range k).filterMap f ∧ k ≤ it.items.length) ⟨rfl, rfl, Nat.zero_le _⟩ (fun k d acc s hd hn ⟨e1, e2, hk⟩ => by
    subst e1
    obtain ⟨ok, en1, hu, h⟩ := hs k d acc hd
    have hk' : k < it.items.length := (List.getElem?_eq_some_iff.mp hd).1
    refine ⟨ok, en1, hu, ?_⟩
    cases ef : f k with
    | none =>
      rw [ef] at h
      refine ⟨false, _, h, fun _ => ⟨hn, rfl, ?_, hk'⟩, fun z => nomatch z⟩
      rw [List.range_succ, List.filterMap_append, ← e2]
      simp [ef]
    | some y =>
      rw [ef] at h
      refine ⟨true, _, h.1, (fun z => nomatch z), fun _ => ⟨y, _, h.2, hn, ?_, ?_, ?_, hk'⟩⟩
      · rw [e2]
        exact Nat.lt_of_le_of_lt (len k) (by omega)
      · rw [List.set_append_right _ _ (Nat.le_refl _), Nat.sub_self]
        rfl
      · rw [List.range_succ, List.filterMap_append, ← e2]
        simp [ef]) (fun acc s hn ⟨e1, _⟩ => by subst e1; exact he acc)
  rw [e, h2, h3.1]
/-- no test, elements that read no list that is made -/
theorem dLC_map {own : List Nat} {i : ID} {u : UD} {elt : ED} {en : En} {st s1 : Sto} {items : List D} (hi : i en st = .ok ⟨items, none⟩ s1) (f : Nat → D)
    (hs : ∀ k d s, items[k]? = some d → ∃ en1, u d (wipeE en own) = some en1 ∧ elt en1 s = .ok (f k) s) (hl : items.length < 16777216) : dLC own i u bYes elt en st = .ok (.obj s1.length) (s1 ++ [.lst ((List.range items.length).map f)]) := by
  have := dLC_pure (own := own) (u := u) (c := bYes) (elt := elt) hi (fun k => some (f k)) (fun k d acc hd => by
    obtain ⟨en1, h1, h2⟩ := hs k d (s1 ++ [.lst acc]) hd
    exact ⟨rfl, en1, h1, rfl, h2⟩) (fun _ => rfl) hl
  rw [this]
  simp
/-- the same over a list that stands -/
theorem dLC_maps {own : List Nat} {i : ID} {u : UD} {elt : ED} {en : En} {st s1 : Sto} {items : List D} {j : Nat} {o : Ob} (hi : i en st = .ok ⟨items, some (j, items)⟩ s1) (hj : s1[j]? = some o) (ho : o.seq = some items) (f : Nat → D)
    (hs : ∀ k d acc, items[k]? = some d → ∃ en1, u d (wipeE en own) = some en1 ∧ elt en1 (s1 ++ [.lst acc]) = .ok (f k) (s1 ++ [.lst acc])) (hl : items.length < 16777216) : dLC own i u bYes elt en st = .ok (.obj s1.length) (s1 ++ [.lst ((List.range items.length).map f)]) := by
  have hg : ∀ acc, (s1 ++ [Ob.lst acc])[j]? = some o := fun acc => by
    rw [List.getElem?_append_left (List.getElem?_eq_some_iff.mp hj).1]
    exact hj
  have oks : ∀ k acc, ItD.ok ⟨items, some (j, items)⟩ k (s1 ++ [Ob.lst acc]) = true := fun k acc => by
    simp only [ItD.ok, hg, Option.bind_some, ho]
    cases items[k]? with
    | none => rfl
    | some x => exact beqD_self x
  have := dLC_pure (own := own) (u := u) (c := bYes) (elt := elt) hi (fun k => some (f k)) (fun k d acc hd => by
    obtain ⟨en1, h1, h2⟩ := hs k d acc hd
    exact ⟨oks k acc, en1, h1, rfl, h2⟩) (fun acc => oks _ acc) hl
  rw [this]
  simp
/-- what was made goes -/
theorem gc_app {x : D} {st ex : Sto} (h : x.cl st.length = true) : gcD st (.ok x (st ++ ex)) = .ok x st := by
  have e : (st ++ ex).take st.length = st := List.take_left' rfl
  simp only [gcD, gc, e, h, beqS_self, and_self, if_true]
/-- ranges of moderate numbers -/
theorem rg_lo {i : Int} (h : -1000000000 ≤ i) : -4611686018427387904 ≤ i := Int.le_trans (by decide) h
theorem rg_hi {i : Int} (h : i ≤ 1000000000) : i < 4611686018427387904 := Int.lt_of_le_of_lt h (by decide)
theorem iRg1_ok {a : AD} {en : En} {st s1 : Sto} {i : Int} (h : a en st = .ok [.int i] s1) (h1 : -1000000000 ≤ i) (h2 : i ≤ 1000000000) : iRg1 a en st = .ok ⟨rng 0 i.toNat, none⟩ s1 := by
  unfold iRg1
  rw [h]
  exact if_pos ⟨rg_lo h1, rg_hi h2⟩
theorem iRg1_n {a : AD} {en : En} {st s1 : Sto} {n : Nat} (h : a en st = .ok [.int n] s1) (h2 : n ≤ 1000000000) : iRg1 a en st = .ok ⟨rng 0 n, none⟩ s1 := by
  rw [iRg1_ok h (by omega) (by omega), Int.toNat_natCast]
theorem iRg2_ok {a : AD} {en : En} {st s1 : Sto} {i j : Int} (h : a en st = .ok [.int i, .int j] s1) (h1 : -1000000000 ≤ i) (h2 : i ≤ 1000000000) (h3 : -1000000000 ≤ j) (h4 : j ≤ 1000000000) : iRg2 a en st = .ok ⟨rng i (j - i).toNat, none⟩ s1 := by
  unfold iRg2
  rw [h]
  exact if_pos ⟨⟨rg_lo h1, rg_hi h2⟩, rg_lo h3, rg_hi h4⟩
/-- the items of a range -/
theorem rng_at {n : Nat} {lo : Int} {k : Nat} {d : D} (h : (rng lo n)[k]? = some d) : k < n ∧ d = .int (lo + k) := by
  have hk : k < n := by
    have := (List.getElem?_eq_some_iff.mp h).1
    rw [rng_len] at this
    exact this
  rw [rng_get n lo k hk] at h
  cases h
  exact ⟨hk, rfl⟩
theorem ok_none (items : List D) (k : Nat) (st : Sto) : ItD.ok ⟨items, none⟩ k st = true := rfl
theorem ok_seq {i : Nat} {xs items : List D} {o : Ob} {st : Sto} (h : st[i]? = some o) (e : o.seq = some xs) (k : Nat) : ItD.ok ⟨items, some (i, xs)⟩ k st = true := by
  simp only [ItD.ok, h, Option.bind_some, e]
  cases xs[k]? with
  | none => rfl
  | some x => exact beqD_self x

/-! ### the start -/
theorem begin_ok (ns : List Int) : ∃ s : Int, b_begin [.obj 0] [.fls (ns.map .int)] = .ok (.obj 1) [.fls (ns.map .int), .lst [.obj 2, .int 0, .int 0, .int s], .lst (ns.map .int)] := by
  have key : ∃ (s : Int) (x : Option D), sFor (iSeq (dV 0)) (uN 2) (sSet 1 (dOp fMod (dOp fAdd (dOp fAdd (dOp fMul (dV 1) (dC (.int 16807))) (dOp fMod (dCB fInt1 (dCons (dV 2) dNil)) (dC (.int 2147483629)))) (dC (.int 5))) (dC (.int 2147483647)))) [some (.obj 0), some (.int 7), none] [.fls (ns.map .int)] = .nx [some (.obj 0), some (.int s), x] [.fls (ns.map .int)] := by
    refine sFor_rule (it := ⟨ns.map .int, some (0, ns.map .int)⟩) (s1 := [.fls (ns.map .int)]) (by simp [iSeq, dV]) (fun _ en st => ∃ s x, en = [some (.obj 0), some (.int s), x] ∧ st = [.fls (ns.map .int)]) (fun r => ∃ s x, r = .nx [some (.obj 0), some (.int s), x] [.fls (ns.map .int)]) ⟨7, none, rfl, rfl⟩ ?_ ?_
    · rintro k d en st hd ⟨s, x, rfl, rfl⟩
      obtain ⟨c, hc⟩ : ∃ c : Int, d = .int c := by
        simp only [List.getElem?_map] at hd
        cases e : ns[k]? with
        | none => rw [e] at hd; cases hd
        | some c => rw [e] at hd; cases hd; exact ⟨c, rfl⟩
      subst hc
      have cm : cMul s 16807 = true := by simp [cMul]
      refine ⟨ok_seq (o := .fls (ns.map .int)) rfl rfl k, _, .nx [some (.obj 0), some (.int ((s * 16807 + c % 2147483629 + 5) % 2147483647)), some (.int c)] [.fls (ns.map .int)], rfl, ?_, ?_⟩
      · simp [dFn, sSeq, sIf, sSub, sSet, sRet, sRetN, sEx, sSkip, sUn, sPar, sPar3, sBrk, sCt, uN, uT2, uT3, uT4, bAnd, bOr, bNot, bCmp, bChain, bTru, bYes, truD, dAnd, dOr, dNot, dOp, dUn, dV, dC, dCB, dCons, dNil, dTup, dLst, dIf, dChain, dNewK, dNewT, dM, isL, fIx, fInt1, fIntC, fInt, fLt, fLe, fGt, fGe, fSub, fDiv, fMod, fMul, fAdd, fXor, fAnd, fOr, fShl, fShr, fPow, fNeg, fEq, fNe, fAbs, fLen, fMax2, fMin2, fAppend, fExtend, fPop, setV, cm]
      · exact ⟨_, _, rfl, rfl⟩
    · rintro en st ⟨s, x, rfl, rfl⟩
      exact ⟨ok_seq (o := .fls (ns.map .int)) rfl rfl _, s, x, rfl⟩
  obtain ⟨s, x, e⟩ := key
  refine ⟨s, ?_⟩
  show canon 1 (dFn 3 1 _ _ _) = _
  have e2 : dFn 3 1 (sSeq (sSet 1 (dC (.int 7))) (sSeq (sFor (iSeq (dV 0)) (uN 2) (sSet 1 (dOp fMod (dOp fAdd (dOp fAdd (dOp fMul (dV 1) (dC (.int 16807))) (dOp fMod (dCB fInt1 (dCons (dV 2) dNil)) (dC (.int 2147483629)))) (dC (.int 5))) (dC (.int 2147483647))))) (sRet (dLst (dCons (dCB fList (dCons (dV 0) dNil)) (dCons (dC (.int 0)) (dCons (dC (.int 0)) (dCons (dV 1) dNil)))))))) [.obj 0] [.fls (ns.map .int)] = .ok (.obj 2) [.fls (ns.map .int), .lst (ns.map .int), .lst [.obj 1, .int 0, .int 0, .int s]] := by
    have h1 : sSet 1 (dC (.int 7)) [some (.obj 0), none, none] [.fls (ns.map .int)] = .nx [some (.obj 0), some (.int 7), none] [.fls (ns.map .int)] := rfl
    have h2 : sRet (dLst (dCons (dCB fList (dCons (dV 0) dNil)) (dCons (dC (.int 0)) (dCons (dC (.int 0)) (dCons (dV 1) dNil))))) [some (.obj 0), some (.int s), x] [.fls (ns.map .int)] = .rt (.obj 2) [.fls (ns.map .int), .lst (ns.map .int), .lst [.obj 1, .int 0, .int 0, .int s]] := rfl
    simp only [dFn, List.length_cons, List.length_nil, if_true, List.map_cons, List.map_nil, List.cons_append, List.nil_append, List.replicate]
    simp only [sSeq, h1, e, h2]
  rw [e2]
  have e3 : canR 1 [.fls (ns.map .int), .lst (ns.map .int), .lst [.obj 1, .int 0, .int 0, .int s]] [.obj 2] = [0, 2, 1] := by
    unfold canR
    have : objsL [D.obj 2] ++ objsL ((List.take 1 [Ob.fls (ns.map D.int), .lst (ns.map .int), .lst [.obj 1, .int 0, .int 0, .int s]]).map Ob.vals).flatten = [2] := by
      simp [Ob.vals, objsL, D.objs, objsL_ints]
    rw [this]
    show reachF _ (999997 + 1 + 1 + 1) [2] [0] = _
    rw [reachF]
    simp only [List.contains_cons, List.contains_nil]
    simp [Ob.objs, Ob.vals, objsL, D.objs]
    rw [reachF]
    simp [Ob.objs, Ob.vals, objsL_ints, reachF_nil]
  unfold canon
  dsimp only
  rw [e3]
  have e4 : canOk 1 [.fls (ns.map .int), .lst (ns.map .int), .lst [.obj 1, .int 0, .int 0, .int s]] [.obj 2] = true := by
    unfold canOk
    rw [e3]
    simp [closB, nodB, Ob.objs, Ob.vals, subB, objsL, D.objs, objsL_ints]
  rw [if_pos e4]
  have i2 : idx [0, 2, 1] 2 = 1 := by decide +kernel
  have i1 : idx [0, 2, 1] 1 = 2 := by decide +kernel
  simp [Gv.sel, nthO, Ob.ren, renL, D.ren, renL_ints, i1, i2]
end Gv
namespace Gv
open PySem

/-! ### plain data: no bools, no objects -/
mutual
def D.pl : D → Bool
  | .non => true
  | .int _ => true
  | .str x => PyData.strOk x
  | .tup xs => plL xs
  | _ => false
def plL : List D → Bool
  | [] => true
  | x :: xs => x.pl && plL xs
end
mutual
def D.dp : D → Nat
  | .tup xs => dpL xs + 1
  | _ => 0
def dpL : List D → Nat
  | [] => 0
  | x :: xs => max x.dp (dpL xs)
end
mutual
theorem pd_pl : ∀ d : D, d.pl = true → ∃ p, pd d = some p ∧ p.canLay0 = true ∧ p.depth ≤ d.dp
  | .non, _ => ⟨_, rfl, by simp [PyData.canLay0], by simp [PyData.depth]⟩
  | .int i, _ => ⟨_, rfl, by simp [PyData.canLay0], by simp [PyData.depth]⟩
  | .str x, h => ⟨_, rfl, by simpa [PyData.canLay0, D.pl] using h, by simp [PyData.depth]⟩
  | .tup xs, h => by
    obtain ⟨ps, e, h1, h2⟩ := pds_pl xs (by simpa [D.pl] using h)
    exact ⟨.tuple ps, by simp [pd, e], by simpa [PyData.canLay0] using h1, by simp only [PyData.depth, D.dp]; omega⟩
  | .bl _, h => by simp [D.pl] at h
  | .obj _, h => by simp [D.pl] at h
theorem pds_pl : ∀ ds : List D, plL ds = true → ∃ ps, pds ds = some ps ∧ PyData.canLayAll0 ps = true ∧ PyData.depthAll ps ≤ dpL ds
  | [], _ => ⟨[], rfl, by simp [PyData.canLayAll0], by simp [PyData.depthAll]⟩
  | d :: ds, h => by
    simp only [plL, Bool.and_eq_true] at h
    obtain ⟨p, e, h1, h2⟩ := pd_pl d h.1
    obtain ⟨ps, e', h1', h2'⟩ := pds_pl ds h.2
    exact ⟨p :: ps, by simp [pds, e, e'], by simp [PyData.canLayAll0, h1, h1'], by simp only [PyData.depthAll, dpL]; omega⟩
end
mutual
theorem eqv_pl : ∀ (d e : D) (p q : PyData), d.pl = true → e.pl = true → pd d = some p → pd e = some q → PyData.eqv p q = beqD d e
  | .non, e, p, q, h, h', e1, e2 => by
    cases e1
    cases e <;> simp [D.pl] at h' <;> simp [pd] at e2
    · subst e2; simp [PyData.eqv, beqD]
    · subst e2; simp [PyData.eqv, beqD]
    · subst e2; simp [PyData.eqv, beqD]
    · obtain ⟨ps, _, rfl⟩ := e2; simp [PyData.eqv, beqD]
  | .int i, e, p, q, h, h', e1, e2 => by
    cases e1
    cases e <;> simp [D.pl] at h' <;> simp [pd] at e2
    · subst e2; simp [PyData.eqv, beqD]
    · subst e2; simp [PyData.eqv, beqD]
    · subst e2; simp [PyData.eqv, beqD]
    · obtain ⟨ps, _, rfl⟩ := e2; simp [PyData.eqv, beqD]
  | .str x, e, p, q, h, h', e1, e2 => by
    cases e1
    cases e <;> simp [D.pl] at h' <;> simp [pd] at e2
    · subst e2; simp [PyData.eqv, beqD]
    · subst e2; simp [PyData.eqv, beqD]
    · subst e2; rename_i y; simp only [PyData.eqv, beqD]; by_cases z : x = y <;> simp [z]
    · obtain ⟨ps, _, rfl⟩ := e2; simp [PyData.eqv, beqD]
  | .tup xs, e, p, q, h, h', e1, e2 => by
    simp only [pd] at e1
    cases ex : pds xs with
    | none => rw [ex] at e1; cases e1
    | some ps =>
      rw [ex] at e1
      cases e1
      cases e with
      | tup ys =>
        simp only [pd] at e2
        cases ey : pds ys with
        | none => rw [ey] at e2; cases e2
        | some qs =>
          rw [ey] at e2
          cases e2
          simp only [PyData.eqv, beqD]
          exact eqvs_pl xs ys ps qs (by simpa [D.pl] using h) (by simpa [D.pl] using h') ex ey
      | non => simp [pd] at e2; subst e2; simp [PyData.eqv, beqD]
      | int i => simp [pd] at e2; subst e2; simp [PyData.eqv, beqD]
      | str i => simp [pd] at e2; subst e2; simp [PyData.eqv, beqD]
      | bl i => simp [D.pl] at h'
      | obj i => simp [D.pl] at h'
  | .bl _, _, _, _, h, _, _, _ => by simp [D.pl] at h
  | .obj _, _, _, _, h, _, _, _ => by simp [D.pl] at h
theorem eqvs_pl : ∀ (ds es : List D) (ps qs : List PyData), plL ds = true → plL es = true → pds ds = some ps → pds es = some qs → PyData.eqvAll ps qs = beqDs ds es
  | [], es, ps, qs, h, h', e1, e2 => by
    cases e1
    cases es with
    | nil => cases e2; simp [PyData.eqvAll, beqDs]
    | cons e es =>
      simp only [pds] at e2
      split at e2
      · cases e2; simp [PyData.eqvAll, beqDs]
      · cases e2
  | d :: ds, es, ps, qs, h, h', e1, e2 => by
    simp only [plL, Bool.and_eq_true] at h
    simp only [pds] at e1
    split at e1
    · rename_i p pr ep epr
      cases e1
      cases es with
      | nil => cases e2; simp [PyData.eqvAll, beqDs]
      | cons e es =>
        simp only [plL, Bool.and_eq_true] at h'
        simp only [pds] at e2
        split at e2
        · rename_i q qr eq eqr
          cases e2
          simp only [PyData.eqvAll, beqDs, eqv_pl d e p q h.1 h'.1 ep eq, eqvs_pl ds es pr qr h.2 h'.2 epr eqr]
        · cases e2
    · cases e1
end
theorem shaped_pl {d : D} {p : PyData} (h : d.pl = true) (hd : d.dp ≤ 64) (e : pd d = some p) : SeqAt.shaped p = true := by
  obtain ⟨q, e', h1, h2⟩ := pd_pl d h
  rw [e] at e'
  cases e'
  simp only [SeqAt.shaped, Bool.and_eq_true, decide_eq_true_eq]
  exact ⟨h1, by omega⟩
theorem pdS_pl {d : D} (h : d.pl = true) (st : Sto) : pdS st d = pd d := by cases d <;> first | rfl | simp [D.pl] at h
theorem fEqD_pl {x y : D} (neg : Bool) (hx : x.pl = true) (hy : y.pl = true) (dx : x.dp ≤ 64) (dy : y.dp ≤ 64) (st : Sto) : fEqD neg x y st = some (.bl (if neg then !beqD x y else beqD x y), st) := by
  obtain ⟨p, ep, _⟩ := pd_pl x hx
  obtain ⟨q, eq, _⟩ := pd_pl y hy
  unfold fEqD
  rw [pdS_pl hx, pdS_pl hy, ep, eq]
  dsimp only
  rw [if_pos ⟨shaped_pl hx dx ep, shaped_pl hy dy eq⟩, eqv_pl x y p q hx hy ep eq]
theorem fEq_tup {xs ys : List D} (hx : plL xs = true) (hy : plL ys = true) (dx : dpL xs ≤ 63) (dy : dpL ys ≤ 63) (st : Sto) : fEq (.tup xs) (.tup ys) st = some (.bl (beqDs xs ys), st) := by
  have := fEqD_pl (x := .tup xs) (y := .tup ys) false (by simpa [D.pl] using hx) (by simpa [D.pl] using hy) (by simp [D.dp]; omega) (by simp [D.dp]; omega) st
  simpa [fEq, beqD] using this
theorem fNe_tup {xs ys : List D} (hx : plL xs = true) (hy : plL ys = true) (dx : dpL xs ≤ 63) (dy : dpL ys ≤ 63) (st : Sto) : fNe (.tup xs) (.tup ys) st = some (.bl (!beqDs xs ys), st) := by
  have := fEqD_pl (x := .tup xs) (y := .tup ys) true (by simpa [D.pl] using hx) (by simpa [D.pl] using hy) (by simp [D.dp]; omega) (by simp [D.dp]; omega) st
  simpa [fNe, beqD] using this
theorem any_pl : ∀ (xs : List D) (ps : List PyData) (x : D) (p : PyData), plL xs = true → x.pl = true → pds xs = some ps → pd x = some p → (ps.any fun z => PyData.eqv z p) = xs.any fun z => beqD z x
  | [], ps, x, p, _, _, e, _ => by cases e; rfl
  | d :: ds, ps, x, p, h, hx, e, ex => by
    simp only [plL, Bool.and_eq_true] at h
    simp only [pds] at e
    split at e
    · rename_i q qs eq eqs
      cases e
      simp only [List.any_cons, eqv_pl d x q p h.1 hx eq ex, any_pl ds qs x p h.2 hx eqs ex]
    · cases e
theorem fIn_seq {xs : List D} {x : D} (neg : Bool) (hx : x.pl = true) (hxs : plL xs = true) (dx : x.dp ≤ 64) (dxs : dpL xs ≤ 63) {k : Nat} {st : Sto} (e : st[k]? = some (.lst xs)) : fIn neg x (.obj k) st = some (.bl (if neg then !(xs.any fun z => beqD z x) else xs.any fun z => beqD z x), st) := by
  obtain ⟨p, ep, _⟩ := pd_pl x hx
  obtain ⟨ps, eps, h1, h2⟩ := pds_pl xs hxs
  have hs : SeqAt.shaped (.list ps) = true := by
    rw [SeqAt.shaped, Bool.and_eq_true]
    exact ⟨by simpa [PyData.canLay0] using h1, decide_eq_true (by rw [PyData.depth]; omega)⟩
  simp only [fIn, e, ep, eps, shaped_pl hx dx ep, hs, and_self, if_true, any_pl xs ps x p hxs hx eps ep]
theorem fIn_tup {xs : List D} {x : D} (neg : Bool) (hx : x.pl = true) (hxs : plL xs = true) (dx : x.dp ≤ 64) (dxs : dpL xs ≤ 63) (st : Sto) : fIn neg x (.tup xs) st = some (.bl (if neg then !(xs.any fun z => beqD z x) else xs.any fun z => beqD z x), st) := by
  obtain ⟨p, ep, _⟩ := pd_pl x hx
  obtain ⟨ps, eps, h1, h2⟩ := pds_pl xs hxs
  have hs : SeqAt.shaped (.list ps) = true := by
    rw [SeqAt.shaped, Bool.and_eq_true]
    exact ⟨by simpa [PyData.canLay0] using h1, decide_eq_true (by rw [PyData.depth]; omega)⟩
  simp only [fIn, ep, eps, shaped_pl hx dx ep, hs, and_self, if_true, any_pl xs ps x p hxs hx eps ep]
theorem plL_ints (ns : List Int) : plL (ns.map .int) = true := by
  induction ns with
  | nil => rfl
  | cons n ns ih => simp [plL, D.pl, ih]
theorem dpL_ints (ns : List Int) : dpL (ns.map .int) = 0 := by
  induction ns with
  | nil => rfl
  | cons n ns ih => simp [dpL, D.dp, ih]
theorem any_ints (ns : List Int) (x : Int) : ((ns.map D.int).any fun z => beqD z (.int x)) = ns.contains x := by
  induction ns with
  | nil => rfl
  | cons n ns ih =>
    rw [List.map_cons, List.any_cons, ih, List.contains_cons]
    have : beqD (.int n) (.int x) = (x == n) := by
      rw [beqD]
      exact BEq.comm
    rw [this]
theorem beqDs_ints (ns ms : List Int) : beqDs (ns.map .int) (ms.map .int) = decide (ns = ms) := by
  induction ns generalizing ms with
  | nil => cases ms <;> simp [beqDs]
  | cons n ns ih =>
    cases ms with
    | nil => simp [beqDs]
    | cons m ms => rw [Bool.eq_iff_iff]; simp [beqDs, beqD, ih]
theorem intsD_ints (ns : List Int) : intsD (ns.map .int) = some ns := by
  induction ns with
  | nil => rfl
  | cons n ns ih => simp [intsD, ih]
theorem blsD_bls (ns : List Bool) : blsD (ns.map .bl) = some ns := by
  induction ns with
  | nil => rfl
  | cons n ns ih => simp [blsD, ih]
/-! dicts -/
theorem find_map {κ : Type} [DecidableEq κ] (k k' : κ) (v : D) : ∀ kvs : List (κ × D), (kvs.any fun kv => decide (kv.1 = k)) = true → ((kvs.map fun kv => if kv.1 = k then (kv.1, v) else kv).find? fun kv => decide (kv.1 = k')).map (·.2) = if k' = k then some v else (kvs.find? fun kv => decide (kv.1 = k')).map (·.2)
  | [], h => by simp at h
  | (a, b) :: r, h => by
    by_cases ha : a = k
    · subst ha
      by_cases hk : a = k'
      · subst hk; simp
      · have hk' : ¬ k' = a := fun z => hk z.symm
        simp only [List.map_cons, if_true, List.find?_cons, hk, decide_false, if_neg hk']
        by_cases hr : (r.any fun kv => decide (kv.1 = a)) = true
        · rw [find_map a k' v r hr, if_neg hk']
        · have : (r.map fun kv => if kv.1 = a then (kv.1, v) else kv) = r := by
            conv => rhs; rw [← List.map_id r]
            apply List.map_congr_left
            intro x hx
            have : ¬ x.1 = a := fun z => hr (List.any_eq_true.mpr ⟨x, hx, by simpa using z⟩)
            simp [this]
          rw [this]
    · have hr : (r.any fun kv => decide (kv.1 = k)) = true := by simpa [ha] using h
      simp only [List.map_cons, if_neg ha, List.find?_cons]
      by_cases hk : a = k'
      · subst hk
        have : ¬ a = k := ha
        simp [this]
      · simp only [hk, decide_false]
        exact find_map k k' v r hr
theorem valD_put {κ : Type} [DecidableEq κ] (kvs : List (κ × D)) (k k' : κ) (v : D) : valD (putD kvs k v) k' = if k' = k then some v else valD kvs k' := by
  unfold putD
  by_cases h : (kvs.any fun kv => decide (kv.1 = k)) = true
  · rw [if_pos h]
    exact find_map k k' v kvs h
  · rw [if_neg h]
    unfold valD
    rw [List.find?_append]
    by_cases hk : k' = k
    · subst hk
      have : (kvs.find? fun kv => decide (kv.1 = k')) = none := List.find?_eq_none.mpr fun x hx => by
        intro z
        exact h (List.any_eq_true.mpr ⟨x, hx, z⟩)
      rw [this]
      simp
    · have hk' : ¬ k = k' := fun z => hk z.symm
      rw [if_neg hk]
      simp [hk']
theorem putD_len {κ : Type} [DecidableEq κ] (kvs : List (κ × D)) (k : κ) (v : D) : (putD kvs k v).length ≤ kvs.length + 1 := by
  unfold putD
  split
  · simp
  · simp
/-! ### lists that are made: their place does not matter -/
def LE (d : ED) (en : En) (st : Sto) (xs : List D) : Prop := ∃ n ex, d en st = .ok (.obj n) (st ++ ex) ∧ (st ++ ex)[n]? = some (.lst xs) ∧ st.length ≤ n
section
variable {a b : ED} {en : En} {st : Sto} {xs ys : List D}
theorem LE.of_eq (h : LE a en st xs) (e : xs = ys) : LE a en st ys := e ▸ h
theorem LE.add (h1 : LE a en st xs) (h2 : ∀ ex, LE b en (st ++ ex) ys) (hl : xs.length + ys.length ≤ 16777216) : LE (dOp fAdd a b) en st (xs ++ ys) := by
  obtain ⟨n, ex, e1, g1, _⟩ := h1
  obtain ⟨m, ex2, e2, g2, _⟩ := h2 ex
  have g1' : (st ++ ex ++ ex2)[n]? = some (.lst xs) := by
    rw [List.getElem?_append_left (List.getElem?_eq_some_iff.mp g1).1]
    exact g1
  refine ⟨(st ++ ex ++ ex2).length, ex ++ ex2 ++ [.lst (xs ++ ys)], ?_, ?_, by simp only [List.length_append]; omega⟩
  · simp only [dOp, e1, e2, Re.bind_ok, fAdd, g1', g2, if_pos hl, Vr.re_some]
    rw [show st ++ (ex ++ ex2 ++ [Ob.lst (xs ++ ys)]) = (st ++ ex ++ ex2) ++ [.lst (xs ++ ys)] by simp]
  · rw [show st ++ (ex ++ ex2 ++ [Ob.lst (xs ++ ys)]) = (st ++ ex ++ ex2) ++ [.lst (xs ++ ys)] by simp]
    rw [List.getElem?_append_right (Nat.le_refl _), Nat.sub_self]
    rfl
theorem LE.lst {as : AD} (h : as en st = .ok xs st) (hl : xs.length ≤ 16777216) : LE (dLst as) en st xs := by
  refine ⟨st.length, [.lst xs], ?_, by simp, Nat.le_refl _⟩
  simp only [dLst, h, Re.bind_ok, if_pos hl]
theorem LE.map {own : List Nat} {i : ID} {u : UD} {elt : ED} {items : List D} (hi : i en st = .ok ⟨items, none⟩ st) (f : Nat → D)
    (hs : ∀ k d s, items[k]? = some d → ∃ en1, u d (wipeE en own) = some en1 ∧ elt en1 s = .ok (f k) s) (hl : items.length < 16777216) : LE (dLC own i u bYes elt) en st ((List.range items.length).map f) :=
  ⟨st.length, [.lst ((List.range items.length).map f)], dLC_map hi f hs hl, by simp, Nat.le_refl _⟩
/-- over range(n) -/
theorem LE.mapR {own : List Nat} {as : AD} {u : UD} {elt : ED} {n : Nat} (hi : as en st = .ok [.int n] st) (f : Nat → D)
    (hs : ∀ k s, k < n → ∃ en1, u (.int k) (wipeE en own) = some en1 ∧ elt en1 s = .ok (f k) s) (hl : n < 16777216) : LE (dLC own (iRg1 as) u bYes elt) en st ((List.range n).map f) := by
  have h := iRg1_ok hi (by omega) (by omega)
  rw [Int.toNat_natCast] at h
  have := LE.map (own := own) (u := u) (elt := elt) h f (fun k d s hd => by
    obtain ⟨hk, rfl⟩ := rng_at hd
    rw [Int.zero_add]
    exact hs k s hk) (by rw [rng_len]; exact hl)
  rwa [rng_len] at this
/-- over a list that stands -/
theorem LE.maps {own : List Nat} {i : ID} {u : UD} {elt : ED} {items : List D} {j : Nat} {o : Ob} (hi : i en st = .ok ⟨items, some (j, items)⟩ st) (hj : st[j]? = some o) (ho : o.seq = some items) (f : Nat → D)
    (hs : ∀ k d ex, items[k]? = some d → ∃ en1, u d (wipeE en own) = some en1 ∧ elt en1 (st ++ ex) = .ok (f k) (st ++ ex)) (hl : items.length < 16777216) : LE (dLC own i u bYes elt) en st ((List.range items.length).map f) :=
  ⟨st.length, [.lst ((List.range items.length).map f)], dLC_maps hi hj ho f (fun k d acc hd => hs k d _ hd) hl, by simp, Nat.le_refl _⟩
/-- a built-in over such a list, the list dropped -/
theorem LE.call {f : FN} {x : D} (h : LE a en st xs) (hf : ∀ n s, s[n]? = some (.lst xs) → f [.obj n] s = some (x, s)) (hx : x.cl st.length = true) : dGC (dCB f (dCons a dNil)) en st = .ok x st := by
  obtain ⟨n, ex, e, g, _⟩ := h
  simp only [dGC, dCB, dCons, dNil, e, Re.bind_ok, hf n _ g, Vr.re_some]
  exact gc_app hx
theorem LE.set {i : Nat} (h : LE a en st xs) : ∃ n ex, sSet i a en st = .nx (en.set i (some (.obj n))) (st ++ ex) ∧ (st ++ ex)[n]? = some (.lst xs) := by
  obtain ⟨n, ex, e, g, _⟩ := h
  exact ⟨n, ex, by simp only [sSet, e, Re.toS_ok], g⟩
theorem LE.set' {i : Nat} (h : LE a en st xs) : ∃ n ex, sSet i a en st = .nx (en.set i (some (.obj n))) (st ++ ex) ∧ (st ++ ex)[n]? = some (.lst xs) ∧ st.length ≤ n := by
  obtain ⟨n, ex, e, g, l⟩ := h
  exact ⟨n, ex, by simp only [sSet, e, Re.toS_ok], g, l⟩
end
theorem any_at {bs : List Bool} {n : Nat} {s : Sto} (h : s[n]? = some (.lst (bs.map .bl))) : fAny [.obj n] s = some (.bl (bs.any id), s) := by
  simp only [fAny, lstOf, h, Option.bind_some, Ob.seq, blsD_bls, Option.map_some]
theorem all_at {bs : List Bool} {n : Nat} {s : Sto} (h : s[n]? = some (.lst (bs.map .bl))) : fAll [.obj n] s = some (.bl (bs.all id), s) := by
  simp only [fAll, lstOf, h, Option.bind_some, Ob.seq, blsD_bls, Option.map_some]
theorem sum_at {ns : List Int} {n : Nat} {s : Sto} (h : s[n]? = some (.lst (ns.map .int))) : fSum [.obj n] s = some (.int ns.sum, s) := by
  simp only [fSum, lstOf, h, Option.bind_some, Ob.seq, intsD_ints, Option.map_some]
theorem len_at {xs : List D} {n : Nat} {s : Sto} (h : s[n]? = some (.lst xs)) : fLen [.obj n] s = some (.int xs.length, s) := by
  simp only [fLen, h]
theorem tuple_at {xs : List D} {n : Nat} {s : Sto} (h : s[n]? = some (.lst xs)) : fTuple [.obj n] s = some (.tup xs, s) := by
  simp only [fTuple, seqOf, h, Option.bind_some, Ob.seq, Option.map_some]
/-! ### a fresh list as a def's answer -/
theorem canon_list {k : Nat} {s : Sto} {xs : List D} (h : s[k]? = some (.lst xs)) (hx : objsL xs = []) : canon 0 (.ok (.obj k) s) = .ok (.obj 0) [.lst xs] := by
  have e2 : canR 0 s [.obj k] = [k] := by
    unfold canR
    show reachF s (999999 + 1) [k] [] = _
    rw [reachF]
    simp only [List.contains_nil, Bool.false_eq_true, if_false, h, Ob.objs, Ob.vals, hx, List.nil_append]
    exact reachF_nil _ _ _
  have i0 : idx [k] k = 0 := by simp [idx, List.idxOf, List.findIdx, List.findIdx.go]
  have e3 : canOk 0 s [.obj k] = true := by
    unfold canOk
    rw [e2]
    simp [closB, nodB, h, Ob.objs, Ob.vals, subB, objsL, D.objs, hx]
  unfold canon
  dsimp only
  rw [if_pos e3, e2]
  simp [Gv.sel, nthO, h, Ob.ren, renL_data _ xs hx, D.ren, i0]
theorem callX_list {f : FnD} {xs ys : List D} (h : f xs [] = .ok (.obj 0) [.lst ys]) (hx : objsL xs = []) (hy : objsL ys = []) (st : Sto) : callX f xs st = .ok (.obj st.length) (st ++ [.lst ys]) := by
  unfold callX
  rw [hx, reachF_nil]
  have e : (closB st [] && mutB st [] && subB [] []) = true := rfl
  rw [if_pos e, renL_data _ xs hx, show Gv.sel st [] = [] from rfl, h]
  show Re.ok ((D.obj 0).ren _) (merge st [.lst ys] []) = _
  have w : wrB [.lst ys] st.length [] 0 st = st := by
    have : ∀ (i : Nat) (t : Sto), wrB [.lst ys] st.length [] i t = t := fun i t => by
      induction t generalizing i with
      | nil => rfl
      | cons o t ih => rw [wrB, ih]; rfl
    exact this 0 st
  unfold merge
  rw [w]
  simp [D.ren, upI, Ob.ren, renL_data _ ys hy]
theorem list_rt {n ar k : Nat} {body : SD} {ds : List D} {s : Sto} {xs : List D} (hl : ds.length = ar) (h : body (ds.map some ++ List.replicate (n - ar) none) [] = .rt (.obj k) s) (hs : s[k]? = some (.lst xs)) (hx : objsL xs = []) : dFc n ar body ds [] = .ok (.obj 0) [.lst xs] := by
  show canon 0 (dFn n ar body ds []) = _
  rw [fn_rt hl h]
  exact canon_list hs hx
/-! ### the law's store: the script, the drawer, what was made -/
structure LS (ns : List Int) (S : Sto) : Prop where
  scr : S[0]? = some (.fls (ns.map .int))
  dr : DS S 1 2
section
variable {ns : List Int} {S : Sto}
theorem LS.app (h : LS ns S) (ex : Sto) : LS ns (S ++ ex) := by
  have key : ∀ {i : Nat} {o : Ob}, S[i]? = some o → (S ++ ex)[i]? = some o := fun {i o} e => by
    rw [List.getElem?_append_left (List.getElem?_eq_some_iff.mp e).1]
    exact e
  obtain ⟨p, g, s, c, h1, h2, h3⟩ := h.dr.ex
  exact ⟨key h.scr, ⟨p, g, s, c, h1, key h2, key h3⟩⟩
theorem LS.setAt (h : LS ns S) {i : Nat} {o : Ob} (hi : ∃ S0 ex, S = S0 ++ ex ∧ LS ns S0 ∧ S0.length ≤ i) : LS ns (S.set i o) := by
  obtain ⟨S0, ex, rfl, h0, hl⟩ := hi
  rw [List.set_append_right _ _ hl]
  exact h0.app _
/-- a draw -/
theorem LS.draw (h : LS ns S) {m : Int} (hm : 0 < m) (hm2 : m < 1073741824) : ∃ (r : Nat) (S' : Sto), callX b_take [.obj 1, .int m] S = .ok (.int r) S' ∧ (r : Int) < m ∧ LS ns S' ∧ S'.length = S.length ∧ ∀ i, i ≠ 1 → S'[i]? = S[i]? := by
  obtain ⟨r, o, e, h0, h1, hd⟩ := Gv.draw h.dr hm hm2
  obtain ⟨n, rfl⟩ := Int.eq_ofNat_of_zero_le h0
  exact ⟨n, _, e, h1, ⟨by rw [List.getElem?_set_ne (by decide)]; exact h.scr, hd⟩, List.length_set, fun i hi => List.getElem?_set_ne (Ne.symm hi)⟩
theorem LS.set {en : En} {a : AD} {i : Nat} {m : Int} (h : LS ns S) (ha : a en S = .ok [.obj 1, .int m] S) (hm : 0 < m) (hm2 : m < 1073741824) :
    ∃ (r : Nat) (S' : Sto), sSet i (dX b_take a) en S = .nx (en.set i (some (.int r))) S' ∧ (r : Int) < m ∧ LS ns S' ∧ S'.length = S.length ∧ ∀ i, i ≠ 1 → S'[i]? = S[i]? := by
  obtain ⟨r, S', e, q⟩ := h.draw hm hm2
  exact ⟨r, S', by simp only [sSet, dX, ha, Re.bind_ok, e, Re.toS_ok], q⟩
/-- the end of the law -/
theorem LS.fin (h : LS ns S) : ∃ s, canon 1 (.ok (.bl true) S) = .ok (.bl true) s := by
  have e2 : canR 1 S [.bl true] = [0] := by
    unfold canR
    have : (S.take 1).map Ob.vals = [ns.map D.int] := by
      cases S with
      | nil => cases h.scr
      | cons o S => cases h.scr; rfl
    rw [this]
    have e1 : objsL [D.bl true] ++ objsL ([ns.map D.int]).flatten = [] := by simp [objsL, D.objs, objsL_ints]
    rw [e1]
    exact reachF_nil _ _ _
  have e3 : canOk 1 S [.bl true] = true := by
    unfold canOk
    rw [e2]
    have hl : 1 ≤ S.length := by
      have := (List.getElem?_eq_some_iff.mp h.scr).1
      omega
    have hc : closB S [0] = true := by
      simp only [closB, nodB, List.contains_nil, Bool.not_false, Bool.and_self, List.all_cons, List.all_nil, Bool.and_true, Bool.true_and]
      rw [h.scr]
      simp [Ob.objs, Ob.vals, objsL_ints, subB]
    simp [hc, subB, objsL, D.objs, hl]
  exact ⟨_, by unfold canon; dsimp only; rw [if_pos e3]; rfl⟩
theorem begin_law (ns : List Int) {en : En} (h : en[0]? = some (some (.obj 0))) (i : Nat) : ∃ S, sSet i (dCall b_begin (dCons (dV 0) dNil)) en [.fls (ns.map .int)] = .nx (en.set i (some (.obj 1))) S ∧ LS ns S ∧ S.length = 3 := by
  obtain ⟨s, e⟩ := begin_ok ns
  refine ⟨[.fls (ns.map .int), .lst [.obj 2, .int 0, .int 0, .int s], .lst (ns.map .int)], ?_, ⟨rfl, ⟨0, 0, s, ns, by decide, rfl, rfl⟩⟩, rfl⟩
  simp only [sSet, dCall, dCons, dV, dNil, h, Re.bind_ok, e]
  rfl
end
end Gv
namespace Gv
open PySem

/-! ### calls that write one object of the part they reach -/
mutual
theorem ren_ren (f g : Nat → Nat) : ∀ d : D, (∀ i ∈ d.objs, g (f i) = i) → (d.ren f).ren g = d
  | .non, _ => rfl
  | .bl _, _ => rfl
  | .int _, _ => rfl
  | .str _, _ => rfl
  | .tup xs, h => by rw [D.ren, D.ren, renL_ren f g xs (by simpa [D.objs] using h)]
  | .obj i, h => by rw [D.ren, D.ren, h i (by simp [D.objs])]
theorem renL_ren (f g : Nat → Nat) : ∀ ds : List D, (∀ i ∈ objsL ds, g (f i) = i) → renL g (renL f ds) = ds
  | [], _ => rfl
  | d :: ds, h => by rw [renL, renL, ren_ren f g d fun i hi => h i (by simp [objsL, hi]), renL_ren f g ds fun i hi => h i (by simp [objsL, hi])]
end
mutual
theorem ren_same (f : Nat → Nat) : ∀ d : D, (∀ i ∈ d.objs, f i = i) → d.ren f = d
  | .non, _ => rfl
  | .bl _, _ => rfl
  | .int _, _ => rfl
  | .str _, _ => rfl
  | .tup xs, h => by rw [D.ren, renL_same f xs (by simpa [D.objs] using h)]
  | .obj i, h => by rw [D.ren, h i (by simp [D.objs])]
theorem renL_same (f : Nat → Nat) : ∀ ds : List D, (∀ i ∈ objsL ds, f i = i) → renL f ds = ds
  | [], _ => rfl
  | d :: ds, h => by rw [renL, ren_same f d fun i hi => h i (by simp [objsL, hi]), renL_same f ds fun i hi => h i (by simp [objsL, hi])]
end
theorem renK_same {κ : Type} (f : Nat → Nat) : ∀ kvs : List (κ × D), (∀ i ∈ objsL (kvs.map (·.2)), f i = i) → (kvs.map fun p => (p.1, p.2.ren f)) = kvs
  | [], _ => rfl
  | (a, b) :: kvs, h => by
    rw [List.map_cons, renK_same f kvs fun i hi => h i (by simp [objsL, hi]), ren_same f b fun i hi => h i (by simp [objsL, hi])]
theorem Ob.ren_same (f : Nat → Nat) (o : Ob) (h : ∀ i ∈ o.objs, f i = i) : o.ren f = o := by
  cases o with
  | lst xs => exact congrArg Ob.lst (renL_same f xs h)
  | fls xs => exact congrArg Ob.fls (renL_same f xs h)
  | dK kvs => exact congrArg Ob.dK (renK_same f kvs h)
  | dT kvs => exact congrArg Ob.dT (renK_same f kvs h)
theorem renK_ren {κ : Type} (f g : Nat → Nat) : ∀ kvs : List (κ × D), (∀ i ∈ objsL (kvs.map (·.2)), g (f i) = i) → (kvs.map fun p => (p.1, p.2.ren f)).map (fun p => (p.1, p.2.ren g)) = kvs
  | [], _ => rfl
  | (a, b) :: kvs, h => by
    rw [List.map_cons, List.map_cons, renK_ren f g kvs fun i hi => h i (by simp [objsL, hi]), ren_ren f g b fun i hi => h i (by simp [objsL, hi])]
theorem Ob.ren_ren (f g : Nat → Nat) (o : Ob) (h : ∀ i ∈ o.objs, g (f i) = i) : (o.ren f).ren g = o := by
  cases o with
  | lst xs => exact congrArg Ob.lst (renL_ren f g xs h)
  | fls xs => exact congrArg Ob.fls (renL_ren f g xs h)
  | dK kvs => exact congrArg Ob.dK (renK_ren f g kvs h)
  | dT kvs => exact congrArg Ob.dT (renK_ren f g kvs h)
theorem up_idx {R : List Nat} {N i : Nat} (h : i ∈ R) : upI N R (idx R i) = i := by
  simp only [upI, idx_get h]
theorem merge_set {st : Sto} {R : List Nat} {p r : Nat} {o : Ob} (hc : closB st R = true) (hp : R[p]? = some r) : merge st ((sel st R).set p o) R = st.set r (o.ren (upI st.length R)) := by
  obtain ⟨hn, hcl⟩ := clos_get hc
  have hl : (sel st R).length = R.length := by simp [sel]
  have hpl := (List.getElem?_eq_some_iff.mp hp).1
  unfold merge
  have hd : ((sel st R).set p o).drop R.length = [] := List.drop_eq_nil_of_le (by rw [List.length_set, hl]; exact Nat.le_refl _)
  rw [hd, List.map_nil, List.append_nil]
  apply List.ext_getElem?
  intro k
  rw [wrB_get, Nat.zero_add]
  by_cases hk : r = k
  · subst hk
    obtain ⟨u, hu, _⟩ := hcl r (List.mem_of_getElem? hp)
    have hrl := (List.getElem?_eq_some_iff.mp hu).1
    have hm : R.contains r = true := by simpa using List.mem_of_getElem? hp
    rw [List.getElem?_set_self hrl, hu]
    simp only [Option.map_some, hm, if_true, nthO, idx_of hn hp]
    rw [List.getElem?_set_self (by rw [hl]; exact hpl)]
  · rw [List.getElem?_set_ne hk]
    cases e : st[k]? with
    | none => rfl
    | some u =>
      by_cases hm : k ∈ R
      · have hm' : R.contains k = true := by simpa using hm
        have hne : p ≠ idx R k := fun z => by
          have := idx_get hm
          rw [← z, hp] at this
          cases this
          exact hk rfl
        simp only [Option.map_some, hm', if_true, nthO]
        rw [List.getElem?_set_ne hne, sel_get (idx_get hm) e]
        obtain ⟨u', hu', hs⟩ := hcl k hm
        rw [e] at hu'
        cases hu'
        simp only [Ob.ren_ren _ _ u fun i hi => up_idx (hs i hi)]
      · have hm' : R.contains k = false := by simpa using hm
        simp only [Option.map_some, hm', Bool.false_eq_true, if_false]
theorem canon_id {x : D} {s : Sto} {n : Nat} (hn : s.length = n) (hc : closB s (List.range n) = true) (hx : ∀ i ∈ x.objs, i < n) : canon n (.ok x s) = .ok x s := by
  obtain ⟨hnd, hcl⟩ := clos_get hc
  have hin : ∀ k (todo : List Nat), (∀ i ∈ todo, i < n) → reachF s k todo (List.range n) = List.range n := by
    intro k
    induction k with
    | zero => intro todo _; rfl
    | succ k ih =>
      intro todo h
      cases todo with
      | nil => rfl
      | cons i todo =>
        rw [reachF]
        have : (List.range n).contains i = true := by simpa using h i List.mem_cons_self
        rw [if_pos this]
        exact ih todo fun j hj => h j (List.mem_cons_of_mem _ hj)
  have hidx : ∀ i, i < n → idx (List.range n) i = i := fun i hi => idx_of hnd (by rw [List.getElem?_range hi])
  have hv : ∀ i ∈ objsL ((s.take n).map Ob.vals).flatten, i < n := fun i hi => by
    have key : ∀ (l : List (List D)) (i : Nat), i ∈ objsL l.flatten → ∃ xs ∈ l, i ∈ objsL xs := by
      have app : ∀ (a b : List D), objsL (a ++ b) = objsL a ++ objsL b := fun a b => by
        induction a with
        | nil => rfl
        | cons x a ih => rw [List.cons_append, objsL, objsL, ih, List.append_assoc]
      intro l
      induction l with
      | nil => intro i hi; simp [objsL] at hi
      | cons xs l ih =>
        intro i hi
        rw [List.flatten_cons, app] at hi
        rcases List.mem_append.mp hi with h | h
        · exact ⟨xs, List.mem_cons_self, h⟩
        · obtain ⟨ys, h1, h2⟩ := ih i h
          exact ⟨ys, List.mem_cons_of_mem _ h1, h2⟩
    obtain ⟨xs, h1, h2⟩ := key _ i hi
    obtain ⟨o, ho, rfl⟩ := List.mem_map.mp h1
    obtain ⟨j, hj⟩ := List.getElem?_of_mem ho
    have hjn : j < n := by
      have := (List.getElem?_eq_some_iff.mp hj).1
      rw [List.length_take] at this
      omega
    rw [List.getElem?_take_of_lt hjn] at hj
    obtain ⟨u, hu, hs⟩ := hcl j (List.mem_range.mpr hjn)
    rw [hj] at hu
    cases hu
    exact List.mem_range.mp (hs i h2)
  have hobj : ∀ i ∈ objsL [x], i < n := fun i hi => hx i (by simpa [objsL] using hi)
  have e2 : canR n s [x] = List.range n := hin _ _ fun i hi => by
    rcases List.mem_append.mp hi with h | h
    · exact hobj i h
    · exact hv i h
  have e3 : canOk n s [x] = true := by
    unfold canOk
    rw [e2]
    have : subB (objsL [x]) (List.range n) = true := by
      unfold subB
      rw [List.all_eq_true]
      intro i hi
      simpa using hobj i hi
    simp only [hc, this, hn, Nat.le_refl, decide_true, Bool.and_self]
  have hsel : sel s (List.range n) = s := by
    apply List.ext_getElem?
    intro k
    by_cases hk : k < n
    · obtain ⟨u, hu, hs⟩ := hcl k (List.mem_range.mpr hk)
      rw [sel_get (List.getElem?_range hk) hu, hu, Ob.ren_same _ u fun i hi => hidx i (List.mem_range.mp (hs i hi))]
    · rw [List.getElem?_eq_none (by simp [sel]; omega), List.getElem?_eq_none (by omega)]
  unfold canon
  dsimp only
  rw [if_pos e3, e2, hsel, ren_same _ x fun i hi => hidx i (hx i hi)]
end Gv
namespace Gv
open PySem

/-- a table's check -/
def isR (r : Re D) (x : D) : Bool := match r with
  | .ok y s => beqD y x && s.isEmpty
  | _ => false
theorem isR_eq {r : Re D} {x : D} (h : isR r x = true) : r = .ok x [] := by
  cases r with
  | ok y s =>
    simp only [isR, Bool.and_eq_true, List.isEmpty_iff] at h
    rw [beqD_eq h.1, h.2]
  | er e s => cases h
  | no => cases h
/-! ### whole numbers -/
theorem f_xor (a b : Nat) (st : Sto) : fXor (.int a) (.int b) st = some (.int (a ^^^ b : Nat), st) := by
  simp only [fXor, fInt]
  rw [Bits.bitXor_pp (Int.natCast_nonneg a) (Int.natCast_nonneg b), Int.toNat_natCast, Int.toNat_natCast]
theorem f_add (a b : Nat) (st : Sto) : fAdd (.int a) (.int b) st = some (.int (a + b : Nat), st) := by
  simp [fAdd]
theorem f_div {a b : Nat} (h : 0 < b) (h2 : b < 1073741824) (st : Sto) : fDiv (.int a) (.int b) st = some (.int (a / b : Nat), st) := by
  have h1 : (decide ((0 : Int) < b) && decide ((b : Int) < 1073741824)) = true := by simp; omega
  simp only [fDiv, fIntC, h1, if_true, Int.natCast_ediv]
theorem f_mod {a b : Nat} (h : 0 < b) (st : Sto) : fMod (.int a) (.int b) st = some (.int (a % b : Nat), st) := by
  have h1 : decide ((0 : Int) < b) = true := by simp; omega
  simp only [fMod, fIntC, h1, if_true, Int.natCast_emod]
theorem f_mul {a b : Nat} (h : a < 18446744073709551616 ∨ b < 18446744073709551616) (st : Sto) : fMul (.int a) (.int b) st = some (.int (a * b : Nat), st) := by
  have h1 : cMul (a : Int) b = true := by simpa [cMul] using h
  simp only [fMul, h1, if_true, Int.natCast_mul]
theorem f_ge (a b : Nat) (st : Sto) : fGe (.int a) (.int b) st = some (.bl (decide (b ≤ a)), st) := by
  simp only [fGe, fInt, Int.ofNat_le]
theorem f_le (a b : Nat) (st : Sto) : fLe (.int a) (.int b) st = some (.bl (decide (a ≤ b)), st) := by
  simp only [fLe, fInt, Int.ofNat_le]
theorem f_lt (a b : Nat) (st : Sto) : fLt (.int a) (.int b) st = some (.bl (decide (a < b)), st) := by
  simp only [fLt, fInt, Int.ofNat_lt]
theorem f_gt (a b : Nat) (st : Sto) : fGt (.int a) (.int b) st = some (.bl (decide (b < a)), st) := by
  simp only [fGt, fInt, Int.ofNat_lt]
theorem f_eq (a b : Nat) (st : Sto) : fEq (.int a) (.int b) st = some (.bl (decide (a = b)), st) := by
  simp only [fEq, Int.ofNat_inj]
theorem f_ne (a b : Nat) (st : Sto) : fNe (.int a) (.int b) st = some (.bl (!decide (a = b)), st) := by
  simp only [fNe, Int.ofNat_inj]
/-- lists of whole numbers -/
def natD (xs : List Nat) : List D := xs.map fun (x : Nat) => D.int x
theorem natD_eq (xs : List Nat) : natD xs = (xs.map fun (x : Nat) => (x : Int)).map D.int := by simp [natD, Function.comp_def]
theorem natD_len (xs : List Nat) : (natD xs).length = xs.length := by simp [natD]
theorem natD_get {xs : List Nat} {i x : Nat} (h : xs[i]? = some x) : (natD xs)[i]? = some (.int x) := by simp [natD, h]
theorem natD_app (xs ys : List Nat) : natD (xs ++ ys) = natD xs ++ natD ys := by simp [natD]
theorem objsL_nat (xs : List Nat) : objsL (natD xs) = [] := by rw [natD_eq]; exact objsL_ints _
theorem plL_nat (xs : List Nat) : plL (natD xs) = true := by rw [natD_eq]; exact plL_ints _
theorem dpL_nat (xs : List Nat) : dpL (natD xs) = 0 := by rw [natD_eq]; exact dpL_ints _
theorem any_nat (xs : List Nat) (x : Nat) : ((natD xs).any fun z => beqD z (.int x)) = xs.contains x := by
  rw [natD_eq, Gv.any_ints, Bool.eq_iff_iff]
  simp only [List.contains_iff_mem, List.mem_map]
  constructor
  · rintro ⟨y, h, e⟩
    rwa [show x = y by omega]
  · intro h
    exact ⟨x, h, rfl⟩
theorem beqDs_nat (xs ys : List Nat) : beqDs (natD xs) (natD ys) = decide (xs = ys) := by
  rw [natD_eq, natD_eq, beqDs_ints, Bool.eq_iff_iff, decide_eq_true_iff, decide_eq_true_iff]
  constructor
  · intro h
    exact List.map_inj_right (fun a b e => by omega) |>.mp h
  · intro h
    rw [h]
theorem f_in {xs : List Nat} {k : Nat} {st : Sto} (neg : Bool) (e : st[k]? = some (.lst (natD xs))) (x : Nat) : fIn neg (.int x) (.obj k) st = some (.bl (if neg then !(xs.contains x) else xs.contains x), st) := by
  rw [fIn_seq neg rfl (plL_nat xs) (by simp [D.dp]) (by rw [dpL_nat]; decide) e, any_nat]
theorem f_inT (xs : List Nat) (neg : Bool) (x : Nat) (st : Sto) : fIn neg (.int x) (.tup (natD xs)) st = some (.bl (if neg then !(xs.contains x) else xs.contains x), st) := by
  rw [fIn_tup neg rfl (plL_nat xs) (by simp [D.dp]) (by rw [dpL_nat]; decide) st, any_nat]
theorem f_ix {xs : List Nat} {k i x : Nat} {st : Sto} (e : st[k]? = some (.lst (natD xs))) (h : xs[i]? = some x) : fIx (.obj k) (.int i) st = some (.int x, st) := by
  simp only [fIx, e, L2.atI_nat (natD_get h), Option.map_some]
theorem f_ixT {xs : List Nat} {i x : Nat} (h : xs[i]? = some x) (st : Sto) : fIx (.tup (natD xs)) (.int i) st = some (.int x, st) := by
  simp only [fIx, L2.atI_nat (natD_get h), Option.map_some]
/-! ### menu[draw] -/
def b_pick : FnD := dFc 2 2 (sRet (dOp fIx (dV 1) (dX b_take (dCons (dV 0) (dCons (dCB fLen (dCons (dV 1) dNil)) dNil)))))
theorem pick_st {st : Sto} {i j k : Nat} {xs : List D} (h : DS st i j) (hk : st[k]? = some (.lst xs)) (hki : k ≠ i) (hkj : k ≠ j) (hx : objsL xs = []) (hl : 0 < xs.length) (hl2 : xs.length < 1073741824) :
    ∃ (r : Nat) (x : D) (o : Ob), callX b_pick [.obj i, .obj k] st = .ok x (st.set i o) ∧ xs[r]? = some x ∧ DS (st.set i o) i j := by
  obtain ⟨p, g, s, cells, hij, h1, h2⟩ := h.ex
  -- the part that is reached
  have hR : reachF st 1000000 [i, k] [] = [i, j, k] := by
    show reachF st (999996 + 1 + 1 + 1 + 1) [i, k] [] = _
    have c1 : ([i].contains j) = false := by simp; omega
    have c2 : ([i, j].contains k) = false := by simp; omega
    rw [reachF]
    simp only [List.contains_nil, Bool.false_eq_true, if_false, h1, Ob.objs, Ob.vals, objsL, D.objs, List.nil_append, List.append_nil, List.cons_append]
    rw [reachF]
    simp only [c1, Bool.false_eq_true, if_false, h2, Ob.objs, Ob.vals, objsL_ints, List.nil_append, List.cons_append]
    rw [reachF]
    simp only [c2, Bool.false_eq_true, if_false, hk, Ob.objs, Ob.vals, hx, List.nil_append, List.cons_append]
    exact reachF_nil _ _ _
  have n1 : (i == j) = false := by simpa using hij
  have n2 : (i == k) = false := by simpa using hki.symm
  have n3 : (j == k) = false := by simpa using hkj.symm
  have c1 : (closB st [i, j, k] && mutB st [i, j, k] && subB [i, k] [i, j, k]) = true := by
    simp [closB, nodB, mutB, subB, h1, h2, hk, Ob.objs, Ob.vals, objsL, D.objs, objsL_ints, hx, Ob.muB, n1, n2, n3, hij, Ne.symm hki, Ne.symm hkj]
  have hc : closB st [i, j, k] = true := by
    simp only [Bool.and_eq_true] at c1
    exact c1.1.1
  have i0 : idx [i, j, k] i = 0 := idx_of (clos_get hc).1 rfl
  have i1 : idx [i, j, k] j = 1 := idx_of (clos_get hc).1 rfl
  have i2 : idx [i, j, k] k = 2 := idx_of (clos_get hc).1 rfl
  have hs : sel st [i, j, k] = [.lst [.obj 1, .int p, .int g, .int s], .lst (cells.map .int), .lst xs] := by
    simp [sel, nthO, h1, h2, hk, Ob.ren, renL, D.ren, renL_ints, renL_data _ xs hx, i1]
  have hd : DS (sel st [i, j, k]) 0 1 := by
    rw [hs]
    exact ⟨p, g, s, cells, by decide, rfl, rfl⟩
  obtain ⟨r, o, e, r0, r1, hd'⟩ := draw hd (m := xs.length) (by omega) (by omega)
  obtain ⟨n, rfl⟩ := Int.eq_ofNat_of_zero_le r0
  have hn : n < xs.length := by omega
  obtain ⟨p', g', s', cells', hij', h1', h2'⟩ := hd'.ex
  have ho : o = .lst [.obj 1, .int p', .int g', .int s'] := by
    rw [List.getElem?_set_self (by rw [hs]; simp)] at h1'
    exact Option.some.inj h1'
  have hm2 : ((sel st [i, j, k]).set 0 o)[2]? = some (.lst xs) := by
    rw [List.getElem?_set_ne (by decide), hs]
    rfl
  have hcl : closB ((sel st [i, j, k]).set 0 o) (List.range 3) = true := by
    rw [hs, ho]
    show closB [.lst [.obj 1, .int p', .int g', .int s'], .lst (cells.map .int), .lst xs] [0, 1, 2] = true
    simp [closB, nodB, Ob.objs, Ob.vals, objsL, D.objs, objsL_ints, hx, subB]
  have hxo : ∀ (l : List D) (y : D), objsL l = [] → y ∈ l → y.objs = [] := fun l => by
    induction l with
    | nil => intro y _ h; cases h
    | cons z l ih =>
      intro y h1 h2
      simp only [objsL, List.append_eq_nil_iff] at h1
      rcases List.mem_cons.mp h2 with rfl | h2
      · exact h1.1
      · exact ih y h1.2 h2
  have hxn := hxo xs xs[n] hx (List.getElem_mem hn)
  have hlen : fLen [.obj 2] (sel st [i, j, k]) = some (.int xs.length, sel st [i, j, k]) := by
    rw [hs]
    rfl
  have run : b_pick [.obj 0, .obj 2] (sel st [i, j, k]) = .ok xs[n] ((sel st [i, j, k]).set 0 o) := by
    have hl3 : (sel st [i, j, k]).length = 3 := by rw [hs]; rfl
    have body : dFn 2 2 (sRet (dOp fIx (dV 1) (dX b_take (dCons (dV 0) (dCons (dCB fLen (dCons (dV 1) dNil)) dNil))))) [.obj 0, .obj 2] (sel st [i, j, k]) = .ok xs[n] ((sel st [i, j, k]).set 0 o) := by
      refine fn_rt rfl (s_ret (v_op (x := .obj 2) (s1 := sel st [i, j, k]) rfl (v_X (v_cons (x := .obj 0) rfl (v_cons (v_cb (xs := [.obj 2]) rfl hlen) v_nil)) e) ?_))
      simp only [fIx, hm2, L2.atI_nat (List.getElem?_eq_getElem hn), Option.map_some]
    show canon (sel st [i, j, k]).length (dFn 2 2 _ _ _) = _
    rw [body, hl3]
    exact canon_id (by rw [List.length_set, hl3]) hcl fun q hq => by rw [hxn] at hq; cases hq
  refine ⟨n, xs[n], o.ren (upI st.length [i, j, k]), ?_, List.getElem?_eq_getElem hn, ?_⟩
  · unfold callX
    have eR : objsL [.obj i, .obj k] = [i, k] := rfl
    rw [eR, hR]
    dsimp only
    have e3 : renL (idx [i, j, k]) [.obj i, .obj k] = [.obj 0, .obj 2] := by simp [renL, D.ren, i0, i2]
    rw [if_pos c1, e3, run]
    dsimp only
    rw [ren_data _ _ hxn, merge_set hc (p := 0) (r := i) rfl]
  · refine ⟨p', g', s', cells, hij, ?_, by rw [List.getElem?_set_ne hij]; exact h2⟩
    rw [List.getElem?_set_self (List.getElem?_eq_some_iff.mp h1).1, ho]
    simp [Ob.ren, renL, D.ren, upI]
theorem LS.pick {ns : List Int} {S : Sto} {k : Nat} {xs : List D} (h : LS ns S) (hk : S[k]? = some (.lst xs)) (h3 : 3 ≤ k) (hx : objsL xs = []) (hl : 0 < xs.length) (hl2 : xs.length < 1073741824) :
    ∃ (r : Nat) (x : D) (S' : Sto), callX b_pick [.obj 1, .obj k] S = .ok x S' ∧ xs[r]? = some x ∧ LS ns S' ∧ S'.length = S.length ∧ ∀ i, i ≠ 1 → S'[i]? = S[i]? := by
  obtain ⟨r, x, o, e, e2, hd⟩ := pick_st h.dr hk (by omega) (by omega) hx hl hl2
  exact ⟨r, x, _, e, e2, ⟨by rw [List.getElem?_set_ne (by decide)]; exact h.scr, hd⟩, List.length_set, fun i hi => List.getElem?_set_ne (Ne.symm hi)⟩
end Gv
namespace Gv
open PySem

/-! ### defs that read one list of data -/
theorem sto_set_same {st : Sto} {k : Nat} {o : Ob} (h : st[k]? = some o) : st.set k o = st := by
  apply List.ext_getElem?
  intro i
  by_cases e : k = i
  · subst e
    rw [List.getElem?_set_self (List.getElem?_eq_some_iff.mp h).1, h]
  · rw [List.getElem?_set_ne e]
theorem idx_one (k : Nat) : idx [k] k = 0 := by simp [idx, List.idxOf, List.findIdx, List.findIdx.go]
theorem callX_ro {f : FnD} {args args' : List D} {st : Sto} {k : Nat} {xs : List D} {x : D} (hk : st[k]? = some (.lst xs)) (hx : objsL xs = []) (ha : objsL args = [k]) (hr : renL (idx [k]) args = args') (hf : f args' [.lst xs] = .ok x [.lst xs]) (hd : x.objs = []) : callX f args st = .ok x st := by
  have hR : reachF st 1000000 [k] [] = [k] := by
    show reachF st (999999 + 1) [k] [] = _
    rw [reachF]
    simp only [List.contains_nil, Bool.false_eq_true, if_false, hk, Ob.objs, Ob.vals, hx, List.nil_append]
    exact reachF_nil _ _ _
  have c1 : (closB st [k] && mutB st [k] && subB [k] [k]) = true := by
    simp [closB, nodB, mutB, subB, hk, Ob.objs, Ob.vals, hx, Ob.muB]
  have hc : closB st [k] = true := by
    simp only [Bool.and_eq_true] at c1
    exact c1.1.1
  have hs : sel st [k] = [.lst xs] := by
    simp [sel, nthO, hk, Ob.ren, renL_data _ xs hx]
  unfold callX
  rw [ha, hR]
  dsimp only
  rw [if_pos c1, hr, hs, hf]
  dsimp only
  rw [ren_data _ x hd]
  have hm := merge_set (o := .lst xs) hc (p := 0) (r := k) rfl
  rw [hs] at hm
  have e : ([Ob.lst xs] : Sto).set 0 (.lst xs) = [.lst xs] := rfl
  rw [e] at hm
  rw [hm]
  have e2 : (Ob.lst xs).ren (upI st.length [k]) = .lst xs := by simp [Ob.ren, renL_data _ xs hx]
  rw [e2, sto_set_same hk]
/-- its answer in order: the list as it was, garbage behind it -/
theorem canon_ro {x : D} {xs : List D} {ex : Sto} (hx : objsL xs = []) (hd : x.objs = []) : canon 1 (.ok x (.lst xs :: ex)) = .ok x [.lst xs] := by
  have e1 : objsL [x] = [] := by simp [objsL, hd]
  have e2 : canR 1 (.lst xs :: ex) [x] = [0] := by
    unfold canR
    rw [e1]
    have : objsL (((Ob.lst xs :: ex).take 1).map Ob.vals).flatten = [] := by simp [Ob.vals, hx]
    rw [this]
    exact reachF_nil _ _ _
  have e3 : canOk 1 (.lst xs :: ex) [x] = true := by
    unfold canOk
    rw [e2, e1]
    simp [closB, nodB, Ob.objs, Ob.vals, hx, subB]
  unfold canon
  dsimp only
  rw [if_pos e3, e2, ren_data _ x hd]
  simp [sel, nthO, Ob.ren, renL_data _ xs hx]
theorem ro_rt {n ar : Nat} {body : SD} {ds xs : List D} {ex : Sto} {d : D} (hl : ds.length = ar) (h : body (ds.map some ++ List.replicate (n - ar) none) [.lst xs] = .rt d (.lst xs :: ex)) (hx : objsL xs = []) (hd : d.objs = []) : dFc n ar body ds [.lst xs] = .ok d [.lst xs] := by
  show canon 1 (dFn n ar body ds [.lst xs]) = _
  rw [fn_rt hl h]
  exact canon_ro hx hd
/-! ### the least that is missing -/
def mexF (xs : List Nat) : Nat → Nat → Nat
  | 0, n => n
  | f + 1, n => if xs.contains n then mexF xs f (n + 1) else n
def mex (xs : List Nat) : Nat := mexF xs (xs.length + 1) 0
theorem mexF_out (xs : List Nat) : ∀ f n, (∀ m, m < n → m ∈ xs) → (mexF xs f n ∉ xs ∨ ∀ m, m < n + f → m ∈ xs) ∧ ∀ m, m < mexF xs f n → m ∈ xs
  | 0, n, h => ⟨.inr h, h⟩
  | f + 1, n, h => by
    rw [mexF]
    cases hc : xs.contains n with
    | true =>
      simp only [if_true]
      have hn : n ∈ xs := by simpa using hc
      have := mexF_out xs f (n + 1) fun m hm => by
        by_cases e : m = n
        · rw [e]; exact hn
        · exact h m (by omega)
      rwa [show n + 1 + f = n + (f + 1) by omega] at this
    | false =>
      simp only [Bool.false_eq_true, if_false]
      exact ⟨.inl (by simpa using hc), h⟩
theorem mex_below (xs : List Nat) : ∀ m, m < mex xs → m ∈ xs := (mexF_out xs (xs.length + 1) 0 fun m hm => by omega).2
theorem range_len : ∀ (n : Nat) (xs : List Nat), (∀ m, m < n → m ∈ xs) → n ≤ xs.length
  | 0, _, _ => Nat.zero_le _
  | n + 1, xs, h => by
    have := range_len n (xs.erase n) fun m hm => (List.mem_erase_of_ne (by omega)).mpr (h m (by omega))
    rw [List.length_erase_of_mem (h n (by omega))] at this
    have h1 := List.length_pos_of_mem (h n (by omega))
    omega
theorem mex_notin (xs : List Nat) : mex xs ∉ xs := by
  rcases (mexF_out xs (xs.length + 1) 0 fun m hm => by omega).1 with h | h
  · exact h
  · have := range_len (xs.length + 1) xs fun m hm => h m (by omega)
    omega
theorem mex_le (xs : List Nat) : mex xs ≤ xs.length := range_len _ _ (mex_below xs)
theorem mex_unique {xs : List Nat} {n : Nat} (h1 : n ∉ xs) (h2 : ∀ m, m < n → m ∈ xs) : mex xs = n := by
  rcases Nat.lt_trichotomy (mex xs) n with h | h | h
  · exact absurd (h2 _ h) (mex_notin xs)
  · exact h
  · exact absurd (mex_below xs _ h) h1
theorem mex_congr {xs ys : List Nat} (h : ∀ m, m ∈ xs ↔ m ∈ ys) : mex xs = mex ys := mex_unique (fun z => mex_notin ys ((h _).mp z)) fun m hm => (h m).mpr (mex_below ys m hm)
/-- told = 0; while told in values: told = told + 1; return told -/
def b_mex : FnD := dFc 2 1 (sSeq (sSet 1 (dC (.int 0))) (sSeq (sWhile (bCmp (fIn false) (dV 1) (dV 0)) (sSet 1 (dOp fAdd (dV 1) (dC (.int 1))))) (sRet (dV 1))))
theorem mex_run {xs : List Nat} (hl : xs.length < 999999) : b_mex [.obj 0] [.lst (natD xs)] = .ok (.int (mex xs)) [.lst (natD xs)] := by
  have hw : sWhile (bCmp (fIn false) (dV 1) (dV 0)) (sSet 1 (dOp fAdd (dV 1) (dC (.int 1)))) [some (.obj 0), some (.int (0 : Nat))] [.lst (natD xs)] = .nx [some (.obj 0), some (.int (mex xs))] [.lst (natD xs)] := by
    refine sWhile_rule (fun m en st => ∃ n : Nat, n ≤ mex xs ∧ m = mex xs - n ∧ en = [some (.obj 0), some (.int n)] ∧ st = [.lst (natD xs)]) (fun r => r = .nx [some (.obj 0), some (.int (mex xs))] [.lst (natD xs)]) (mex xs) (by have := mex_le xs; omega) ⟨0, Nat.zero_le _, rfl, rfl, rfl⟩ ?_
    rintro m en st ⟨n, hn, rfl, rfl, rfl⟩
    refine ⟨xs.contains n, [.lst (natD xs)], t_cmp (x := .int n) rfl (y := .obj 0) rfl (f_in (xs := xs) false rfl n), fun hb => ?_, fun hb => ?_⟩
    · have : n ∉ xs := by simpa using hb
      rw [show n = mex xs from (mex_unique this fun m hm => mex_below xs m (by omega)).symm]
    · have hin : n ∈ xs := by simpa using hb
      have hlt : n < mex xs := by
        by_cases e : n = mex xs
        · rw [e] at hin; exact absurd hin (mex_notin xs)
        · omega
      exact ⟨_, s_set (v_op (x := .int n) (y := .int (1 : Nat)) rfl rfl (f_add n 1 _)), mex xs - (n + 1), by omega, n + 1, by omega, rfl, rfl, rfl⟩
  exact ro_rt (ex := []) rfl (seq_nx (s_set rfl) (seq_nx hw (s_ret rfl))) (objsL_nat xs) rfl
theorem mex_X {xs : List Nat} {st : Sto} {k : Nat} (hk : st[k]? = some (.lst (natD xs))) (hl : xs.length < 999999) : callX b_mex [.obj k] st = .ok (.int (mex xs)) st :=
  callX_ro hk (objsL_nat xs) rfl (by simp [renL, D.ren, idx_one]) (mex_run hl) rfl
/-! ### sorted rows of whole numbers -/
def rowD (r : List Nat) : D := .tup (natD r)
theorem pd_row (r : List Nat) : pd (rowD r) = some (.tuple ((r.map fun (x : Nat) => (x : Int)).map PyData.int)) := by
  have : ∀ l : List Int, pds (l.map D.int) = some (l.map PyData.int) := fun l => by
    induction l with
    | nil => rfl
    | cons a l ih => simp [pds, pd, ih]
  simp only [rowD, pd, natD_eq, this, Option.map_some]
theorem pdG_row (r : List Nat) : pdG (rowD r) = .tuple ((r.map fun (x : Nat) => (x : Int)).map PyData.int) := by
  rw [pdG, pd_row]
  rfl
theorem sortOk_rows {rows : List (List Nat)} (hne : ∀ r ∈ rows, r ≠ []) (hl : rows.length ≤ 16777216) : sortOk (rows.map rowD) = true := by
  have h1 : allPd (rows.map rowD) = true := by
    unfold allPd
    rw [List.all_eq_true]
    intro d hd
    obtain ⟨r, _, rfl⟩ := List.mem_map.mp hd
    rw [pd_row]
    rfl
  have h2 : alikeB (rows.map rowD) = true := by
    unfold alikeB
    rw [List.all_eq_true]
    intro d hd
    rw [List.all_eq_true]
    intro d' hd'
    obtain ⟨r, _, rfl⟩ := List.mem_map.mp hd
    obtain ⟨r', _, rfl⟩ := List.mem_map.mp hd'
    rw [pdG_row, pdG_row]
    simp only [PySem.W.alike]
    exact PySem.W.alike_ints _ _
  have h3 : (rows.map rowD).all (fun d => tupB (pdG d)) = true := by
    rw [List.all_eq_true]
    intro d hd
    obtain ⟨r, hr, rfl⟩ := List.mem_map.mp hd
    rw [pdG_row]
    cases r with
    | nil => exact absurd rfl (hne [] hr)
    | cons a r => rfl
  have h4 : (rows.map rowD).all (fun d => decide ((pdG d).depth ≤ 60)) = true := by
    rw [List.all_eq_true]
    intro d hd
    obtain ⟨r, hr, rfl⟩ := List.mem_map.mp hd
    rw [pdG_row, PyData.depth, PySem.W.depth_ints]
    decide
  simp only [sortOk, h1, h2, h3, h4, Bool.true_or, Bool.and_self, List.length_map, hl, decide_true]
theorem sorted_rows {rows : List (List Nat)} {k : Nat} {st : Sto} (hne : ∀ r ∈ rows, r ≠ []) (hl : rows.length ≤ 16777216) (hk : st[k]? = some (.lst (rows.map rowD))) :
    ∃ rows' : List (List Nat), rows'.Perm rows ∧ fSorted [.obj k] st = some (.obj st.length, st ++ [.lst (rows'.map rowD)]) := by
  refine ⟨rows.mergeSort (PySem.W.dataLe false fun r => pdG (rowD r)), List.mergeSort_perm _ _, ?_⟩
  have e : sortD (rows.map rowD) = (rows.mergeSort (PySem.W.dataLe false fun r => pdG (rowD r))).map rowD := by
    unfold sortD
    rw [List.map_mergeSort (r := PySem.W.dataLe false fun r => pdG (rowD r)) (s := PySem.W.dataLe false pdG) (f := rowD) (l := rows) (fun a _ b _ => rfl)]
  simp only [fSorted, lstOf, hk, Option.bind_some, Ob.seq]
  rw [if_pos (sortOk_rows hne hl), e]
theorem objsL_rows (rows : List (List Nat)) : objsL (rows.map rowD) = [] := by
  induction rows with
  | nil => rfl
  | cons r rows ih => simp [objsL, rowD, D.objs, objsL_nat, ih]
end Gv
namespace Gv
open PySem

/-! ### comprehensions of two clauses, elements that leave the store as it is -/
theorem inner_pure {i1 : ID} {u1 : UD} {c1 : BD} {elt : ED} {vs1 : List Nat} {en1 : En} {st : Sto} {its : List D} {acc0 ys : List D} (hi : ∀ s, i1 en1 s = .ok ⟨its, none⟩ s) (hlen : ys.length = its.length)
    (hs : ∀ (j : Nat) (d : D) (s : Sto), its[j]? = some d → ∃ en2 y, u1 d (wipeE en1 vs1) = some en2 ∧ c1 en2 s = .ok true s ∧ ys[j]? = some y ∧ elt en2 s = .ok y s) (hl : acc0.length + ys.length < 16777216) :
    innerC i1 u1 c1 elt vs1 st.length en1 (st ++ [.lst acc0]) = .ok () (st ++ [.lst (acc0 ++ ys)]) := by
  have hn : ∀ acc : List D, (st ++ [Ob.lst acc])[st.length]? = some (.lst acc) := fun acc => by
    rw [List.getElem?_append_right (Nat.le_refl _), Nat.sub_self]
    rfl
  obtain ⟨acc, s, e, h1, h2, h3⟩ := compL_rule (it := ⟨its, none⟩) (u := u1) (c := c1) (elt := elt) (en := wipeE en1 vs1) (n := st.length) (fun j acc s => s = st ++ [.lst acc] ∧ acc = acc0 ++ ys.take j ∧ j ≤ its.length) (fun j d acc s hd hnn ⟨e1, e2, hj⟩ => by
    subst e1
    have hj' : j < its.length := (List.getElem?_eq_some_iff.mp hd).1
    obtain ⟨en2, y, q1, q2, q3, q4⟩ := hs j d (st ++ [.lst acc]) hd
    refine ⟨rfl, en2, q1, true, _, q2, (fun z => nomatch z), fun _ => ⟨y, _, q4, hnn, ?_, ?_, ?_, hj'⟩⟩
    · rw [e2, List.length_append, List.length_take]
      omega
    · rw [List.set_append_right _ _ (Nat.le_refl _), Nat.sub_self]
      rfl
    · rw [e2, List.append_assoc, List.take_add_one, q3]
      rfl) (fun _ _ _ _ => rfl) _ 0 acc0 (st ++ [.lst acc0]) rfl (Nat.zero_le _) (hn acc0) ⟨rfl, by simp, Nat.zero_le _⟩
  rw [List.drop_zero] at e
  unfold innerC
  rw [hi]
  dsimp only [Re.bind]
  rw [e, h2, h3.1]
  show Re.ok () (st ++ [Ob.lst (acc0 ++ ys.take its.length)]) = _
  rw [← hlen, List.take_length]
theorem LE.map2 {own vs1 : List Nat} {i i1 : ID} {u u1 : UD} {c1 : BD} {elt : ED} {en : En} {st : Sto} {items : List D} (hi : i en st = .ok ⟨items, none⟩ st) (f : Nat → List D)
    (hs : ∀ (k : Nat) (d : D), items[k]? = some d → ∃ (en1 : En) (its : List D), u d (wipeE en own) = some en1 ∧ (∀ s, i1 en1 s = .ok ⟨its, none⟩ s) ∧ (f k).length = its.length ∧
      ∀ (j : Nat) (d1 : D) (s : Sto), its[j]? = some d1 → ∃ en2 y, u1 d1 (wipeE en1 vs1) = some en2 ∧ c1 en2 s = .ok true s ∧ (f k)[j]? = some y ∧ elt en2 s = .ok y s)
    (hl : ((List.range items.length).flatMap f).length < 16777216) : LE (dLC2 own vs1 i u bYes i1 u1 c1 elt) en st ((List.range items.length).flatMap f) := by
  have key : ∀ n k, items.length - k = n → k ≤ items.length → compL2 ⟨items, none⟩ u bYes (innerC i1 u1 c1 elt vs1 st.length) (wipeE en own) k (items.drop k) (st ++ [.lst ((List.range k).flatMap f)]) = .ok () (st ++ [.lst ((List.range items.length).flatMap f)]) := by
    intro n
    induction n with
    | zero =>
      intro k hn hk
      have e : k = items.length := by omega
      subst e
      rw [List.drop_length]
      rfl
    | succ n ih =>
      intro k hn hk
      have hlt : k < items.length := by omega
      obtain ⟨en1, its, q1, q2, q3, q4⟩ := hs k _ (List.getElem?_eq_getElem hlt)
      have hr : (List.range (k + 1)).flatMap f = (List.range k).flatMap f ++ f k := by rw [List.range_succ, List.flatMap_append]; simp
      have hle : ((List.range (k + 1)).flatMap f).length ≤ ((List.range items.length).flatMap f).length := by
        have : List.range items.length = List.range (k + 1) ++ (List.range (items.length - (k + 1))).map (k + 1 + ·) := by
          rw [← List.range_add]
          congr 1
          omega
        rw [this, List.flatMap_append, List.length_append]
        omega
      have hin := inner_pure (st := st) (acc0 := (List.range k).flatMap f) (ys := f k) (i1 := i1) (u1 := u1) (c1 := c1) (elt := elt) (vs1 := vs1) (en1 := en1) q2 q3 q4 (by rw [hr, List.length_append] at hle; omega)
      rw [List.drop_eq_getElem_cons hlt, compL2, if_pos (ok_none _ _ _), q1]
      dsimp only [bYes, Re.bind]
      rw [if_pos rfl, hin]
      dsimp only [Re.bind]
      rw [← hr]
      exact ih (k + 1) (by omega) hlt
  have h := key _ 0 rfl (Nat.zero_le _)
  rw [List.drop_zero] at h
  refine ⟨st.length, [.lst ((List.range items.length).flatMap f)], ?_, by simp, Nat.le_refl _⟩
  simp only [dLC2, hi, Re.bind_ok]
  have e0 : ([] : List D) = (List.range 0).flatMap f := rfl
  rw [e0, h]
  rfl
end Gv
namespace Gv
open PySem PySem.Spec L2

/-! ### values without a store -/
inductive Vl where
  | non | bl (b : Bool) | int (i : Int) | str (x : Str) | tup (xs : List Vl) | lst (xs : List Vl) | dK (kvs : List (Key × Vl)) | dT (kvs : List (List Key × Vl))
/-- the drawer -/
structure Wo where
  cells : List Int
  p : Nat
  g : Int
  s : Int
structure Vx where
  cls : Nat
  code : Vl
  place : Vl
inductive VR (α : Type) where
  | ok (a : α) (w : Wo) | er (e : Vx) (w : Wo) | no
def VR.bind {α β : Type} (r : VR α) (f : α → Wo → VR β) : VR β := match r with
  | .ok a w => f a w
  | .er e w => .er e w
  | .no => .no
@[simp] theorem VR.bind_ok {α β : Type} (a : α) (w : Wo) (f : α → Wo → VR β) : (VR.ok a w).bind f = f a w := rfl
@[simp] theorem VR.bind_er {α β : Type} (e : Vx) (w : Wo) (f : α → Wo → VR β) : (VR.er e w : VR α).bind f = .er e w := rfl
@[simp] theorem VR.bind_no {α β : Type} (f : α → Wo → VR β) : (VR.no : VR α).bind f = .no := rfl
abbrev VEnv := List (Option Vl)
abbrev VE := VEnv → Wo → VR Vl
abbrev VA := VEnv → Wo → VR (List Vl)
abbrev VB := VEnv → Wo → VR Bool
inductive VRs where
  | nx (e : VEnv) (w : Wo) | rt (v : Vl) (w : Wo) | bk (e : VEnv) (w : Wo) | ct (e : VEnv) (w : Wo) | er (x : Vx) (w : Wo) | no
abbrev VS := VEnv → Wo → VRs
abbrev VF := List Vl → Wo → VR Vl

/-- these stand for those, in a store, over these objects -/
inductive Rps (st : Sto) : List D → List Vl → List Nat → Prop
  | nil : Rps st [] [] []
  | non {ds vs G} (r : Rps st ds vs G) : Rps st (.non :: ds) (.non :: vs) G
  | bl (b : Bool) {ds vs G} (r : Rps st ds vs G) : Rps st (.bl b :: ds) (.bl b :: vs) G
  | int (i : Int) {ds vs G} (r : Rps st ds vs G) : Rps st (.int i :: ds) (.int i :: vs) G
  | str (x : Str) {ds vs G} (r : Rps st ds vs G) : Rps st (.str x :: ds) (.str x :: vs) G
  | tup {es us E ds vs G} (h : Rps st es us E) (r : Rps st ds vs G) : Rps st (.tup es :: ds) (.tup us :: vs) (E ++ G)
  | lst {k : Nat} {es us E ds vs G} (hk : st[k]? = some (.lst es)) (h : Rps st es us E) (r : Rps st ds vs G) : Rps st (.obj k :: ds) (.lst us :: vs) (k :: (E ++ G))
  | dK {k : Nat} {kds : List (Key × D)} {kvs : List (Key × Vl)} {E ds vs G} (hk : st[k]? = some (.dK kds)) (e : kds.map (·.1) = kvs.map (·.1)) (h : Rps st (kds.map (·.2)) (kvs.map (·.2)) E) (r : Rps st ds vs G) : Rps st (.obj k :: ds) (.dK kvs :: vs) (k :: (E ++ G))
  | dT {k : Nat} {kds : List (List Key × D)} {kvs : List (List Key × Vl)} {E ds vs G} (hk : st[k]? = some (.dT kds)) (e : kds.map (·.1) = kvs.map (·.1)) (h : Rps st (kds.map (·.2)) (kvs.map (·.2)) E) (r : Rps st ds vs G) : Rps st (.obj k :: ds) (.dT kvs :: vs) (k :: (E ++ G))
abbrev Rp (st : Sto) (d : D) (v : Vl) (G : List Nat) : Prop := Rps st [d] [v] G

section
variable {st st' : Sto} {ds es : List D} {vs us : List Vl} {G E : List Nat} {d : D} {v : Vl}
theorem Rps.frame (h : Rps st ds vs G) : (∀ k ∈ G, st'[k]? = st[k]?) → Rps st' ds vs G := by
  induction h with
  | nil => exact fun _ => .nil
  | non r ih => exact fun f => .non (ih f)
  | bl b r ih => exact fun f => .bl b (ih f)
  | int b r ih => exact fun f => .int b (ih f)
  | str b r ih => exact fun f => .str b (ih f)
  | tup h r ih1 ih2 => exact fun f => .tup (ih1 fun k hk => f k (List.mem_append_left _ hk)) (ih2 fun k hk => f k (List.mem_append_right _ hk))
  | lst hk h r ih1 ih2 => exact fun f => .lst (by rw [f _ List.mem_cons_self]; exact hk) (ih1 fun k hk => f k (List.mem_cons_of_mem _ (List.mem_append_left _ hk))) (ih2 fun k hk => f k (List.mem_cons_of_mem _ (List.mem_append_right _ hk)))
  | dK hk e h r ih1 ih2 => exact fun f => .dK (by rw [f _ List.mem_cons_self]; exact hk) e (ih1 fun k hk => f k (List.mem_cons_of_mem _ (List.mem_append_left _ hk))) (ih2 fun k hk => f k (List.mem_cons_of_mem _ (List.mem_append_right _ hk)))
  | dT hk e h r ih1 ih2 => exact fun f => .dT (by rw [f _ List.mem_cons_self]; exact hk) e (ih1 fun k hk => f k (List.mem_cons_of_mem _ (List.mem_append_left _ hk))) (ih2 fun k hk => f k (List.mem_cons_of_mem _ (List.mem_append_right _ hk)))
theorem Rps.lt (h : Rps st ds vs G) : ∀ k ∈ G, k < st.length := by
  have key : ∀ {k : Nat} {o : Ob}, st[k]? = some o → k < st.length := fun h => (List.getElem?_eq_some_iff.mp h).1
  induction h with
  | nil => simp
  | non r ih => exact ih
  | bl b r ih => exact ih
  | int b r ih => exact ih
  | str b r ih => exact ih
  | tup h r ih1 ih2 => exact fun k hk => (List.mem_append.mp hk).elim (ih1 k) (ih2 k)
  | lst hk h r ih1 ih2 => exact fun k h => (List.mem_cons.mp h).elim (fun e => e ▸ key hk) fun h => (List.mem_append.mp h).elim (ih1 k) (ih2 k)
  | dK hk e h r ih1 ih2 => exact fun k h => (List.mem_cons.mp h).elim (fun e => e ▸ key hk) fun h => (List.mem_append.mp h).elim (ih1 k) (ih2 k)
  | dT hk e h r ih1 ih2 => exact fun k h => (List.mem_cons.mp h).elim (fun e => e ▸ key hk) fun h => (List.mem_append.mp h).elim (ih1 k) (ih2 k)
theorem Rps.append (h : Rps st ds vs G) (h2 : Rps st es us E) : Rps st (ds ++ es) (vs ++ us) (G ++ E) := by
  induction h with
  | nil => exact h2
  | non r ih => exact .non ih
  | bl b r ih => exact .bl b ih
  | int b r ih => exact .int b ih
  | str b r ih => exact .str b ih
  | tup h r _ ih => rw [List.append_assoc]; exact .tup h ih
  | lst hk h r _ ih => simp only [List.cons_append, List.append_assoc]; exact .lst hk h ih
  | dK hk e h r _ ih => simp only [List.cons_append, List.append_assoc]; exact .dK hk e h ih
  | dT hk e h r _ ih => simp only [List.cons_append, List.append_assoc]; exact .dT hk e h ih
theorem Rps.cons (h : Rp st d v G) (h2 : Rps st ds vs E) : Rps st (d :: ds) (v :: vs) (G ++ E) := Rps.append (ds := [d]) (vs := [v]) h h2
theorem Rps.len (h : Rps st ds vs G) : ds.length = vs.length := by
  induction h <;> simp_all
theorem Rps.uncons (h : Rps st (d :: ds) (v :: vs) G) : ∃ A B, G = A ++ B ∧ Rp st d v A ∧ Rps st ds vs B := by
  cases h with
  | non r => exact ⟨[], _, rfl, .non .nil, r⟩
  | bl b r => exact ⟨[], _, rfl, .bl b .nil, r⟩
  | int b r => exact ⟨[], _, rfl, .int b .nil, r⟩
  | str b r => exact ⟨[], _, rfl, .str b .nil, r⟩
  | @tup _ _ E _ _ B h r => exact ⟨E ++ [], B, by simp, .tup h .nil, r⟩
  | @lst k _ _ E _ _ B hk h r => exact ⟨k :: (E ++ []), B, by simp, .lst hk h .nil, r⟩
  | @dK k _ _ E _ _ B hk e h r => exact ⟨k :: (E ++ []), B, by simp, .dK hk e h .nil, r⟩
  | @dT k _ _ E _ _ B hk e h r => exact ⟨k :: (E ++ []), B, by simp, .dT hk e h .nil, r⟩
theorem Rps.nil_l (h : Rps st [] vs G) : vs = [] ∧ G = [] := by cases h; exact ⟨rfl, rfl⟩
theorem Rps.nil_r (h : Rps st ds [] G) : ds = [] ∧ G = [] := by cases h; exact ⟨rfl, rfl⟩
theorem Rps.one (h : Rps st ds [v] G) : ∃ d, ds = [d] := by
  have := h.len
  match ds, this with
  | [d], _ => exact ⟨d, rfl⟩
theorem Rps.uncons' (h : Rps st ds (v :: vs) G) : ∃ d es A B, ds = d :: es ∧ G = A ++ B ∧ Rp st d v A ∧ Rps st es vs B := by
  have := h.len
  match ds, this, h with
  | d :: es, _, h => obtain ⟨A, B, e, a, b⟩ := h.uncons; exact ⟨d, es, A, B, rfl, e, a, b⟩
/-- the object's list -/
theorem Rp.lst_inv (h : Rp st d (.lst us) G) : ∃ k es E, d = .obj k ∧ G = k :: E ∧ st[k]? = some (.lst es) ∧ Rps st es us E := by
  cases h with
  | lst hk h r => obtain ⟨_, rfl⟩ := r.nil_l; exact ⟨_, _, _, rfl, by simp, hk, h⟩
theorem Rp.tup_inv (h : Rp st d (.tup us) G) : ∃ es, d = .tup es ∧ Rps st es us G := by
  cases h with
  | tup h r => obtain ⟨_, rfl⟩ := r.nil_l; rw [List.append_nil]; exact ⟨_, rfl, h⟩
theorem Rp.int_inv {i : Int} (h : Rp st d (.int i) G) : d = .int i ∧ G = [] := by cases h with | int _ r => exact ⟨rfl, r.nil_l.2⟩
theorem Rp.bl_inv {i : Bool} (h : Rp st d (.bl i) G) : d = .bl i ∧ G = [] := by cases h with | bl _ r => exact ⟨rfl, r.nil_l.2⟩
theorem Rp.str_inv {i : Str} (h : Rp st d (.str i) G) : d = .str i ∧ G = [] := by cases h with | str _ r => exact ⟨rfl, r.nil_l.2⟩
theorem Rp.non_inv (h : Rp st d .non G) : d = .non ∧ G = [] := by cases h with | non r => exact ⟨rfl, r.nil_l.2⟩
theorem Rp.dK_inv {kvs} (h : Rp st d (.dK kvs) G) : ∃ k kds E, d = .obj k ∧ G = k :: E ∧ st[k]? = some (.dK kds) ∧ kds.map (·.1) = kvs.map (·.1) ∧ Rps st (kds.map (·.2)) (kvs.map (·.2)) E := by
  cases h with
  | dK hk e h r => obtain ⟨_, rfl⟩ := r.nil_l; exact ⟨_, _, _, rfl, by simp, hk, e, h⟩
theorem Rp.dT_inv {kvs} (h : Rp st d (.dT kvs) G) : ∃ k kds E, d = .obj k ∧ G = k :: E ∧ st[k]? = some (.dT kds) ∧ kds.map (·.1) = kvs.map (·.1) ∧ Rps st (kds.map (·.2)) (kvs.map (·.2)) E := by
  cases h with
  | dT hk e h r => obtain ⟨_, rfl⟩ := r.nil_l; exact ⟨_, _, _, rfl, by simp, hk, e, h⟩
theorem Rp.tup (h : Rps st es us G) : Rp st (.tup es) (.tup us) G := by simpa using Rps.tup h .nil
theorem Rp.lst {k : Nat} (hk : st[k]? = some (.lst es)) (h : Rps st es us G) : Rp st (.obj k) (.lst us) (k :: G) := by simpa using Rps.lst hk h .nil
theorem Rp.dK {k : Nat} {kds kvs} (hk : st[k]? = some (.dK kds)) (e : kds.map (·.1) = kvs.map (·.1)) (h : Rps st (kds.map (·.2)) (kvs.map (·.2)) G) : Rp st (.obj k) (.dK kvs) (k :: G) := by simpa using Rps.dK hk e h .nil
theorem Rp.dT {k : Nat} {kds kvs} (hk : st[k]? = some (.dT kds)) (e : kds.map (·.1) = kvs.map (·.1)) (h : Rps st (kds.map (·.2)) (kvs.map (·.2)) G) : Rp st (.obj k) (.dT kvs) (k :: G) := by simpa using Rps.dT hk e h .nil
/-- an object below -/
theorem Rps.sub (h : Rps st ds vs G) : ∀ k ∈ G, ∃ u E, Rp st (.obj k) u (k :: E) ∧ E.length + 1 ≤ G.length ∧ ∀ x ∈ E, x ∈ G := by
  induction h with
  | nil => simp
  | non r ih => exact ih
  | bl b r ih => exact ih
  | int b r ih => exact ih
  | str b r ih => exact ih
  | tup h r ih1 ih2 =>
    intro k hk
    rcases List.mem_append.mp hk with hk | hk
    · obtain ⟨u, E, a, b, c⟩ := ih1 k hk
      exact ⟨u, E, a, by rw [List.length_append]; omega, fun x hx => List.mem_append_left _ (c x hx)⟩
    · obtain ⟨u, E, a, b, c⟩ := ih2 k hk
      exact ⟨u, E, a, by rw [List.length_append]; omega, fun x hx => List.mem_append_right _ (c x hx)⟩
  | lst h0 h r ih1 ih2 =>
    intro k hk
    rcases List.mem_cons.mp hk with rfl | hk
    · exact ⟨_, _, Rp.lst h0 h, by simp only [List.length_cons, List.length_append]; omega, fun x hx => List.mem_cons_of_mem _ (List.mem_append_left _ hx)⟩
    rcases List.mem_append.mp hk with hk | hk
    · obtain ⟨u, E, a, b, c⟩ := ih1 k hk
      exact ⟨u, E, a, by simp only [List.length_cons, List.length_append]; omega, fun x hx => List.mem_cons_of_mem _ (List.mem_append_left _ (c x hx))⟩
    · obtain ⟨u, E, a, b, c⟩ := ih2 k hk
      exact ⟨u, E, a, by simp only [List.length_cons, List.length_append]; omega, fun x hx => List.mem_cons_of_mem _ (List.mem_append_right _ (c x hx))⟩
  | dK h0 e h r ih1 ih2 =>
    intro k hk
    rcases List.mem_cons.mp hk with rfl | hk
    · exact ⟨_, _, Rp.dK h0 e h, by simp only [List.length_cons, List.length_append]; omega, fun x hx => List.mem_cons_of_mem _ (List.mem_append_left _ hx)⟩
    rcases List.mem_append.mp hk with hk | hk
    · obtain ⟨u, E, a, b, c⟩ := ih1 k hk
      exact ⟨u, E, a, by simp only [List.length_cons, List.length_append]; omega, fun x hx => List.mem_cons_of_mem _ (List.mem_append_left _ (c x hx))⟩
    · obtain ⟨u, E, a, b, c⟩ := ih2 k hk
      exact ⟨u, E, a, by simp only [List.length_cons, List.length_append]; omega, fun x hx => List.mem_cons_of_mem _ (List.mem_append_right _ (c x hx))⟩
  | dT h0 e h r ih1 ih2 =>
    intro k hk
    rcases List.mem_cons.mp hk with rfl | hk
    · exact ⟨_, _, Rp.dT h0 e h, by simp only [List.length_cons, List.length_append]; omega, fun x hx => List.mem_cons_of_mem _ (List.mem_append_left _ hx)⟩
    rcases List.mem_append.mp hk with hk | hk
    · obtain ⟨u, E, a, b, c⟩ := ih1 k hk
      exact ⟨u, E, a, by simp only [List.length_cons, List.length_append]; omega, fun x hx => List.mem_cons_of_mem _ (List.mem_append_left _ (c x hx))⟩
    · obtain ⟨u, E, a, b, c⟩ := ih2 k hk
      exact ⟨u, E, a, by simp only [List.length_cons, List.length_append]; omega, fun x hx => List.mem_cons_of_mem _ (List.mem_append_right _ (c x hx))⟩
/-- the objects are told by what stands there -/
theorem Rps.det (h : Rps st ds vs G) : ∀ {us E}, Rps st ds us E → G = E := by
  have inj : ∀ {k : Nat} {o u : Ob}, st[k]? = some o → st[k]? = some u → o = u := fun h h2 => by rw [h] at h2; exact Option.some.inj h2
  induction h with
  | nil => intro us E h; exact h.nil_l.2.symm
  | non r ih => intro us E h; cases h with | non r => exact ih r
  | bl b r ih => intro us E h; cases h with | bl _ r => exact ih r
  | int b r ih => intro us E h; cases h with | int _ r => exact ih r
  | str b r ih => intro us E h; cases h with | str _ r => exact ih r
  | tup h r ih1 ih2 => intro us E h; cases h with | tup h' r' => rw [ih1 h', ih2 r']
  | lst hk h r ih1 ih2 =>
    intro us E h
    cases h with
    | lst hk' h' r' => cases inj hk hk'; rw [ih1 h', ih2 r']
    | dK hk' _ h' r' => cases inj hk hk'
    | dT hk' _ h' r' => cases inj hk hk'
  | dK hk _ h r ih1 ih2 =>
    intro us E h
    cases h with
    | lst hk' h' r' => cases inj hk hk'
    | dK hk' _ h' r' => cases inj hk hk'; rw [ih1 h', ih2 r']
    | dT hk' _ h' r' => cases inj hk hk'
  | dT hk _ h r ih1 ih2 =>
    intro us E h
    cases h with
    | lst hk' h' r' => cases inj hk hk'
    | dK hk' _ h' r' => cases inj hk hk'
    | dT hk' _ h' r' => cases inj hk hk'; rw [ih1 h', ih2 r']
/-- no object stands below itself -/
theorem Rp.acyc {k : Nat} (h : Rp st (.obj k) v (k :: E)) : k ∉ E := fun hm => by
  -- what is below
  have : ∀ {u : Vl}, Rp st (.obj k) u (k :: E) → ∃ ds vs, Rps st ds vs E := fun h => by
    generalize hG : k :: E = G at h
    cases h with
    | lst hk h r => obtain ⟨_, rfl⟩ := r.nil_l; rw [List.append_nil] at hG; cases hG; exact ⟨_, _, h⟩
    | dK hk _ h r => obtain ⟨_, rfl⟩ := r.nil_l; rw [List.append_nil] at hG; cases hG; exact ⟨_, _, h⟩
    | dT hk _ h r => obtain ⟨_, rfl⟩ := r.nil_l; rw [List.append_nil] at hG; cases hG; exact ⟨_, _, h⟩
  obtain ⟨ds, vs, hs⟩ := this h
  obtain ⟨u, E', a, b, _⟩ := hs.sub k hm
  have := Rps.det h a
  have := congrArg List.length this
  simp only [List.length_cons] at this
  omega
/-- an item -/
theorem Rps.get (h : Rps st ds vs G) : ∀ {i : Nat} {v : Vl}, vs[i]? = some v → ∃ d A, ds[i]? = some d ∧ Rp st d v A ∧ ∀ k ∈ A, k ∈ G := by
  intro i
  induction i generalizing ds vs G with
  | zero =>
    intro v e
    cases vs with
    | nil => cases e
    | cons v' vs =>
      cases e
      obtain ⟨d, es, A, B, rfl, rfl, a, b⟩ := h.uncons'
      exact ⟨d, A, rfl, a, fun k hk => List.mem_append_left _ hk⟩
  | succ i ih =>
    intro v e
    cases vs with
    | nil => cases e
    | cons v' vs =>
      obtain ⟨d, es, A, B, rfl, rfl, a, b⟩ := h.uncons'
      obtain ⟨d', A', x, y, z⟩ := ih b (v := v) (by simpa using e)
      exact ⟨d', A', by simpa using x, y, fun k hk => List.mem_append_right _ (z k hk)⟩
theorem Rps.drop (h : Rps st ds vs G) : ∀ (n : Nat), ∃ E, Rps st (ds.drop n) (vs.drop n) E ∧ ∀ k ∈ E, k ∈ G := by
  intro n
  induction n generalizing ds vs G with
  | zero => exact ⟨G, h, fun _ h => h⟩
  | succ n ih =>
    cases vs with
    | nil => obtain ⟨rfl, rfl⟩ := h.nil_r; exact ⟨[], .nil, fun _ h => h⟩
    | cons v vs =>
      obtain ⟨d, es, A, B, rfl, rfl, a, b⟩ := h.uncons'
      obtain ⟨E, x, y⟩ := ih b
      exact ⟨E, x, fun k hk => List.mem_append_right _ (y k hk)⟩
theorem Rps.take (h : Rps st ds vs G) : ∀ (n : Nat), ∃ E, Rps st (ds.take n) (vs.take n) E ∧ ∀ k ∈ E, k ∈ G := by
  intro n
  induction n generalizing ds vs G with
  | zero => exact ⟨[], .nil, fun _ h => nomatch h⟩
  | succ n ih =>
    cases vs with
    | nil => obtain ⟨rfl, rfl⟩ := h.nil_r; exact ⟨[], .nil, fun _ h => h⟩
    | cons v vs =>
      obtain ⟨d, es, A, B, rfl, rfl, a, b⟩ := h.uncons'
      obtain ⟨E, x, y⟩ := ih b
      exact ⟨A ++ E, Rps.cons a x, fun k hk => (List.mem_append.mp hk).elim (List.mem_append_left _) fun h => List.mem_append_right _ (y k h)⟩
theorem Rps.set (h : Rps st ds vs G) (hd : Rp st d v E) : ∀ (n : Nat), ∃ A, Rps st (ds.set n d) (vs.set n v) A ∧ ∀ k ∈ A, k ∈ G ∨ k ∈ E := by
  intro n
  induction n generalizing ds vs G with
  | zero =>
    cases vs with
    | nil => obtain ⟨rfl, rfl⟩ := h.nil_r; exact ⟨[], .nil, fun _ h => nomatch h⟩
    | cons v' vs =>
      obtain ⟨d', es, A, B, rfl, rfl, a, b⟩ := h.uncons'
      exact ⟨E ++ B, Rps.cons hd b, fun k hk => (List.mem_append.mp hk).elim .inr fun h => .inl (List.mem_append_right _ h)⟩
  | succ n ih =>
    cases vs with
    | nil => obtain ⟨rfl, rfl⟩ := h.nil_r; exact ⟨[], .nil, fun _ h => nomatch h⟩
    | cons v' vs =>
      obtain ⟨d', es, A, B, rfl, rfl, a, b⟩ := h.uncons'
      obtain ⟨C, x, y⟩ := ih b
      exact ⟨A ++ C, Rps.cons a x, fun k hk => (List.mem_append.mp hk).elim (fun h => .inl (List.mem_append_left _ h)) fun h => (y k h).imp_left (List.mem_append_right _)⟩
theorem Rps.rep (h : Rps st ds vs G) : ∀ (n : Nat), ∃ A, Rps st (List.replicate n ds).flatten (List.replicate n vs).flatten A ∧ ∀ k ∈ A, k ∈ G
  | 0 => ⟨[], .nil, fun _ h => nomatch h⟩
  | n + 1 => by
    obtain ⟨A, x, y⟩ := Rps.rep h n
    exact ⟨G ++ A, by simpa [List.replicate_succ] using h.append x, fun k hk => (List.mem_append.mp hk).elim id (y k)⟩
end
/-! ### plain things -/
mutual
def vpd : Vl → Option PyData
  | .non => some .none
  | .bl b => some (.bool b)
  | .int i => some (.int i)
  | .str x => some (.str x)
  | .tup xs => (vpds xs).map .tuple
  | _ => none
def vpds : List Vl → Option (List PyData)
  | [] => some []
  | x :: xs => match vpd x, vpds xs with
    | some p, some ps => some (p :: ps)
    | _, _ => none
end
theorem vpds_cons {v : Vl} {vs : List Vl} {ps : List PyData} (h : vpds (v :: vs) = some ps) : ∃ p qs, ps = p :: qs ∧ vpd v = some p ∧ vpds vs = some qs := by
  rw [vpds] at h
  split at h
  · rename_i p qs e1 e2; cases h; exact ⟨p, qs, rfl, e1, e2⟩
  · cases h
theorem pds_cons {v : D} {vs : List D} {p qs} (h : pd v = some p) (h2 : pds vs = some qs) : pds (v :: vs) = some (p :: qs) := by rw [pds, h, h2]
theorem Rps.plain {st : Sto} {ds : List D} {vs : List Vl} {G : List Nat} (h : Rps st ds vs G) : ∀ {ps}, vpds vs = some ps → pds ds = some ps ∧ G = [] := by
  induction h with
  | nil => intro ps e; exact ⟨e, rfl⟩
  | non r ih => intro ps e; obtain ⟨p, qs, rfl, e1, e2⟩ := vpds_cons e; cases e1; exact ⟨pds_cons rfl (ih e2).1, (ih e2).2⟩
  | bl b r ih => intro ps e; obtain ⟨p, qs, rfl, e1, e2⟩ := vpds_cons e; cases e1; exact ⟨pds_cons rfl (ih e2).1, (ih e2).2⟩
  | int b r ih => intro ps e; obtain ⟨p, qs, rfl, e1, e2⟩ := vpds_cons e; cases e1; exact ⟨pds_cons rfl (ih e2).1, (ih e2).2⟩
  | str b r ih => intro ps e; obtain ⟨p, qs, rfl, e1, e2⟩ := vpds_cons e; cases e1; exact ⟨pds_cons rfl (ih e2).1, (ih e2).2⟩
  | tup h r ih1 ih2 =>
    intro ps e
    obtain ⟨p, qs, rfl, e1, e2⟩ := vpds_cons e
    simp only [vpd, Option.map_eq_some_iff] at e1
    obtain ⟨ps, e1, rfl⟩ := e1
    exact ⟨pds_cons (by rw [pd, (ih1 e1).1]; rfl) (ih2 e2).1, by rw [(ih1 e1).2, (ih2 e2).2]; rfl⟩
  | lst => intro ps e; obtain ⟨p, qs, rfl, e1, e2⟩ := vpds_cons e; cases e1
  | dK => intro ps e; obtain ⟨p, qs, rfl, e1, e2⟩ := vpds_cons e; cases e1
  | dT => intro ps e; obtain ⟨p, qs, rfl, e1, e2⟩ := vpds_cons e; cases e1
theorem Rp.plain {st : Sto} {d : D} {v : Vl} {G : List Nat} (h : Rp st d v G) {p : PyData} (e : vpd v = some p) : pd d = some p ∧ G = [] := by
  have := Rps.plain h (ps := [p]) (by rw [vpds, e]; rfl)
  refine ⟨?_, this.2⟩
  have h1 := this.1
  rw [pds] at h1
  split at h1
  · rename_i e1 e2; cases e2; cases h1; exact e1
  · cases h1
mutual
/-- no list, no dict in it -/
def Vl.flat : Vl → Bool
  | .lst _ => false
  | .dK _ => false
  | .dT _ => false
  | .tup xs => flatL xs
  | _ => true
def flatL : List Vl → Bool
  | [] => true
  | x :: xs => x.flat && flatL xs
end
theorem Rps.flat {st : Sto} {ds : List D} {vs : List Vl} {G : List Nat} (h : Rps st ds vs G) : flatL vs = true → G = [] := by
  induction h with
  | nil => exact fun _ => rfl
  | non r ih => intro e; exact ih (by simpa [flatL, Vl.flat] using e)
  | bl b r ih => intro e; exact ih (by simpa [flatL, Vl.flat] using e)
  | int b r ih => intro e; exact ih (by simpa [flatL, Vl.flat] using e)
  | str b r ih => intro e; exact ih (by simpa [flatL, Vl.flat] using e)
  | tup h r ih1 ih2 =>
    intro e
    simp only [flatL, Vl.flat, Bool.and_eq_true] at e
    rw [ih1 e.1, ih2 e.2]; rfl
  | lst => intro e; simp [flatL, Vl.flat] at e
  | dK => intro e; simp [flatL, Vl.flat] at e
  | dT => intro e; simp [flatL, Vl.flat] at e
theorem Rp.flat {st : Sto} {d : D} {v : Vl} {G : List Nat} (h : Rp st d v G) (e : v.flat = true) : G = [] := Rps.flat h (by simp [flatL, e])
end Gv
namespace Gv
open PySem PySem.Spec L2

abbrev Loc := Option (Nat × Nat)
def NotDr (loc : Loc) (k : Nat) : Prop := ∀ i j, loc = some (i, j) → k ≠ i ∧ k ≠ j
def Wd (loc : Loc) (st : Sto) (w : Wo) : Prop := ∀ i j, loc = some (i, j) → i ≠ j ∧ st[i]? = some (.lst [.obj j, .int w.p, .int w.g, .int w.s]) ∧ st[j]? = some (.lst (w.cells.map .int))
structure Ext (loc : Loc) (st st' : Sto) : Prop where
  le : st.length ≤ st'.length
  same : ∀ k, k < st.length → (∀ i j, loc = some (i, j) → k ≠ i) → st'[k]? = st[k]?
def Rx (e : Ex) (x : Vx) : Prop := e.cls = x.cls ∧ (∀ st, Rp st e.code x.code []) ∧ ∀ st, Rp st e.place x.place []
structure Rep (loc : Loc) (dl : Option Nat) (st : Sto) (en : En) (ve : VEnv) (w : Wo) (F : Nat → List Nat) : Prop where
  len : en.length = ve.length
  sl : ∀ i v, ve[i]? = some (some v) → ∃ d, en[i]? = some (some d) ∧ Rp st d v (F i)
  nl : ∀ i, (∀ v, ve[i]? ≠ some (some v)) → F i = []
  wd : Wd loc st w
  fd : ∀ i k, k ∈ F i → NotDr loc k
  ds : ∀ l, dl = some l → ∃ i j, loc = some (i, j) ∧ en[l]? = some (some (.obj i)) ∧ ve[l]? = some none
  no : ∀ i, ve[i]? = some none → dl ≠ some i → en[i]? = some none
def Fp (loc : Loc) (F : Nat → List Nat) (st : Sto) (al : List Nat) (G : List Nat) : Prop := (∀ k ∈ G, NotDr loc k) ∧ ∀ k ∈ G, st.length ≤ k ∨ ∃ i ∈ al, k ∈ F i
def PostR {α β : Type} (R : Sto → α → β → List Nat → Prop) (loc : Loc) (F : Nat → List Nat) (st : Sto) (al : List Nat) (r : Re α) : VR β → Prop
  | .ok x w' => ∃ d st' G, r = .ok d st' ∧ R st' d x G ∧ Fp loc F st al G ∧ Ext loc st st' ∧ Wd loc st' w'
  | .er x w' => ∃ ex st', r = .er ex st' ∧ Rx ex x ∧ Ext loc st st' ∧ Wd loc st' w'
  | .no => True
def RpF (fr : Bool) (n : Nat) (st : Sto) (d : D) (v : Vl) (G : List Nat) : Prop := Rp st d v G ∧ (fr = true → ∀ k, d = .obj k → n ≤ k)
def RB (_ : Sto) (a b : Bool) (G : List Nat) : Prop := a = b ∧ G = []
def RO' (_ : Sto) (a b : Option Int) (G : List Nat) : Prop := a = b ∧ G = []
structure RI (st : Sto) (it : ItD) (xs : List Vl) (G : List Nat) : Prop where
  rp : ∃ E, Rps st it.items xs E ∧ ∀ k ∈ E, k ∈ G
  gd : ∀ i ys, it.gd = some (i, ys) → i ∈ G ∧ st[i]? = some (.lst ys) ∧ ys.length = it.items.length
  lt : ∀ k ∈ G, k < st.length
abbrev VI := VEnv → Wo → VR (List Vl)
abbrev VO := VEnv → Wo → VR (Option Int)
def SoundE (dl : Option Nat) (e : ED) (v : VE) (al : List Nat) (fr : Bool) : Prop := ∀ loc st en ve w F, Rep loc dl st en ve w F → PostR (RpF fr st.length) loc F st al (e en st) (v ve w)
def SoundA (dl : Option Nat) (e : AD) (v : VA) (al : List Nat) : Prop := ∀ loc st en ve w F, Rep loc dl st en ve w F → PostR Rps loc F st al (e en st) (v ve w)
def SoundB (dl : Option Nat) (e : BD) (v : VB) : Prop := ∀ loc st en ve w F, Rep loc dl st en ve w F → PostR RB loc F st [] (e en st) (v ve w)
def SoundO (dl : Option Nat) (e : OD) (v : VO) : Prop := ∀ loc st en ve w F, Rep loc dl st en ve w F → PostR RO' loc F st [] (e en st) (v ve w)
def SoundI (dl : Option Nat) (e : ID) (v : VI) (al : List Nat) : Prop := ∀ loc st en ve w F, Rep loc dl st en ve w F → PostR RI loc F st al (e en st) (v ve w)

section
variable {loc : Loc} {dl : Option Nat} {st st' s1 s2 : Sto} {en : En} {ve : VEnv} {w w1 : Wo} {F : Nat → List Nat} {ds es : List D} {vs us : List Vl} {G E : List Nat} {d : D} {v : Vl} {al al' al1 al2 : List Nat}
theorem Ext.refl : Ext loc st st := ⟨Nat.le_refl _, fun _ _ _ => rfl⟩
theorem Ext.trans (a : Ext loc st s1) (b : Ext loc s1 s2) : Ext loc st s2 := ⟨Nat.le_trans a.le b.le, fun k h n => by rw [b.same k (Nat.lt_of_lt_of_le h a.le) n, a.same k h n]⟩
theorem Ext.app (ex : Sto) : Ext loc st (st ++ ex) := ⟨by simp, fun k h _ => List.getElem?_append_left h⟩
theorem Wd.lt (h : Wd loc st w) {i j : Nat} (e : loc = some (i, j)) : i < st.length ∧ j < st.length := ⟨(List.getElem?_eq_some_iff.mp (h i j e).2.1).1, (List.getElem?_eq_some_iff.mp (h i j e).2.2).1⟩
theorem Wd.app (h : Wd loc st w) (ex : Sto) : Wd loc (st ++ ex) w := fun i j e => ⟨(h i j e).1, by rw [List.getElem?_append_left (h.lt e).1]; exact (h i j e).2.1, by rw [List.getElem?_append_left (h.lt e).2]; exact (h i j e).2.2⟩
theorem Wd.fresh (h : Wd loc st w) {k : Nat} (hk : st.length ≤ k) : NotDr loc k := fun i j e => by have := h.lt e; omega
theorem Rps.ext (h : Rps st ds vs G) (nd : ∀ k ∈ G, NotDr loc k) (e : Ext loc st st') : Rps st' ds vs G := h.frame fun k hk => e.same k (h.lt k hk) fun i j q => (nd k hk i j q).1
theorem Rep.lt (r : Rep loc dl st en ve w F) {i k : Nat} (h : k ∈ F i) : k < st.length := by
  by_cases hv : ∃ v, ve[i]? = some (some v)
  · obtain ⟨v, hv⟩ := hv
    obtain ⟨d, _, rp⟩ := r.sl i v hv
    exact rp.lt k h
  · rw [r.nl i fun v hv' => hv ⟨v, hv'⟩] at h
    cases h
theorem Rep.ext (r : Rep loc dl st en ve w F) (e : Ext loc st st') (hw : Wd loc st' w1) : Rep loc dl st' en ve w1 F :=
  ⟨r.len, fun i v h => let ⟨d, h1, h2⟩ := r.sl i v h; ⟨d, h1, h2.ext (r.fd i) e⟩, r.nl, hw, r.fd, r.ds, r.no⟩
theorem Fp.up (h : Fp loc F s1 al G) (e : st.length ≤ s1.length) (ha : ∀ i ∈ al, i ∈ al') : Fp loc F st al' G := ⟨h.1, fun k hk => (h.2 k hk).imp (fun h => by omega) fun ⟨i, a, b⟩ => ⟨i, ha i a, b⟩⟩
theorem Fp.nil : Fp loc F st al [] := ⟨fun _ h => (nomatch h), fun _ h => (nomatch h)⟩
theorem Fp.app (h : Fp loc F st al1 G) (h2 : Fp loc F st al2 E) : Fp loc F st (al1 ++ al2) (G ++ E) :=
  ⟨fun k hk => (List.mem_append.mp hk).elim (h.1 k) (h2.1 k), fun k hk => (List.mem_append.mp hk).elim (fun q => (h.2 k q).imp id fun ⟨i, a, b⟩ => ⟨i, List.mem_append_left _ a, b⟩) fun q => (h2.2 k q).imp id fun ⟨i, a, b⟩ => ⟨i, List.mem_append_right _ a, b⟩⟩
theorem Fp.sub (h : Fp loc F st al G) (hs : ∀ k ∈ E, k ∈ G) : Fp loc F st al E := ⟨fun k hk => h.1 k (hs k hk), fun k hk => h.2 k (hs k hk)⟩
variable {α β γ δ : Type} {R R' : Sto → α → β → List Nat → Prop} {R2 : Sto → γ → δ → List Nat → Prop} {r : Re α} {q : VR β}
theorem PostR.up (h : PostR R loc F s1 al r q) (e : Ext loc st s1) (ha : ∀ i ∈ al, i ∈ al') (hR : ∀ st d x G, R st d x G → R' st d x G) : PostR R' loc F st al' r q := by
  cases q with
  | ok x w' => obtain ⟨d, s, G, a, b, c, f, g⟩ := h; exact ⟨d, s, G, a, hR _ _ _ _ b, c.up e.le ha, e.trans f, g⟩
  | er x w' => obtain ⟨ex, s, a, b, c, f⟩ := h; exact ⟨ex, s, a, b, e.trans c, f⟩
  | no => trivial
theorem PostR.bind {f : α → Sto → Re γ} {g : β → Wo → VR δ} (h : PostR R loc F st al r q) (k : ∀ d s1 x w1 G, R s1 d x G → Fp loc F st al G → Ext loc st s1 → Wd loc s1 w1 → PostR R2 loc F st al' (f d s1) (g x w1)) : PostR R2 loc F st al' (r.bind f) (q.bind g) := by
  cases q with
  | ok x w' => obtain ⟨d, s, G, rfl, b, c, e, f'⟩ := h; exact k d s x w' G b c e f'
  | er x w' => obtain ⟨ex, s, rfl, b, c, f'⟩ := h; exact ⟨ex, s, rfl, b, c, f'⟩
  | no => trivial
end
/-! ### expressions -/
def vre (o : Option Vl) (w : Wo) : VR Vl := match o with
  | some v => .ok v w
  | none => .no
@[simp] theorem vre_some (v : Vl) (w : Wo) : vre (some v) w = .ok v w := rfl
@[simp] theorem vre_none (w : Wo) : vre none w = .no := rfl
def pick (b : Bool) (al : List Nat) : List Nat := if b = true then al else []
def vV (i : Nat) : VE := fun ve w => match ve[i]? with
  | some (some v) => .ok v w
  | _ => .no
def vC (v : Vl) : VE := fun _ w => .ok v w
def vOp (g : Vl → Vl → Option Vl) (a b : VE) : VE := fun ve w => (a ve w).bind fun x w1 => (b ve w1).bind fun y w2 => vre (g x y) w2
def vUn (g : Vl → Option Vl) (a : VE) : VE := fun ve w => (a ve w).bind fun x w1 => vre (g x) w1
def vNil : VA := fun _ w => .ok [] w
def vCons (a : VE) (r : VA) : VA := fun ve w => (a ve w).bind fun x w1 => (r ve w1).bind fun xs w2 => .ok (x :: xs) w2
def vCB (g : List Vl → Option Vl) (a : VA) : VE := fun ve w => (a ve w).bind fun xs w1 => vre (g xs) w1
def vIf (c : VB) (a b : VE) : VE := fun ve w => (c ve w).bind fun k w1 => if k = true then a ve w1 else b ve w1
def vTup (a : VA) : VE := fun ve w => (a ve w).bind fun xs w1 => if xs.length ≤ 16777216 then .ok (.tup xs) w1 else .no
def vLst (a : VA) : VE := fun ve w => (a ve w).bind fun xs w1 => if xs.length ≤ 16777216 then .ok (.lst xs) w1 else .no
def truV : Vl → Option Bool
  | .non => some false
  | .bl b => some b
  | .int i => some (!decide (i = 0))
  | .tup xs => some (!xs.isEmpty)
  | .lst xs => some (!xs.isEmpty)
  | _ => none
def vTru (a : VE) : VB := fun ve w => (a ve w).bind fun x w1 => match truV x with
  | some k => .ok k w1
  | none => .no
def blV (o : Option Vl) (w : Wo) : VR Bool := match o with
  | some (.bl k) => .ok k w
  | _ => .no
@[simp] theorem blV_some (k : Bool) (w : Wo) : blV (some (.bl k)) w = .ok k w := rfl
@[simp] theorem blV_none (w : Wo) : blV none w = .no := rfl
def vCmp (g : Vl → Vl → Option Vl) (a b : VE) : VB := fun ve w => (a ve w).bind fun x w1 => (b ve w1).bind fun y w2 => blV (g x y) w2
def vBChain (f g : Vl → Vl → Option Vl) (a b c : VE) : VB := fun ve w => (a ve w).bind fun x w1 => (b ve w1).bind fun y w2 => (blV (f x y) w2).bind fun k w3 => if k = true then (c ve w3).bind fun z w4 => blV (g y z) w4 else .ok false w3
def vChain (f g : Vl → Vl → Option Vl) (a b c : VE) : VE := fun ve w => (a ve w).bind fun x w1 => (b ve w1).bind fun y w2 => (blV (f x y) w2).bind fun k w3 => if k = true then (c ve w3).bind fun z w4 => vre (g y z) w4 else .ok (.bl false) w3
def vBAnd (a b : VB) : VB := fun ve w => (a ve w).bind fun k w1 => if k = true then b ve w1 else .ok false w1
def vBOr (a b : VB) : VB := fun ve w => (a ve w).bind fun k w1 => if k = true then .ok true w1 else b ve w1
def vBNot (a : VB) : VB := fun ve w => (a ve w).bind fun k w1 => .ok (!k) w1
def asB (x : Vl) (w : Wo) : VR Bool := match x with
  | .bl k => .ok k w
  | _ => .no
@[simp] theorem asB_bl (k : Bool) (w : Wo) : asB (.bl k) w = .ok k w := rfl
def vAnd (a b : VE) : VE := fun ve w => (a ve w).bind fun x w1 => (asB x w1).bind fun k w2 => if k = true then b ve w2 else .ok (.bl false) w2
def vOr (a b : VE) : VE := fun ve w => (a ve w).bind fun x w1 => (asB x w1).bind fun k w2 => if k = true then .ok (.bl true) w2 else b ve w2
def vNot (a : VE) : VE := fun ve w => (a ve w).bind fun x w1 => (asB x w1).bind fun k w2 => .ok (.bl (!k)) w2
def vBYes : VB := fun _ w => .ok true w
def vNo : VE := fun _ _ => .no
def vBNo : VB := fun _ _ => .no
def vINo : VI := fun _ _ => .no
/-- an operation of two values -/
def OpOk (f : F2) (g : Vl → Vl → Option Vl) (ax ay fr : Bool) : Prop := ∀ st dx dy x y z Gx Gy, Rp st dx x Gx → Rp st dy y Gy → g x y = some z →
  ∃ d ex G, f dx dy st = some (d, st ++ ex) ∧ Rp (st ++ ex) d z G ∧ (∀ k ∈ G, st.length ≤ k ∨ (ax = true ∧ k ∈ Gx) ∨ (ay = true ∧ k ∈ Gy)) ∧ (fr = true → ∀ k, d = .obj k → st.length ≤ k)
def UnOk (f : D → Sto → Vr) (g : Vl → Option Vl) : Prop := ∀ st dx x z Gx, Rp st dx x Gx → g x = some z → ∃ d, f dx st = some (d, st) ∧ Rp st d z []
def CbOk (f : FN) (g : List Vl → Option Vl) (ax fr : Bool) : Prop := ∀ st ds vs z G0, Rps st ds vs G0 → g vs = some z →
  ∃ d ex G, f ds st = some (d, st ++ ex) ∧ Rp (st ++ ex) d z G ∧ (∀ k ∈ G, st.length ≤ k ∨ (ax = true ∧ k ∈ G0)) ∧ (fr = true → ∀ k, d = .obj k → st.length ≤ k)
section
variable {loc : Loc} {dl : Option Nat} {st st' s1 s2 : Sto} {en : En} {ve : VEnv} {w w1 : Wo} {F : Nat → List Nat} {ds es : List D} {vs us : List Vl} {G E : List Nat} {d : D} {v : Vl} {al al' al1 al2 al3 : List Nat}
  {a b c : ED} {va vb vc : VE} {fr f1 f2 f3 ax ay : Bool} {ba bb : BD} {vba vbb : VB} {aa ab : AD} {vaa vab : VA}
theorem se_v (i : Nat) : SoundE dl (dV i) (vV i) [i] false := fun loc st en ve w F r => by
  unfold vV dV
  cases e : ve[i]? with
  | none => trivial
  | some o =>
    cases o with
    | none => trivial
    | some v =>
      obtain ⟨d, h1, h2⟩ := r.sl i v e
      rw [h1]
      exact ⟨d, st, F i, rfl, ⟨h2, fun z => nomatch z⟩, ⟨r.fd i, fun k hk => .inr ⟨i, List.mem_singleton.mpr rfl, hk⟩⟩, Ext.refl, r.wd⟩
theorem se_c {d : D} {v : Vl} (h : ∀ st, Rp st d v []) (nd : ∀ k, d ≠ .obj k) : SoundE dl (dC d) (vC v) [] true := fun loc st en ve w F r =>
  ⟨d, st, [], rfl, ⟨h st, fun _ k e => absurd e (nd k)⟩, Fp.nil, Ext.refl, r.wd⟩
theorem se_int (i : Int) : SoundE dl (dC (.int i)) (vC (.int i)) [] true := se_c (fun _ => .int i .nil) fun _ h => nomatch h
theorem se_bl (i : Bool) : SoundE dl (dC (.bl i)) (vC (.bl i)) [] true := se_c (fun _ => .bl i .nil) fun _ h => nomatch h
theorem se_str (i : Str) : SoundE dl (dC (.str i)) (vC (.str i)) [] true := se_c (fun _ => .str i .nil) fun _ h => nomatch h
theorem se_non : SoundE dl (dC .non) (vC .non) [] true := se_c (fun _ => .non .nil) fun _ h => nomatch h
theorem fresh_nd (r : Wd loc st w) {ex : Sto} {k : Nat} (hk : st.length ≤ k) : NotDr loc k := r.fresh hk
theorem PostR.bind' {α β γ δ : Type} {R : Sto → α → β → List Nat → Prop} {R2 : Sto → γ → δ → List Nat → Prop} {r : Re α} {q : VR β} {f : α → Sto → Re γ} {g : β → Wo → VR δ} (h : PostR R loc F s1 al r q) (hs : Ext loc st s1)
    (k : ∀ d s2 x w2 G, R s2 d x G → Fp loc F st al G → Ext loc s1 s2 → Ext loc st s2 → Wd loc s2 w2 → PostR R2 loc F st al' (f d s2) (g x w2)) : PostR R2 loc F st al' (r.bind f) (q.bind g) := by
  cases q with
  | ok x w' => obtain ⟨d, s, G, rfl, b, c, e, f'⟩ := h; exact k d s x w' G b (c.up hs.le fun _ h => h) e (hs.trans e) f'
  | er x w' => obtain ⟨ex, s, rfl, b, c, f'⟩ := h; exact ⟨ex, s, rfl, b, hs.trans c, f'⟩
  | no => trivial
theorem mem_pick {b : Bool} {al : List Nat} {i : Nat} (hb : b = true) (h : i ∈ al) : i ∈ pick b al := by rw [pick, if_pos hb]; exact h
theorem post_op {f : F2} {g : Vl → Vl → Option Vl} {s0 : Sto} {dx dy : D} {x y : Vl} {Gx Gy : List Nat} (o : OpOk f g ax ay fr) (hx : Rp s1 dx x Gx) (hy : Rp s1 dy y Gy) (px : Fp loc F st al1 Gx) (py : Fp loc F st al2 Gy) (e : Ext loc st s1) (q : Wd loc s1 w) :
    PostR (RpF fr st.length) loc F st (pick ax al1 ++ pick ay al2) (f dx dy s1).re (vre (g x y) w) := by
  cases hz : g x y with
  | none => trivial
  | some z =>
    obtain ⟨d, ex, G, e1, rp, hG, hf⟩ := o s1 dx dy x y z Gx Gy hx hy hz
    refine ⟨d, s1 ++ ex, G, by rw [e1]; rfl, ⟨rp, fun q k hk => Nat.le_trans e.le (hf q k hk)⟩, ⟨fun k hk => ?_, fun k hk => ?_⟩, e.trans (Ext.app _), q.app _⟩
    · rcases hG k hk with h | ⟨_, h⟩ | ⟨_, h⟩
      · exact q.fresh h
      · exact px.1 k h
      · exact py.1 k h
    · rcases hG k hk with h | ⟨hb, h⟩ | ⟨hb, h⟩
      · exact .inl (Nat.le_trans e.le h)
      · exact (px.2 k h).imp id fun ⟨i, a, b⟩ => ⟨i, List.mem_append_left _ (mem_pick hb a), b⟩
      · exact (py.2 k h).imp id fun ⟨i, a, b⟩ => ⟨i, List.mem_append_right _ (mem_pick hb a), b⟩
theorem se_op {f : F2} {g : Vl → Vl → Option Vl} (o : OpOk f g ax ay fr) (ha : SoundE dl a va al1 f1) (hb : SoundE dl b vb al2 f2) : SoundE dl (dOp f a b) (vOp g va vb) (pick ax al1 ++ pick ay al2) fr := fun loc st en ve w F r =>
  (ha loc st en ve w F r).bind fun dx s1 x w1 Gx hx px e1 q1 => (hb loc s1 en ve w1 F (r.ext e1 q1)).bind' e1 fun dy s2 y w2 Gy hy py e12 e2 q2 =>
    post_op (s0 := st) o (hx.1.ext px.1 e12) hy.1 px py e2 q2
theorem se_un {f : D → Sto → Vr} {g : Vl → Option Vl} (o : UnOk f g) (ha : SoundE dl a va al1 f1) : SoundE dl (dUn f a) (vUn g va) [] false := fun loc st en ve w F r =>
  (ha loc st en ve w F r).bind fun dx s1 x w1 Gx hx px e1 q1 => by
    cases hz : g x with
    | none => trivial
    | some z =>
      obtain ⟨d, e, rp⟩ := o s1 dx x z Gx hx.1 hz
      exact ⟨d, s1, [], by rw [e]; rfl, ⟨rp, fun q => nomatch q⟩, Fp.nil, e1, q1⟩
theorem sa_nil : SoundA dl dNil vNil [] := fun loc st en ve w F r => ⟨[], st, [], rfl, .nil, Fp.nil, Ext.refl, r.wd⟩
theorem sa_cons (ha : SoundE dl a va al1 f1) (hr : SoundA dl aa vaa al2) : SoundA dl (dCons a aa) (vCons va vaa) (al1 ++ al2) := fun loc st en ve w F r =>
  (ha loc st en ve w F r).bind fun dx s1 x w1 Gx hx px e1 q1 => (hr loc s1 en ve w1 F (r.ext e1 q1)).bind' e1 fun dy s2 y w2 Gy hy py e12 e2 q2 =>
    ⟨dx :: dy, s2, Gx ++ Gy, rfl, Rps.cons (hx.1.ext px.1 e12) hy, px.app py, e2, q2⟩
theorem post_cb {f : FN} {g : List Vl → Option Vl} (o : CbOk f g ax fr) (hx : Rps s1 ds vs G) (px : Fp loc F st al1 G) (e : Ext loc st s1) (q : Wd loc s1 w) :
    PostR (RpF fr st.length) loc F st (pick ax al1) (f ds s1).re (vre (g vs) w) := by
  cases hz : g vs with
  | none => trivial
  | some z =>
    obtain ⟨d, ex, G', e1, rp, hG, hf⟩ := o s1 ds vs z G hx hz
    refine ⟨d, s1 ++ ex, G', by rw [e1]; rfl, ⟨rp, fun q k hk => Nat.le_trans e.le (hf q k hk)⟩, ⟨fun k hk => ?_, fun k hk => ?_⟩, e.trans (Ext.app _), q.app _⟩
    · rcases hG k hk with h | ⟨_, h⟩
      · exact q.fresh h
      · exact px.1 k h
    · rcases hG k hk with h | ⟨hb, h⟩
      · exact .inl (Nat.le_trans e.le h)
      · exact (px.2 k h).imp id fun ⟨i, a, b⟩ => ⟨i, mem_pick hb a, b⟩
theorem se_cb {f : FN} {g : List Vl → Option Vl} (o : CbOk f g ax fr) (ha : SoundA dl aa vaa al1) : SoundE dl (dCB f aa) (vCB g vaa) (pick ax al1) fr := fun loc st en ve w F r =>
  (ha loc st en ve w F r).bind fun dx s1 x w1 Gx hx px e1 q1 => post_cb o hx px e1 q1
theorem se_if (hc : SoundB dl ba vba) (ha : SoundE dl a va al1 f1) (hb : SoundE dl b vb al2 f2) : SoundE dl (dIf ba a b) (vIf vba va vb) (al1 ++ al2) (f1 && f2) := fun loc st en ve w F r =>
  (hc loc st en ve w F r).bind fun dx s1 x w1 Gx hx px e1 q1 => by
    obtain ⟨rfl, _⟩ := hx
    cases dx with
    | true =>
      simp only [if_true]
      exact (ha loc s1 en ve w1 F (r.ext e1 q1)).up e1 (fun i h => List.mem_append_left _ h) fun _ _ _ _ h => ⟨h.1, fun q k hk => Nat.le_trans e1.le (h.2 (by simp at q; exact q.1) k hk)⟩
    | false =>
      simp only [Bool.false_eq_true, if_false]
      exact (hb loc s1 en ve w1 F (r.ext e1 q1)).up e1 (fun i h => List.mem_append_right _ h) fun _ _ _ _ h => ⟨h.1, fun q k hk => Nat.le_trans e1.le (h.2 (by simp at q; exact q.2) k hk)⟩
theorem se_tup (ha : SoundA dl aa vaa al1) : SoundE dl (dTup aa) (vTup vaa) al1 true := fun loc st en ve w F r =>
  (ha loc st en ve w F r).bind fun dx s1 x w1 Gx hx px e1 q1 => by
    have hl := hx.len
    by_cases h : x.length ≤ 16777216
    · rw [if_pos h, if_pos (by omega)]
      exact ⟨_, s1, Gx, rfl, ⟨Rp.tup hx, fun _ k h => nomatch h⟩, px, e1, q1⟩
    · rw [if_neg h]; trivial
theorem se_lst (ha : SoundA dl aa vaa al1) : SoundE dl (dLst aa) (vLst vaa) al1 true := fun loc st en ve w F r =>
  (ha loc st en ve w F r).bind fun dx s1 x w1 Gx hx px e1 q1 => by
    have hl := hx.len
    by_cases h : x.length ≤ 16777216
    · rw [if_pos h, if_pos (by omega)]
      refine ⟨_, s1 ++ [.lst dx], s1.length :: Gx, rfl, ⟨Rp.lst (by simp) (hx.ext px.1 (Ext.app _)), fun _ k h => by cases h; exact e1.le⟩, ⟨fun k hk => ?_, fun k hk => ?_⟩, e1.trans (Ext.app _), q1.app _⟩
      · rcases List.mem_cons.mp hk with rfl | hk
        · exact q1.fresh (Nat.le_refl _)
        · exact px.1 k hk
      · rcases List.mem_cons.mp hk with rfl | hk
        · exact .inl e1.le
        · exact px.2 k hk
    · rw [if_neg h]; trivial
theorem truV_ok {x : Vl} {k : Bool} (h : Rp st d x G) (e : truV x = some k) : truD st d = some k := by
  cases x with
  | non => cases e; rw [h.non_inv.1]; rfl
  | bl b => cases e; rw [h.bl_inv.1]; rfl
  | int i => cases e; rw [h.int_inv.1]; by_cases z : i = 0 <;> simp [truD, z]
  | tup xs =>
    cases e
    obtain ⟨es, rfl, hs⟩ := Rp.tup_inv h
    have := hs.len
    simp only [truD]
    cases es <;> cases xs <;> simp_all
  | lst xs =>
    cases e
    obtain ⟨k, es, E, rfl, rfl, hk, hs⟩ := Rp.lst_inv h
    have := hs.len
    simp only [truD, hk]
    cases es <;> cases xs <;> simp_all
  | _ => cases e
theorem sb_tru (ha : SoundE dl a va al1 f1) : SoundB dl (bTru a) (vTru va) := fun loc st en ve w F r =>
  (ha loc st en ve w F r).bind fun dx s1 x w1 Gx hx px e1 q1 => by
    cases e : truV x with
    | none => trivial
    | some k =>
      rw [truV_ok hx.1 e]
      exact ⟨k, s1, [], rfl, ⟨rfl, rfl⟩, Fp.nil, e1, q1⟩
theorem post_bl {f : F2} {g : Vl → Vl → Option Vl} {dx dy : D} {x y : Vl} {Gx Gy : List Nat} (o : OpOk f g ax ay fr) (hx : Rp s1 dx x Gx) (hy : Rp s1 dy y Gy) (e : Ext loc st s1) (q : Wd loc s1 w) :
    PostR RB loc F st [] (match f dx dy s1 with | some (.bl k, s3) => Re.ok k s3 | _ => .no) (blV (g x y) w) := by
  cases hz : g x y with
  | none => trivial
  | some z =>
    cases z with
    | bl k =>
      obtain ⟨d, ex, G, e1, rp, hG, hf⟩ := o s1 dx dy x y _ Gx Gy hx hy hz
      obtain ⟨rfl, rfl⟩ := rp.bl_inv
      rw [e1]
      exact ⟨k, _, [], rfl, ⟨rfl, rfl⟩, Fp.nil, e.trans (Ext.app _), q.app _⟩
    | _ => trivial
theorem sb_cmp {f : F2} {g : Vl → Vl → Option Vl} (o : OpOk f g ax ay fr) (ha : SoundE dl a va al1 f1) (hb : SoundE dl b vb al2 f2) : SoundB dl (bCmp f a b) (vCmp g va vb) := fun loc st en ve w F r =>
  (ha loc st en ve w F r).bind fun dx s1 x w1 Gx hx px e1 q1 => (hb loc s1 en ve w1 F (r.ext e1 q1)).bind' e1 fun dy s2 y w2 Gy hy py e12 e2 q2 =>
    post_bl o (hx.1.ext px.1 e12) hy.1 e2 q2
theorem op_bl {f : F2} {g : Vl → Vl → Option Vl} {dx dy : D} {x y : Vl} {Gx Gy : List Nat} (o : OpOk f g ax ay fr) (hx : Rp s1 dx x Gx) (hy : Rp s1 dy y Gy) : (∃ k ex, f dx dy s1 = some (.bl k, s1 ++ ex) ∧ g x y = some (.bl k)) ∨ ∀ w, blV (g x y) w = .no := by
  cases hz : g x y with
  | none => exact .inr fun _ => rfl
  | some z =>
    cases z with
    | bl k =>
      obtain ⟨d, ex, G, e1, rp, hG, hf⟩ := o s1 dx dy x y _ Gx Gy hx hy hz
      obtain ⟨rfl, rfl⟩ := rp.bl_inv
      exact .inl ⟨k, ex, e1, rfl⟩
    | _ => exact .inr fun _ => rfl
theorem sb_chain {f f' : F2} {g g' : Vl → Vl → Option Vl} {ax' ay' fr' : Bool} (o : OpOk f g ax ay fr) (o' : OpOk f' g' ax' ay' fr') (ha : SoundE dl a va al1 f1) (hb : SoundE dl b vb al2 f2) (hc : SoundE dl c vc al3 f3) : SoundB dl (bChain f f' a b c) (vBChain g g' va vb vc) := fun loc st en ve w F r =>
  (ha loc st en ve w F r).bind fun dx s1 x w1 Gx hx px e1 q1 => (hb loc s1 en ve w1 F (r.ext e1 q1)).bind' e1 fun dy s2 y w2 Gy hy py e12 e2 q2 => by
    rcases op_bl o (hx.1.ext px.1 e12) hy.1 with ⟨k, ex, h1, h2⟩ | h
    · rw [h1, h2]
      have e3 := e2.trans (Ext.app (loc := loc) (st := s2) ex)
      have q3 := q2.app ex
      cases k with
      | false => exact ⟨false, _, [], rfl, ⟨rfl, rfl⟩, Fp.nil, e3, q3⟩
      | true => exact (hc loc (s2 ++ ex) en ve w2 F (r.ext e3 q3)).bind' e3 fun dz s4 z w4 Gz hz pz e34 e4 q4 => post_bl o' ((hy.1.ext py.1 (Ext.app ex)).ext py.1 e34) hz.1 e4 q4
    · rw [h w2]; trivial
theorem post_re {f : F2} {g : Vl → Vl → Option Vl} {dx dy : D} {x y : Vl} {Gx Gy : List Nat} (o : OpOk f g false false fr) (hx : Rp s1 dx x Gx) (hy : Rp s1 dy y Gy) (px : ∀ k ∈ Gx, NotDr loc k) (py : ∀ k ∈ Gy, NotDr loc k) (e : Ext loc st s1) (q : Wd loc s1 w) :
    PostR (RpF fr st.length) loc F st [] (f dx dy s1).re (vre (g x y) w) := by
  cases hz : g x y with
  | none => trivial
  | some z =>
    obtain ⟨d, ex, G, e1, rp, hG, hf⟩ := o s1 dx dy x y z Gx Gy hx hy hz
    refine ⟨d, s1 ++ ex, G, by rw [e1]; rfl, ⟨rp, fun q k hk => Nat.le_trans e.le (hf q k hk)⟩, ⟨fun k hk => ?_, fun k hk => ?_⟩, e.trans (Ext.app _), q.app _⟩
    · rcases hG k hk with h | ⟨h, _⟩ | ⟨h, _⟩
      · exact q.fresh h
      · cases h
      · cases h
    · rcases hG k hk with h | ⟨h, _⟩ | ⟨h, _⟩
      · exact .inl (Nat.le_trans e.le h)
      · cases h
      · cases h
theorem se_chain {f f' : F2} {g g' : Vl → Vl → Option Vl} (o : OpOk f g ax ay fr) (o' : OpOk f' g' false false false) (ha : SoundE dl a va al1 f1) (hb : SoundE dl b vb al2 f2) (hc : SoundE dl c vc al3 f3) : SoundE dl (dChain f f' a b c) (vChain g g' va vb vc) [] false := fun loc st en ve w F r =>
  (ha loc st en ve w F r).bind fun dx s1 x w1 Gx hx px e1 q1 => (hb loc s1 en ve w1 F (r.ext e1 q1)).bind' e1 fun dy s2 y w2 Gy hy py e12 e2 q2 => by
    rcases op_bl o (hx.1.ext px.1 e12) hy.1 with ⟨k, ex, h1, h2⟩ | h
    · rw [h1, h2]
      have e3 := e2.trans (Ext.app (loc := loc) (st := s2) ex)
      have q3 := q2.app ex
      cases k with
      | false => exact ⟨.bl false, _, [], rfl, ⟨.bl _ .nil, fun q => nomatch q⟩, Fp.nil, e3, q3⟩
      | true => exact (hc loc (s2 ++ ex) en ve w2 F (r.ext e3 q3)).bind' e3 fun dz s4 z w4 Gz hz pz e34 e4 q4 => post_re o' ((hy.1.ext py.1 (Ext.app ex)).ext py.1 e34) hz.1 py.1 pz.1 e4 q4
    · rw [h w2]; trivial
theorem sb_and (ha : SoundB dl ba vba) (hb : SoundB dl bb vbb) : SoundB dl (bAnd ba bb) (vBAnd vba vbb) := fun loc st en ve w F r =>
  (ha loc st en ve w F r).bind fun k s1 k' w1 _ hk _ e1 q1 => by
    obtain ⟨rfl, _⟩ := hk
    cases k with
    | false => exact ⟨false, s1, [], rfl, ⟨rfl, rfl⟩, Fp.nil, e1, q1⟩
    | true => exact (hb loc s1 en ve w1 F (r.ext e1 q1)).up e1 (fun _ h => h) fun _ _ _ _ h => h
theorem sb_or (ha : SoundB dl ba vba) (hb : SoundB dl bb vbb) : SoundB dl (bOr ba bb) (vBOr vba vbb) := fun loc st en ve w F r =>
  (ha loc st en ve w F r).bind fun k s1 k' w1 _ hk _ e1 q1 => by
    obtain ⟨rfl, _⟩ := hk
    cases k with
    | true => exact ⟨true, s1, [], rfl, ⟨rfl, rfl⟩, Fp.nil, e1, q1⟩
    | false => exact (hb loc s1 en ve w1 F (r.ext e1 q1)).up e1 (fun _ h => h) fun _ _ _ _ h => h
theorem sb_not (ha : SoundB dl ba vba) : SoundB dl (bNot ba) (vBNot vba) := fun loc st en ve w F r =>
  (ha loc st en ve w F r).bind fun k s1 k' w1 _ hk _ e1 q1 => by
    obtain ⟨rfl, _⟩ := hk
    exact ⟨!k, s1, [], rfl, ⟨rfl, rfl⟩, Fp.nil, e1, q1⟩
theorem se_and (ha : SoundE dl a va al1 f1) (hb : SoundE dl b vb al2 f2) : SoundE dl (dAnd a b) (vAnd va vb) al2 false := fun loc st en ve w F r =>
  (ha loc st en ve w F r).bind fun dx s1 x w1 Gx hx px e1 q1 => by
    cases x with
    | bl k =>
      obtain ⟨rfl, _⟩ := hx.1.bl_inv
      cases k with
      | false => exact ⟨.bl false, s1, [], rfl, ⟨.bl _ .nil, fun q => nomatch q⟩, Fp.nil, e1, q1⟩
      | true => exact (hb loc s1 en ve w1 F (r.ext e1 q1)).up e1 (fun _ h => h) fun _ _ _ _ h => ⟨h.1, fun q => nomatch q⟩
    | _ => trivial
theorem se_or (ha : SoundE dl a va al1 f1) (hb : SoundE dl b vb al2 f2) : SoundE dl (dOr a b) (vOr va vb) al2 false := fun loc st en ve w F r =>
  (ha loc st en ve w F r).bind fun dx s1 x w1 Gx hx px e1 q1 => by
    cases x with
    | bl k =>
      obtain ⟨rfl, _⟩ := hx.1.bl_inv
      cases k with
      | true => exact ⟨.bl true, s1, [], rfl, ⟨.bl _ .nil, fun q => nomatch q⟩, Fp.nil, e1, q1⟩
      | false => exact (hb loc s1 en ve w1 F (r.ext e1 q1)).up e1 (fun _ h => h) fun _ _ _ _ h => ⟨h.1, fun q => nomatch q⟩
    | _ => trivial
theorem se_not (ha : SoundE dl a va al1 f1) : SoundE dl (dNot a) (vNot va) [] false := fun loc st en ve w F r =>
  (ha loc st en ve w F r).bind fun dx s1 x w1 Gx hx px e1 q1 => by
    cases x with
    | bl k =>
      obtain ⟨rfl, _⟩ := hx.1.bl_inv
      exact ⟨.bl (!k), s1, [], rfl, ⟨.bl _ .nil, fun q => nomatch q⟩, Fp.nil, e1, q1⟩
    | _ => trivial
theorem se_no {e : ED} : SoundE dl e vNo [] true := fun _ _ _ _ _ _ _ => trivial
theorem sb_no {e : BD} : SoundB dl e vBNo := fun _ _ _ _ _ _ _ => trivial
theorem sb_yes : SoundB dl bYes vBYes := fun loc st en ve w F r => ⟨true, st, [], rfl, ⟨rfl, rfl⟩, Fp.nil, Ext.refl, r.wd⟩
end
end Gv
namespace Gv
open PySem PySem.Spec L2

/-! ### the operations -/
def vpdS : Vl → Option PyData
  | .lst xs => (vpds xs).map .list
  | v => vpd v
def vints : List Vl → Option (List Int)
  | [] => some []
  | .int b :: ds => (vints ds).map fun bs => b :: bs
  | _ => none
def itup : Vl → Option (List Int)
  | .tup xs => vints xs
  | _ => none
def gEqD (neg : Bool) (x y : Vl) : Option Vl := match itup x, itup y with
  | some ns, some ms => some (.bl (if neg then !decide (ns = ms) else decide (ns = ms)))
  | _, _ => match vpdS x, vpdS y with
    | some p, some q => if SeqAt.shaped p = true ∧ SeqAt.shaped q = true then some (.bl (if neg then !PyData.eqv p q else PyData.eqv p q)) else none
    | _, _ => none
def gEq (x y : Vl) : Option Vl := match x, y with
  | .int i, .int j => some (.bl (decide (i = j)))
  | .str i, .str j => some (.bl (decide (i = j)))
  | .bl i, .bl j => some (.bl (decide (i = j)))
  | x, y => gEqD false x y
def gNe (x y : Vl) : Option Vl := match x, y with
  | .int i, .int j => some (.bl (!decide (i = j)))
  | .str i, .str j => some (.bl (!decide (i = j)))
  | .bl i, .bl j => some (.bl (!decide (i = j)))
  | x, y => gEqD true x y
def gInt (g : Int → Int → Vl) (x y : Vl) : Option Vl := match x, y with
  | .int i, .int j => some (g i j)
  | _, _ => none
def gIntC (C : Int → Int → Bool) (g : Int → Int → Vl) (x y : Vl) : Option Vl := match x, y with
  | .int i, .int j => if C i j = true then some (g i j) else none
  | _, _ => none
abbrev gLt := gInt fun i j => .bl (decide (i < j))
abbrev gLe := gInt fun i j => .bl (decide (i ≤ j))
abbrev gGt := gInt fun i j => .bl (decide (j < i))
abbrev gGe := gInt fun i j => .bl (decide (j ≤ i))
abbrev gSub := gInt fun i j => .int (i - j)
abbrev gXor := gInt fun i j => .int (Builtin.bitXor i j)
abbrev gAnd := gInt fun i j => .int (Builtin.bitAnd i j)
abbrev gOr := gInt fun i j => .int (Builtin.bitOr i j)
abbrev gDiv := gIntC (fun _ j => decide (0 < j) && decide (j < 1073741824)) fun i j => .int (i / j)
abbrev gMod := gIntC (fun _ j => decide (0 < j)) fun i j => .int (i % j)
abbrev gPow := gIntC cPow fun i j => .int (i ^ j.toNat)
abbrev gShl := gIntC cPow fun i j => .int (i * 2 ^ j.toNat)
abbrev gShr := gIntC (fun _ j => decide (0 ≤ j)) fun i j => .int (i / 2 ^ j.toNat)
def gMul (x y : Vl) : Option Vl := match x, y with
  | .int i, .int j => if cMul i j = true then some (.int (i * j)) else none
  | .tup xs, .int k => if xs ≠ [] ∧ 2 ≤ k ∧ k ≤ 1000 ∧ xs.length ≤ 1000 then some (.tup (List.replicate k.toNat xs).flatten) else none
  | .lst xs, .int k => if -9223372036854775808 ≤ k ∧ k < 9223372036854775808 ∧ xs.length * k.toNat ≤ 16777216 then some (.lst (List.replicate k.toNat xs).flatten) else none
  | _, _ => none
def gAdd (x y : Vl) : Option Vl := match x, y with
  | .int i, .int j => some (.int (i + j))
  | .str a, .str b => if a.length + b.length ≤ 16777216 then some (.str (a ++ b)) else none
  | .tup xs, .tup ys => if xs.length + ys.length ≤ 16777216 then some (.tup (xs ++ ys)) else none
  | .lst xs, .lst ys => if xs.length + ys.length ≤ 16777216 then some (.lst (xs ++ ys)) else none
  | _, _ => none
def vkey : Vl → Option Key
  | .int i => some (.inl i)
  | .str x => some (.inr x)
  | _ => none
def vkeys : List Vl → Option (List Key)
  | [] => some []
  | d :: ds => match vkey d, vkeys ds with
    | some k, some ks => some (k :: ks)
    | _, _ => none
def valV {κ : Type} [DecidableEq κ] (kvs : List (κ × Vl)) (k : κ) : Option Vl := (kvs.find? fun kv => decide (kv.1 = k)).map (·.2)
def putV {κ : Type} [DecidableEq κ] (kvs : List (κ × Vl)) (k : κ) (v : Vl) : List (κ × Vl) := if (kvs.any fun kv => decide (kv.1 = k)) = true then kvs.map fun kv => if kv.1 = k then (kv.1, v) else kv else kvs ++ [(k, v)]
/-- what a dict tells of a key -/
def getVd (o k : Vl) : Option (Option Vl) := match o with
  | .dK kvs => (vkey k).map fun j => valV kvs j
  | .dT kvs => match k with
    | .tup ks => (vkeys ks).map fun js => valV kvs js
    | _ => none
  | _ => none
def gIx (x y : Vl) : Option Vl := match x with
  | .tup xs => match y with
    | .int i => atI xs i
    | _ => none
  | .lst xs => match y with
    | .int i => atI xs i
    | _ => none
  | .str z => match y with
    | .int i => if z.length ≤ 16777216 then (atI z.cps.toList i).map fun c => .str ⟨#[c]⟩ else none
    | _ => none
  | .dK kvs => (getVd (.dK kvs) y).bind id
  | .dT kvs => (getVd (.dT kvs) y).bind id
  | _ => none
def int? : Vl → Option Int
  | .int i => some i
  | _ => none
def inV (neg : Bool) (x : Vl) (ys : List Vl) : Option Vl := match int? x, vints ys with
  | some i, some ns => some (.bl (if neg then !ns.contains i else ns.contains i))
  | _, _ => match vpd x, vpds ys with
  | some p, some ps => if SeqAt.shaped p = true ∧ SeqAt.shaped (.list ps) = true then some (.bl (if neg then !(ps.any fun z => PyData.eqv z p) else ps.any fun z => PyData.eqv z p)) else none
  | _, _ => none
def gIn (neg : Bool) (x y : Vl) : Option Vl := match y with
  | .tup xs => inV neg x xs
  | .lst xs => inV neg x xs
  | .str b => match x with
    | .str a => some (.bl (if neg then !(!(Builtin.Str.occurrences b a 0 b.length 1).isEmpty) else !(Builtin.Str.occurrences b a 0 b.length 1).isEmpty))
    | _ => none
  | .dK kvs => (getVd (.dK kvs) x).map fun r => .bl (if neg then !r.isSome else r.isSome)
  | .dT kvs => (getVd (.dT kvs) x).map fun r => .bl (if neg then !r.isSome else r.isSome)
  | _ => none
def nonV : Vl → Bool
  | .non => true
  | _ => false
def gIs (neg : Bool) (x y : Vl) : Option Vl := match y with
  | .non => some (.bl (if neg then !nonV x else nonV x))
  | .bl b => match x with
    | .bl a => some (.bl (if neg then !decide (a = b) else decide (a = b)))
    | _ => none
  | _ => none
def gNeg : Vl → Option Vl
  | .int i => some (.int (-i))
  | _ => none
section
variable {st : Sto} {ds : List D} {vs : List Vl} {G : List Nat} {d : D} {v : Vl}
theorem pdS_ok {p : PyData} (h : Rp st d v G) (e : vpdS v = some p) : pdS st d = some p := by
  cases v with
  | lst xs =>
    obtain ⟨k, es, E, rfl, rfl, hk, hs⟩ := Rp.lst_inv h
    simp only [vpdS, Option.map_eq_some_iff] at e
    obtain ⟨ps, e, rfl⟩ := e
    simp only [pdS, hk, (hs.plain e).1, Option.map_some]
  | non => obtain ⟨rfl, _⟩ := h.non_inv; exact e
  | bl b => obtain ⟨rfl, _⟩ := h.bl_inv; exact e
  | int b => obtain ⟨rfl, _⟩ := h.int_inv; exact e
  | str b => obtain ⟨rfl, _⟩ := h.str_inv; exact e
  | tup xs =>
    have := (Rp.plain h (by simpa [vpdS] using e)).1
    obtain ⟨es, rfl, _⟩ := Rp.tup_inv h
    exact this
  | dK => cases e
  | dT => cases e
theorem vints_eq : ∀ {vs ds G bs}, Rps st ds vs G → vints vs = some bs → ds = bs.map .int ∧ G = []
  | [], _, _, _, h, e => by obtain ⟨rfl, rfl⟩ := h.nil_r; cases e; exact ⟨rfl, rfl⟩
  | v :: vs, _, _, _, h, e => by
    obtain ⟨d, es, A, B, rfl, rfl, a, b⟩ := h.uncons'
    cases v with
    | int k =>
      obtain ⟨rfl, rfl⟩ := a.int_inv
      simp only [vints, Option.map_eq_some_iff] at e
      obtain ⟨bs, e, rfl⟩ := e
      obtain ⟨rfl, rfl⟩ := vints_eq b e
      exact ⟨rfl, rfl⟩
    | _ => cases e
theorem itup_ok {v : Vl} {d : D} {G : List Nat} {ns : List Int} (h : Rp st d v G) (e : itup v = some ns) : d = .tup (ns.map .int) := by
  cases v with
  | tup xs =>
    obtain ⟨es, rfl, hs⟩ := Rp.tup_inv h
    rw [(vints_eq hs e).1]
  | _ => cases e
theorem eqD_ok {neg : Bool} {x y z : Vl} {dx dy : D} {Gx Gy : List Nat} (hx : Rp st dx x Gx) (hy : Rp st dy y Gy) (h : gEqD neg x y = some z) : ∃ k, fEqD neg dx dy st = some (.bl k, st) ∧ z = .bl k := by
  unfold gEqD at h
  split at h
  · rename_i ns ms e1 e2
    cases h
    refine ⟨_, ?_, rfl⟩
    rw [itup_ok hx e1, itup_ok hy e2]
    have hp : ∀ ns : List Int, (D.tup (ns.map .int)).pl = true := fun ns => by simpa [D.pl] using plL_ints ns
    have hd : ∀ ns : List Int, (D.tup (ns.map .int)).dp ≤ 64 := fun ns => by simp [D.dp, dpL_ints]
    rw [fEqD_pl neg (hp ns) (hp ms) (hd ns) (hd ms) st, beqD, beqDs_ints]
  · split at h
    · rename_i p q e1 e2
      split at h
      · rename_i hs
        cases h
        refine ⟨_, ?_, rfl⟩
        unfold fEqD
        rw [pdS_ok hx e1, pdS_ok hy e2]
        exact if_pos hs
      · cases h
    · cases h
/-- a flat answer, the store as it was -/
theorem OpOk.of {f : F2} {g : Vl → Vl → Option Vl} {ax ay fr : Bool} (h : ∀ st dx dy x y z Gx Gy, Rp st dx x Gx → Rp st dy y Gy → g x y = some z → ∃ d, f dx dy st = some (d, st) ∧ Rp st d z [] ∧ ∀ k, d ≠ .obj k) : OpOk f g ax ay fr :=
  fun st dx dy x y z Gx Gy hx hy e => by
    obtain ⟨d, a, b, c⟩ := h st dx dy x y z Gx Gy hx hy e
    exact ⟨d, [], [], by rw [List.append_nil]; exact a, by rw [List.append_nil]; exact b, fun _ h => (nomatch h), fun _ k e => absurd e (c k)⟩
theorem fEq_int_bl (i : Int) (dy : D) (st : Sto) : True := trivial
theorem ok_eq : OpOk fEq gEq false false false := .of fun st dx dy x y z Gx Gy hx hy e => by
  unfold gEq at e
  split at e
  · obtain ⟨rfl, _⟩ := hx.int_inv; obtain ⟨rfl, _⟩ := hy.int_inv; cases e; exact ⟨_, rfl, .bl _ .nil, fun _ h => nomatch h⟩
  · obtain ⟨rfl, _⟩ := hx.str_inv; obtain ⟨rfl, _⟩ := hy.str_inv; cases e; exact ⟨_, rfl, .bl _ .nil, fun _ h => nomatch h⟩
  · obtain ⟨rfl, _⟩ := hx.bl_inv; obtain ⟨rfl, _⟩ := hy.bl_inv; cases e; exact ⟨_, rfl, .bl _ .nil, fun _ h => nomatch h⟩
  · rename_i n1 n2 n3
    obtain ⟨k, e1, rfl⟩ := eqD_ok hx hy e
    refine ⟨_, ?_, .bl _ .nil, fun _ h => nomatch h⟩
    unfold fEq
    split
    · cases hx; cases hy; exact (n1 _ _ rfl rfl).elim
    · cases hx; cases hy; exact (n2 _ _ rfl rfl).elim
    · cases hx; cases hy; exact (n3 _ _ rfl rfl).elim
    · exact e1
theorem ok_ne : OpOk fNe gNe false false false := .of fun st dx dy x y z Gx Gy hx hy e => by
  unfold gNe at e
  split at e
  · obtain ⟨rfl, _⟩ := hx.int_inv; obtain ⟨rfl, _⟩ := hy.int_inv; cases e; exact ⟨_, rfl, .bl _ .nil, fun _ h => nomatch h⟩
  · obtain ⟨rfl, _⟩ := hx.str_inv; obtain ⟨rfl, _⟩ := hy.str_inv; cases e; exact ⟨_, rfl, .bl _ .nil, fun _ h => nomatch h⟩
  · obtain ⟨rfl, _⟩ := hx.bl_inv; obtain ⟨rfl, _⟩ := hy.bl_inv; cases e; exact ⟨_, rfl, .bl _ .nil, fun _ h => nomatch h⟩
  · rename_i n1 n2 n3
    obtain ⟨k, e1, rfl⟩ := eqD_ok hx hy e
    refine ⟨_, ?_, .bl _ .nil, fun _ h => nomatch h⟩
    unfold fNe
    split
    · cases hx; cases hy; exact (n1 _ _ rfl rfl).elim
    · cases hx; cases hy; exact (n2 _ _ rfl rfl).elim
    · cases hx; cases hy; exact (n3 _ _ rfl rfl).elim
    · exact e1
theorem ok_int {g : Int → Int → D} {g' : Int → Int → Vl} (h : ∀ i j st, Rp st (g i j) (g' i j) [] ∧ ∀ k, g i j ≠ .obj k) : OpOk (fInt g) (gInt g') false false false := .of fun st dx dy x y z Gx Gy hx hy e => by
  unfold gInt at e
  split at e
  · obtain ⟨rfl, _⟩ := hx.int_inv; obtain ⟨rfl, _⟩ := hy.int_inv; cases e; exact ⟨_, rfl, (h _ _ _).1, (h _ _ st).2⟩
  · cases e
theorem ok_intC {C : Int → Int → Bool} {g : Int → Int → D} {g' : Int → Int → Vl} (h : ∀ i j st, Rp st (g i j) (g' i j) [] ∧ ∀ k, g i j ≠ .obj k) : OpOk (fIntC C g) (gIntC C g') false false false := .of fun st dx dy x y z Gx Gy hx hy e => by
  unfold gIntC at e
  split at e
  · obtain ⟨rfl, _⟩ := hx.int_inv; obtain ⟨rfl, _⟩ := hy.int_inv
    split at e
    · rename_i hc; cases e; exact ⟨_, if_pos hc, (h _ _ _).1, (h _ _ st).2⟩
    · cases e
  · cases e
theorem rbl (b : Bool) (st : Sto) : Rp st (.bl b) (.bl b) [] ∧ ∀ k, D.bl b ≠ .obj k := ⟨.bl _ .nil, fun _ h => nomatch h⟩
theorem rint (b : Int) (st : Sto) : Rp st (.int b) (.int b) [] ∧ ∀ k, D.int b ≠ .obj k := ⟨.int _ .nil, fun _ h => nomatch h⟩
theorem ok_lt : OpOk fLt gLt false false false := ok_int fun _ _ _ => rbl _ _
theorem ok_le : OpOk fLe gLe false false false := ok_int fun _ _ _ => rbl _ _
theorem ok_gt : OpOk fGt gGt false false false := ok_int fun _ _ _ => rbl _ _
theorem ok_ge : OpOk fGe gGe false false false := ok_int fun _ _ _ => rbl _ _
theorem ok_sub : OpOk fSub gSub false false false := ok_int fun _ _ _ => rint _ _
theorem ok_xor : OpOk fXor gXor false false false := ok_int fun _ _ _ => rint _ _
theorem ok_and : OpOk fAnd gAnd false false false := ok_int fun _ _ _ => rint _ _
theorem ok_or : OpOk fOr gOr false false false := ok_int fun _ _ _ => rint _ _
theorem ok_div : OpOk fDiv gDiv false false false := ok_intC fun _ _ _ => rint _ _
theorem ok_mod : OpOk fMod gMod false false false := ok_intC fun _ _ _ => rint _ _
theorem ok_pow : OpOk fPow gPow false false false := ok_intC fun _ _ _ => rint _ _
theorem ok_shl : OpOk fShl gShl false false false := ok_intC fun _ _ _ => rint _ _
theorem ok_shr : OpOk fShr gShr false false false := ok_intC fun _ _ _ => rint _ _
/-- a new list of things -/
theorem new_lst {es : List D} {us : List Vl} {E : List Nat} (h : Rps st es us E) : Rp (st ++ [.lst es]) (.obj st.length) (.lst us) (st.length :: E) := Rp.lst (by simp) (h.frame fun k hk => List.getElem?_append_left (h.lt k hk))
theorem ok_mul : OpOk fMul gMul true false true := fun st dx dy x y z Gx Gy hx hy e => by
  unfold gMul at e
  split at e
  · obtain ⟨rfl, _⟩ := hx.int_inv; obtain ⟨rfl, hgy⟩ := hy.int_inv
    split at e
    · rename_i hc; cases e; exact ⟨_, [], [], by rw [List.append_nil]; exact if_pos hc, .int _ .nil, fun _ h => (nomatch h), fun _ _ h => (nomatch h)⟩
    · cases e
  · obtain ⟨es, rfl, hs⟩ := Rp.tup_inv hx; obtain ⟨rfl, hgy⟩ := hy.int_inv
    have hl := hs.len
    rename_i k
    split at e
    · rename_i hc; cases e
      obtain ⟨A, ha, hb⟩ := hs.rep k.toNat
      refine ⟨.tup (List.replicate k.toNat es).flatten, [], A, by rw [List.append_nil]; exact if_pos ⟨fun z => hc.1 (by rw [z] at hl; exact List.eq_nil_of_length_eq_zero hl.symm), hc.2.1, hc.2.2.1, by omega⟩, by rw [List.append_nil]; exact Rp.tup ha, fun k h => .inr (.inl ⟨rfl, hb k h⟩), fun _ _ h => (nomatch h)⟩
    · cases e
  · obtain ⟨k, es, E, rfl, rfl, hk, hs⟩ := Rp.lst_inv hx; obtain ⟨rfl, hgy⟩ := hy.int_inv
    have hl := hs.len
    rename_i n
    split at e
    · rename_i hc; cases e
      obtain ⟨A, ha, hb⟩ := hs.rep n.toNat
      refine ⟨_, [.lst (List.replicate n.toNat es).flatten], _, by simp only [fMul, hk]; exact if_pos ⟨hc.1, hc.2.1, by rw [hl]; exact hc.2.2⟩, new_lst ha, fun k h => ?_, fun _ k h => by cases h; exact Nat.le_refl _⟩
      rcases List.mem_cons.mp h with rfl | h
      · exact .inl (Nat.le_refl _)
      · exact .inr (.inl ⟨rfl, List.mem_cons_of_mem _ (hb k h)⟩)
    · cases e
  · cases e
theorem ok_add : OpOk fAdd gAdd true true true := fun st dx dy x y z Gx Gy hx hy e => by
  unfold gAdd at e
  split at e
  · obtain ⟨rfl, _⟩ := hx.int_inv; obtain ⟨rfl, _⟩ := hy.int_inv
    cases e; exact ⟨_, [], [], by rw [List.append_nil]; rfl, .int _ .nil, fun _ h => (nomatch h), fun _ _ h => (nomatch h)⟩
  · obtain ⟨rfl, _⟩ := hx.str_inv; obtain ⟨rfl, _⟩ := hy.str_inv
    split at e
    · rename_i hc; cases e; exact ⟨_, [], [], by rw [List.append_nil]; exact if_pos hc, .str _ .nil, fun _ h => (nomatch h), fun _ _ h => (nomatch h)⟩
    · cases e
  · obtain ⟨es, rfl, hs⟩ := Rp.tup_inv hx; obtain ⟨fs, rfl, hs2⟩ := Rp.tup_inv hy
    have hl := hs.len
    have hl2 := hs2.len
    split at e
    · rename_i hc; cases e
      exact ⟨.tup (es ++ fs), [], _, by rw [List.append_nil]; exact if_pos (by omega), by rw [List.append_nil]; exact Rp.tup (hs.append hs2), fun k h => (List.mem_append.mp h).elim (fun h => .inr (.inl ⟨rfl, h⟩)) fun h => .inr (.inr ⟨rfl, h⟩), fun _ _ h => (nomatch h)⟩
    · cases e
  · obtain ⟨k, es, E, rfl, rfl, hk, hs⟩ := Rp.lst_inv hx; obtain ⟨k2, fs, E2, rfl, rfl, hk2, hs2⟩ := Rp.lst_inv hy
    have hl := hs.len
    have hl2 := hs2.len
    split at e
    · rename_i hc; cases e
      refine ⟨_, [.lst (es ++ fs)], _, by simp only [fAdd, hk, hk2]; exact if_pos (by omega), new_lst (hs.append hs2), fun k h => ?_, fun _ k h => by cases h; exact Nat.le_refl _⟩
      rcases List.mem_cons.mp h with rfl | h
      · exact .inl (Nat.le_refl _)
      · exact (List.mem_append.mp h).elim (fun h => .inr (.inl ⟨rfl, List.mem_cons_of_mem _ h⟩)) fun h => .inr (.inr ⟨rfl, List.mem_cons_of_mem _ h⟩)
    · cases e
  · cases e
/-! dicts -/
theorem vkey_ok {k : Key} (h : Rp st d v G) (e : vkey v = some k) : keyD d = some k ∧ G = [] := by
  cases v with
  | int i => obtain ⟨rfl, rfl⟩ := h.int_inv; exact ⟨e, rfl⟩
  | str i => obtain ⟨rfl, rfl⟩ := h.str_inv; exact ⟨e, rfl⟩
  | _ => cases e
theorem vkeys_ok : ∀ {vs ds G ks}, Rps st ds vs G → vkeys vs = some ks → keysD ds = some ks
  | [], _, _, _, h, e => by obtain ⟨rfl, _⟩ := h.nil_r; exact e
  | v :: vs, _, _, _, h, e => by
    obtain ⟨d, es, A, B, rfl, rfl, a, b⟩ := h.uncons'
    rw [vkeys] at e
    split at e
    · rename_i e1 e2; cases e
      rw [keysD, (vkey_ok a e1).1, vkeys_ok b e2]
    · cases e
theorem valV_ok {κ : Type} [DecidableEq κ] {k : κ} : ∀ {kds : List (κ × D)} {kvs : List (κ × Vl)} {E : List Nat}, kds.map (·.1) = kvs.map (·.1) → Rps st (kds.map (·.2)) (kvs.map (·.2)) E →
    (∀ v, valV kvs k = some v → ∃ d A, valD kds k = some d ∧ Rp st d v A ∧ ∀ x ∈ A, x ∈ E) ∧ (valV kvs k = none → valD kds k = none)
  | [], [], _, _, _ => ⟨fun v h => by simp [valV] at h, fun _ => rfl⟩
  | [], _ :: _, _, h, _ => by cases h
  | _ :: _, [], _, h, _ => by cases h
  | (a, d) :: kds, (b, v) :: kvs, E, h, r => by
    simp only [List.map_cons, List.cons.injEq] at h
    obtain ⟨rfl, h⟩ := h
    obtain ⟨A, B, rfl, r1, r2⟩ := Rps.uncons r
    by_cases hk : a = k
    · simp only [valV, valD, List.find?_cons, hk, decide_true, Option.map_some]
      exact ⟨fun u e => by cases e; exact ⟨d, A, rfl, r1, fun x hx => List.mem_append_left _ hx⟩, fun z => nomatch z⟩
    · have ih := valV_ok (k := k) h r2
      have e1 : valV ((a, v) :: kvs) k = valV kvs k := by simp [valV, List.find?_cons, hk]
      have e2 : valD ((a, d) :: kds) k = valD kds k := by simp [valD, List.find?_cons, hk]
      rw [e1, e2]
      exact ⟨fun u e => let ⟨d', A', x, y, z⟩ := ih.1 u e; ⟨d', A', x, y, fun x hx => List.mem_append_right _ (z x hx)⟩, ih.2⟩
/-- what stands there for a key -/
theorem getVd_ok {o k : Vl} {dk : D} {Gk : List Nat} {r : Option Vl} (h : Rp st d o G) (hk : Rp st dk k Gk) (e : getVd o k = some r) : ∃ i ob, d = .obj i ∧ st[i]? = some ob ∧ (∀ xs, ob ≠ .lst xs) ∧ (∀ xs, ob ≠ .fls xs) ∧
    (∀ v, r = some v → ∃ d' A, getO ob dk = some (some d') ∧ Rp st d' v A ∧ ∀ x ∈ A, x ∈ G) ∧ (r = none → getO ob dk = some none) := by
  cases o with
  | dK kvs =>
    obtain ⟨i, kds, E, rfl, rfl, hi, ek, hs⟩ := Rp.dK_inv h
    simp only [getVd, Option.map_eq_some_iff] at e
    obtain ⟨j, ej, rfl⟩ := e
    have := valV_ok (k := j) ek hs
    refine ⟨i, _, rfl, hi, fun _ h => (nomatch h), fun _ h => (nomatch h), fun v hv => ?_, fun hv => ?_⟩
    · obtain ⟨d', A, a, b, c⟩ := this.1 v hv
      exact ⟨d', A, by simp only [getO, (vkey_ok hk ej).1, Option.map_some, a], b, fun x hx => List.mem_cons_of_mem _ (c x hx)⟩
    · simp only [getO, (vkey_ok hk ej).1, Option.map_some, this.2 hv]
  | dT kvs =>
    obtain ⟨i, kds, E, rfl, rfl, hi, ek, hs⟩ := Rp.dT_inv h
    cases k with
    | tup ks =>
      obtain ⟨es, rfl, hks⟩ := Rp.tup_inv hk
      simp only [getVd, Option.map_eq_some_iff] at e
      obtain ⟨j, ej, rfl⟩ := e
      have := valV_ok (k := j) ek hs
      refine ⟨i, _, rfl, hi, fun _ h => (nomatch h), fun _ h => (nomatch h), fun v hv => ?_, fun hv => ?_⟩
      · obtain ⟨d', A, a, b, c⟩ := this.1 v hv
        exact ⟨d', A, by simp only [getO, vkeys_ok hks ej, Option.map_some, a], b, fun x hx => List.mem_cons_of_mem _ (c x hx)⟩
      · simp only [getO, vkeys_ok hks ej, Option.map_some, this.2 hv]
    | _ => cases e
  | _ => cases e
theorem map_atI {α : Type} {xs : List α} {i : Int} {x : α} (h : atI xs i = some x) : ∃ n : Nat, xs[n]? = some x ∧ ∀ {β : Type} (ys : List β), ys.length = xs.length → atI ys i = ys[n]? := by
  unfold atI at h
  cases e : ixN xs.length i with
  | none => rw [e] at h; cases h
  | some n =>
    rw [e] at h
    exact ⟨n, h, fun ys hy => by unfold atI; rw [hy, e]; rfl⟩
theorem ok_ix : OpOk fIx gIx true false false := fun st dx dy x y z Gx Gy hx hy e => by
  have fin : ∀ {d : D} {A : List Nat}, fIx dx dy st = some (d, st) → Rp st d z A → (∀ k ∈ A, k ∈ Gx) → ∃ d ex G, fIx dx dy st = some (d, st ++ ex) ∧ Rp (st ++ ex) d z G ∧ (∀ k ∈ G, st.length ≤ k ∨ (true = true ∧ k ∈ Gx) ∨ (false = true ∧ k ∈ Gy)) ∧ (false = true → ∀ k, d = .obj k → st.length ≤ k) :=
    fun {d A} a b c => ⟨d, [], A, by rw [List.append_nil]; exact a, by rw [List.append_nil]; exact b, fun k h => .inr (.inl ⟨rfl, c k h⟩), fun q => nomatch q⟩
  have dct : ∀ r, getVd x y = some (some r) → r = z → ∃ d ex G, fIx dx dy st = some (d, st ++ ex) ∧ Rp (st ++ ex) d z G ∧ (∀ k ∈ G, st.length ≤ k ∨ (true = true ∧ k ∈ Gx) ∨ (false = true ∧ k ∈ Gy)) ∧ (false = true → ∀ k, d = .obj k → st.length ≤ k) := fun r h1 h2 => by
    subst h2
    obtain ⟨i, ob, rfl, hi, n1, n2, h1, _⟩ := getVd_ok hx hy h1
    obtain ⟨d', A, a, b, c⟩ := h1 r rfl
    refine fin (d := d') (A := A) ?_ b c
    simp only [fIx, hi]
    cases ob with
    | lst xs => exact (n1 xs rfl).elim
    | fls xs => exact (n2 xs rfl).elim
    | dK => simp only [a]
    | dT => simp only [a]
  unfold gIx at e
  split at e
  · split at e
    · obtain ⟨es, rfl, hs⟩ := Rp.tup_inv hx; obtain ⟨rfl, _⟩ := hy.int_inv
      obtain ⟨n, h1, h2⟩ := map_atI e
      obtain ⟨d, A, a, b, c⟩ := hs.get h1
      exact fin (by simp only [fIx, h2 es hs.len, a, Option.map_some]) b c
    · cases e
  · split at e
    · obtain ⟨k, es, E, rfl, rfl, hk, hs⟩ := Rp.lst_inv hx; obtain ⟨rfl, _⟩ := hy.int_inv
      obtain ⟨n, h1, h2⟩ := map_atI e
      obtain ⟨d, A, a, b, c⟩ := hs.get h1
      exact fin (by simp only [fIx, hk, h2 es hs.len, a, Option.map_some]) b fun x hx => List.mem_cons_of_mem _ (c x hx)
    · cases e
  · split at e
    · obtain ⟨rfl, rfl⟩ := hx.str_inv; obtain ⟨rfl, _⟩ := hy.int_inv
      split at e
      · rename_i hl
        simp only [Option.map_eq_some_iff] at e
        obtain ⟨c, e, rfl⟩ := e
        exact fin (A := []) (by simp only [fIx, if_pos hl, e, Option.map_some]) (.str _ .nil) fun _ h => nomatch h
      · cases e
    · cases e
  · rename_i kvs
    cases h : getVd (.dK kvs) y with
    | none => rw [h] at e; cases e
    | some r =>
      rw [h] at e
      cases r with
      | none => cases e
      | some r => cases e; exact dct _ h rfl
  · rename_i kvs
    cases h : getVd (.dT kvs) y with
    | none => rw [h] at e; cases e
    | some r =>
      rw [h] at e
      cases r with
      | none => cases e
      | some r => cases e; exact dct _ h rfl
  · cases e
theorem ok_in (neg : Bool) : OpOk (fIn neg) (gIn neg) false false false := .of fun st dx dy x y z Gx Gy hx hy e => by
  have seq : ∀ {es us E}, Rps st es us E → inV neg x us = some z → (match pd dx, pds es with
    | some p, some ps => if SeqAt.shaped p = true ∧ SeqAt.shaped (.list ps) = true then some (D.bl (if neg then !(ps.any fun z => PyData.eqv z p) else ps.any fun z => PyData.eqv z p), st) else none
    | _, _ => none) = some ((match z with | .bl b => .bl b | _ => .non), st) ∧ ∃ b, z = .bl b := fun {es us E} hs e => by
    unfold inV at e
    split at e
    · rename_i i ns e1 e2
      cases e
      have hxi : dx = .int i := by
        cases x with
        | int j => cases e1; exact hx.int_inv.1
        | _ => cases e1
      subst hxi
      rw [(vints_eq hs e2).1]
      have h := fIn_tup (xs := ns.map .int) (x := .int i) neg rfl (plL_ints ns) (by simp [D.dp]) (by rw [dpL_ints]; decide) st
      rw [any_ints] at h
      exact ⟨h, _, rfl⟩
    · split at e
      · rename_i p ps e1 e2
        split at e
        · rename_i hc
          cases e
          rw [(Rp.plain hx e1).1, (hs.plain e2).1]
          exact ⟨if_pos hc, _, rfl⟩
        · cases e
      · cases e
  have dct : ∀ r, getVd y x = some r → some (Vl.bl (if neg then !r.isSome else r.isSome)) = some z → ∃ d, fIn neg dx dy st = some (d, st) ∧ Rp st d z [] ∧ ∀ k, d ≠ .obj k := fun r h1 h2 => by
    cases h2
    obtain ⟨i, ob, rfl, hi, n1, n2, h1, h2⟩ := getVd_ok hy hx h1
    refine ⟨_, ?_, (rbl _ st).1, (rbl _ st).2⟩
    have hg : ∃ r', getO ob dx = some r' ∧ r'.isSome = r.isSome := by
      cases r with
      | none => exact ⟨none, h2 rfl, rfl⟩
      | some v => obtain ⟨d', A, a, _, _⟩ := h1 v rfl; exact ⟨_, a, rfl⟩
    obtain ⟨r', e1, e2⟩ := hg
    simp only [fIn, hi]
    cases ob with
    | lst xs => exact (n1 xs rfl).elim
    | fls xs => exact (n2 xs rfl).elim
    | dK => simp only [e1, e2]
    | dT => simp only [e1, e2]
  cases y with
  | tup xs =>
    obtain ⟨es, rfl, hs⟩ := Rp.tup_inv hy
    obtain ⟨h, b, rfl⟩ := seq hs e
    exact ⟨_, h, (rbl _ st).1, (rbl _ st).2⟩
  | lst xs =>
    obtain ⟨k, es, E, rfl, rfl, hk, hs⟩ := Rp.lst_inv hy
    obtain ⟨h, b, rfl⟩ := seq hs e
    exact ⟨_, by simp only [fIn, hk]; exact h, (rbl _ st).1, (rbl _ st).2⟩
  | str b =>
    cases x with
    | str a =>
      obtain ⟨rfl, _⟩ := hy.str_inv; obtain ⟨rfl, _⟩ := hx.str_inv
      cases e
      exact ⟨_, rfl, (rbl _ st).1, (rbl _ st).2⟩
    | _ => cases e
  | dK kvs =>
    simp only [gIn] at e
    cases h : getVd (.dK kvs) x with
    | none => rw [h] at e; cases e
    | some r => rw [h] at e; exact dct _ h e
  | dT kvs =>
    simp only [gIn] at e
    cases h : getVd (.dT kvs) x with
    | none => rw [h] at e; cases e
    | some r => rw [h] at e; exact dct _ h e
  | _ => cases e
theorem ok_is (neg : Bool) : OpOk (fIs neg) (gIs neg) false false false := .of fun st dx dy x y z Gx Gy hx hy e => by
  unfold gIs at e
  split at e
  · obtain ⟨rfl, _⟩ := hy.non_inv
    cases e
    have : nonB dx = nonV x := by cases hx <;> rfl
    exact ⟨_, by simp only [fIs, this], (rbl _ st).1, (rbl _ st).2⟩
  · obtain ⟨rfl, _⟩ := hy.bl_inv
    split at e
    · obtain ⟨rfl, _⟩ := hx.bl_inv
      cases e
      exact ⟨_, rfl, (rbl _ st).1, (rbl _ st).2⟩
    · cases e
  · cases e
theorem ok_neg : UnOk fNeg gNeg := fun st dx x z Gx hx e => by
  cases x with
  | int i => obtain ⟨rfl, _⟩ := hx.int_inv; cases e; exact ⟨_, rfl, .int _ .nil⟩
  | _ => cases e
end
end Gv
namespace Gv
open PySem PySem.Spec L2

/-! ### built-ins -/
def vseq : Vl → Option (List Vl)
  | .tup xs => some xs
  | .lst xs => some xs
  | _ => none
def vbls : List Vl → Option (List Bool)
  | [] => some []
  | .bl b :: ds => (vbls ds).map fun bs => b :: bs
  | _ => none
def vlst : Vl → Option (List Vl)
  | .lst xs => some xs
  | _ => none
def gLen : List Vl → Option Vl
  | [.tup xs] => some (.int xs.length)
  | [.lst xs] => some (.int xs.length)
  | [.str y] => if y.length ≤ 16777216 then some (.int y.length) else none
  | _ => none
def gAbs : List Vl → Option Vl
  | [.int i] => some (.int (if i < 0 then -i else i))
  | _ => none
def gMax2 : List Vl → Option Vl
  | [.int i, .int j] => some (.int (if j > i then j else i))
  | _ => none
def gMin2 : List Vl → Option Vl
  | [.int i, .int j] => some (.int (if j < i then j else i))
  | _ => none
def gInt1 : List Vl → Option Vl
  | [.int i] => some (.int i)
  | [.bl k] => some (.int (if k then 1 else 0))
  | _ => none
def gList : List Vl → Option Vl
  | [d] => (vseq d).map .lst
  | _ => none
def gTuple : List Vl → Option Vl
  | [d] => (vseq d).map .tup
  | _ => none
def gAny : List Vl → Option Vl
  | [d] => ((vlst d).bind vbls).map fun bs => .bl (bs.any id)
  | _ => none
def gAll : List Vl → Option Vl
  | [d] => ((vlst d).bind vbls).map fun bs => .bl (bs.all id)
  | _ => none
def gSum : List Vl → Option Vl
  | [d] => ((vlst d).bind vints).map fun ns => .int ns.sum
  | _ => none
def gMin1 : List Vl → Option Vl
  | [d] => ((vseq d).bind vints).bind fun ns => match ns with
    | n :: ns => if ns.length < 1000000 then some (.int (ns.foldl min n)) else none
    | [] => none
  | _ => none
def gMax1 : List Vl → Option Vl
  | [d] => ((vseq d).bind vints).bind fun ns => match ns with
    | n :: ns => if ns.length < 1000000 then some (.int (ns.foldl max n)) else none
    | [] => none
  | _ => none
def vpdG (d : Vl) : PyData := (vpd d).getD .none
def vsortOk (xs : List Vl) : Bool := xs.all (fun d => (vpd d).isSome) && (xs.all fun a => xs.all fun b => PySem.W.alike (vpdG a) (vpdG b)) && (xs.all (fun d => tupB (vpdG d)) || xs.all (fun d => othB (vpdG d))) && xs.all (fun d => decide ((vpdG d).depth ≤ 60)) && decide (xs.length ≤ 16777216)
/-- merging and sorting by counted steps: the kernel can run it -/
def mgF {α : Type} (le : α → α → Bool) : Nat → List α → List α → List α
  | 0, _, _ => []
  | _ + 1, [], ys => ys
  | _ + 1, x :: xs, [] => x :: xs
  | n + 1, x :: xs, y :: ys => if le x y = true then x :: mgF le n xs (y :: ys) else y :: mgF le n (x :: xs) ys
def msF {α : Type} (le : α → α → Bool) : Nat → List α → List α
  | 0, xs => xs
  | _ + 1, [] => []
  | _ + 1, [a] => [a]
  | n + 1, a :: b :: xs => mgF le (xs.length + 3) (msF le n ((a :: b :: xs).take ((xs.length + 3) / 2))) (msF le n ((a :: b :: xs).drop ((xs.length + 3) / 2)))
theorem mgF_eq {α : Type} (le : α → α → Bool) : ∀ (n : Nat) (xs ys : List α), xs.length + ys.length < n → mgF le n xs ys = List.merge xs ys le
  | 0, _, _, h => by omega
  | n + 1, [], ys, _ => by simp [mgF]
  | n + 1, x :: xs, [], _ => by simp [mgF]
  | n + 1, x :: xs, y :: ys, h => by
    rw [mgF, List.merge, mgF_eq le n xs (y :: ys) (by simp at h ⊢; omega), mgF_eq le n (x :: xs) ys (by simp at h ⊢; omega)]
theorem msF_len {α : Type} (le : α → α → Bool) (n : Nat) (xs : List α) (h : msF le n xs = xs.mergeSort le) : (msF le n xs).length = xs.length := by rw [h, List.length_mergeSort]
theorem msF_eq {α : Type} (le : α → α → Bool) : ∀ (n : Nat) (xs : List α), xs.length ≤ n → msF le n xs = xs.mergeSort le
  | 0, [], _ => by simp [msF]
  | 0, _ :: _, h => by simp at h
  | n + 1, [], _ => by simp [msF]
  | n + 1, [a], _ => by simp [msF]
  | n + 1, a :: b :: xs, h => by
    simp only [List.length_cons] at h
    have e1 := msF_eq le n ((a :: b :: xs).take ((xs.length + 3) / 2)) (by simp; omega)
    have e2 := msF_eq le n ((a :: b :: xs).drop ((xs.length + 3) / 2)) (by simp; omega)
    rw [msF, mgF_eq le _ _ _ (by rw [msF_len le n _ e1, msF_len le n _ e2]; simp; omega), e1, e2, List.mergeSort]
    have hl : (xs.length + 1 + 1 + 1) / 2 = (xs.length + 3) / 2 := rfl
    simp only [List.MergeSort.Internal.splitInTwo, List.splitAt_eq]
    rfl
def vsort (xs : List Vl) : List Vl := msF (PySem.W.dataLe false vpdG) xs.length xs
theorem vsort_ms (xs : List Vl) : vsort xs = xs.mergeSort (PySem.W.dataLe false vpdG) := msF_eq _ _ _ (Nat.le_refl _)
def gSorted : List Vl → Option Vl
  | [d] => (vlst d).bind fun xs => if vsortOk xs = true then some (.lst (vsort xs)) else none
  | _ => none
def tyV : Vl → String
  | .non => "NoneType" | .bl _ => "bool" | .int _ => "int" | .str _ => "str" | .tup _ => "tuple" | _ => "?"
def vIsI (n : String) (a : VE) : VE := fun ve w => (a ve w).bind fun x w1 => if tyV x = n then .ok (.bl true) w1 else .no
def vLenS (a : VE) : VE := fun ve w => (a ve w).bind fun x w1 => match (vlst x).bind vints with
  | some ns => if nodI ns = true ∧ ns.length ≤ 4000 then .ok (.int ns.length) w1 else .no
  | none => .no
def vNewK : VE := fun _ w => .ok (.dK []) w
def vNewT : VE := fun _ w => .ok (.dT []) w
def vONo : VO := fun _ w => .ok none w
def vOSo (a : VE) : VO := fun ve w => (a ve w).bind fun x w1 => match x with
  | .int i => .ok (some i) w1
  | _ => .no
def gSl (x : Vl) (lo hi : Option Int) : Option Vl := match x with
  | .tup xs => some (.tup (cutD xs lo hi))
  | .lst xs => some (.lst (cutD xs lo hi))
  | _ => none
def vSl (a : VE) (l h : VO) : VE := fun ve w => (a ve w).bind fun x w1 => (l ve w1).bind fun i w2 => (h ve w2).bind fun j w3 => vre (gSl x i j) w3
section
variable {st s1 : Sto} {ds : List D} {vs : List Vl} {G : List Nat} {d : D} {v : Vl} {loc : Loc} {dl : Option Nat} {en : En} {ve : VEnv} {w : Wo} {F : Nat → List Nat} {al al1 al2 : List Nat} {a b : ED} {va vb : VE} {fr f1 f2 ax : Bool}
/-- one argument -/
theorem CbOk.one {f : FN} {g : List Vl → Option Vl} (hg : ∀ vs z, g vs = some z → ∃ v, vs = [v]) (h : ∀ st d v z G0, Rp st d v G0 → g [v] = some z → ∃ d' ex G, f [d] st = some (d', st ++ ex) ∧ Rp (st ++ ex) d' z G ∧ (∀ k ∈ G, st.length ≤ k ∨ (ax = true ∧ k ∈ G0)) ∧ (fr = true → ∀ k, d' = .obj k → st.length ≤ k)) : CbOk f g ax fr :=
  fun st ds vs z G0 r e => by
    obtain ⟨v, rfl⟩ := hg vs z e
    obtain ⟨d, rfl⟩ := r.one
    exact h st d v z G0 r e
theorem CbOk.flat {f : FN} {g : List Vl → Option Vl} (hg : ∀ vs z, g vs = some z → ∃ v, vs = [v]) (h : ∀ st d v z G0, Rp st d v G0 → g [v] = some z → ∃ d', f [d] st = some (d', st) ∧ Rp st d' z [] ∧ ∀ k, d' ≠ .obj k) : CbOk f g false fr :=
  .one hg fun st d v z G0 r e => by
    obtain ⟨d', a, b, c⟩ := h st d v z G0 r e
    exact ⟨d', [], [], by rw [List.append_nil]; exact a, by rw [List.append_nil]; exact b, fun _ h => (nomatch h), fun _ k e => absurd e (c k)⟩
theorem seq_ok {xs : List Vl} (h : Rp st d v G) (e : vseq v = some xs) : ∃ es E, seqOf st d = some es ∧ Rps st es xs E ∧ ∀ k ∈ E, k ∈ G := by
  cases v with
  | tup us => cases e; obtain ⟨es, rfl, hs⟩ := Rp.tup_inv h; exact ⟨es, G, rfl, hs, fun _ h => h⟩
  | lst us => cases e; obtain ⟨k, es, E, rfl, rfl, hk, hs⟩ := Rp.lst_inv h; exact ⟨es, E, by simp [seqOf, hk, Ob.seq], hs, fun _ h => List.mem_cons_of_mem _ h⟩
  | _ => cases e
theorem lst_ok {xs : List Vl} (h : Rp st d v G) (e : vlst v = some xs) : ∃ es E, lstOf st d = some es ∧ Rps st es xs E ∧ ∀ k ∈ E, k ∈ G := by
  cases v with
  | lst us => cases e; obtain ⟨k, es, E, rfl, rfl, hk, hs⟩ := Rp.lst_inv h; exact ⟨es, E, by simp [lstOf, hk, Ob.seq], hs, fun _ h => List.mem_cons_of_mem _ h⟩
  | _ => cases e
theorem vbls_ok : ∀ {vs ds G bs}, Rps st ds vs G → vbls vs = some bs → blsD ds = some bs
  | [], _, _, _, h, e => by obtain ⟨rfl, _⟩ := h.nil_r; exact e
  | v :: vs, _, _, _, h, e => by
    obtain ⟨d, es, A, B, rfl, rfl, a, b⟩ := h.uncons'
    cases v with
    | bl k =>
      obtain ⟨rfl, _⟩ := a.bl_inv
      simp only [vbls, Option.map_eq_some_iff] at e
      obtain ⟨bs, e, rfl⟩ := e
      simp only [blsD, vbls_ok b e, Option.map_some]
    | _ => cases e
theorem vints_ok : ∀ {vs ds G bs}, Rps st ds vs G → vints vs = some bs → intsD ds = some bs
  | [], _, _, _, h, e => by obtain ⟨rfl, _⟩ := h.nil_r; exact e
  | v :: vs, _, _, _, h, e => by
    obtain ⟨d, es, A, B, rfl, rfl, a, b⟩ := h.uncons'
    cases v with
    | int k =>
      obtain ⟨rfl, _⟩ := a.int_inv
      simp only [vints, Option.map_eq_some_iff] at e
      obtain ⟨bs, e, rfl⟩ := e
      simp only [intsD, vints_ok b e, Option.map_some]
    | _ => cases e
theorem ok_len : CbOk fLen gLen false true := .flat (fun vs z e => by unfold gLen at e; split at e <;> first | exact ⟨_, rfl⟩ | cases e) fun st d v z G0 r e => by
  cases v with
  | tup xs => cases e; obtain ⟨es, rfl, hs⟩ := Rp.tup_inv r; exact ⟨_, by rw [← hs.len]; rfl, (rint _ st).1, (rint _ st).2⟩
  | lst xs => cases e; obtain ⟨k, es, E, rfl, rfl, hk, hs⟩ := Rp.lst_inv r; exact ⟨_, by simp only [fLen, hk]; rfl, by rw [hs.len]; exact (rint _ st).1, (rint _ st).2⟩
  | str y =>
    obtain ⟨rfl, _⟩ := r.str_inv
    simp only [gLen] at e
    split at e
    · rename_i h; cases e; exact ⟨_, if_pos h, (rint _ st).1, (rint _ st).2⟩
    · cases e
  | _ => cases e
theorem ok_abs : CbOk fAbs gAbs false true := .flat (fun vs z e => by unfold gAbs at e; split at e <;> first | exact ⟨_, rfl⟩ | cases e) fun st d v z G0 r e => by
  cases v with
  | int i => cases e; obtain ⟨rfl, _⟩ := r.int_inv; exact ⟨_, rfl, (rint _ st).1, (rint _ st).2⟩
  | _ => cases e
theorem ok_int1 : CbOk fInt1 gInt1 false true := .flat (fun vs z e => by unfold gInt1 at e; split at e <;> first | exact ⟨_, rfl⟩ | cases e) fun st d v z G0 r e => by
  cases v with
  | int i => cases e; obtain ⟨rfl, _⟩ := r.int_inv; exact ⟨_, rfl, (rint _ st).1, (rint _ st).2⟩
  | bl i => cases e; obtain ⟨rfl, _⟩ := r.bl_inv; exact ⟨_, rfl, (rint _ st).1, (rint _ st).2⟩
  | _ => cases e
theorem two_inv {u : Vl} (h : Rps st ds [v, u] G) : ∃ d e A B, ds = [d, e] ∧ Rp st d v A ∧ Rp st e u B := by
  obtain ⟨d, es, A, B, rfl, rfl, a, b⟩ := h.uncons'
  obtain ⟨e, es, A', B', rfl, rfl, a', b'⟩ := b.uncons'
  obtain ⟨rfl, _⟩ := b'.nil_r
  exact ⟨d, e, A, A', rfl, a, a'⟩
theorem ok_max2 : CbOk fMax2 gMax2 false true := fun st ds vs z G0 r e => by
  unfold gMax2 at e
  split at e
  · obtain ⟨d, e', A, B, rfl, a, b⟩ := two_inv r
    obtain ⟨rfl, _⟩ := a.int_inv; obtain ⟨rfl, _⟩ := b.int_inv
    cases e
    exact ⟨_, [], [], by rw [List.append_nil]; rfl, .int _ .nil, fun _ h => (nomatch h), fun _ _ h => (nomatch h)⟩
  · cases e
theorem ok_min2 : CbOk fMin2 gMin2 false true := fun st ds vs z G0 r e => by
  unfold gMin2 at e
  split at e
  · obtain ⟨d, e', A, B, rfl, a, b⟩ := two_inv r
    obtain ⟨rfl, _⟩ := a.int_inv; obtain ⟨rfl, _⟩ := b.int_inv
    cases e
    exact ⟨_, [], [], by rw [List.append_nil]; rfl, .int _ .nil, fun _ h => (nomatch h), fun _ _ h => (nomatch h)⟩
  · cases e
theorem one_of {g : List Vl → Option Vl} (h0 : g [] = none) (h2 : ∀ a b r, g (a :: b :: r) = none) : ∀ vs z, g vs = some z → ∃ v, vs = [v]
  | [], z, e => by rw [h0] at e; cases e
  | [v], z, e => ⟨v, rfl⟩
  | a :: b :: r, z, e => by rw [h2] at e; cases e
theorem ok_list : CbOk fList gList true true := .one (one_of rfl fun _ _ _ => rfl) fun st d v z G0 r e => by
  simp only [gList, Option.map_eq_some_iff] at e
  obtain ⟨xs, e, rfl⟩ := e
  obtain ⟨es, E, a, b, c⟩ := seq_ok r e
  exact ⟨_, [.lst es], _, by simp only [fList, a, Option.map_some], new_lst b, fun k h => (List.mem_cons.mp h).elim (fun h => .inl (by omega)) fun h => .inr ⟨rfl, c k h⟩, fun _ k h => by cases h; exact Nat.le_refl _⟩
theorem ok_tuple : CbOk fTuple gTuple true true := .one (one_of rfl fun _ _ _ => rfl) fun st d v z G0 r e => by
  simp only [gTuple, Option.map_eq_some_iff] at e
  obtain ⟨xs, e, rfl⟩ := e
  obtain ⟨es, E, a, b, c⟩ := seq_ok r e
  exact ⟨.tup es, [], E, by simp only [fTuple, a, Option.map_some, List.append_nil], by rw [List.append_nil]; exact Rp.tup b, fun k h => .inr ⟨rfl, c k h⟩, fun _ k h => nomatch h⟩
theorem ok_any : CbOk fAny gAny false true := .flat (one_of rfl fun _ _ _ => rfl) fun st d v z G0 r e => by
  simp only [gAny, Option.map_eq_some_iff, Option.bind_eq_some_iff] at e
  obtain ⟨bs, ⟨xs, e1, e2⟩, rfl⟩ := e
  obtain ⟨es, E, a, b, c⟩ := lst_ok r e1
  exact ⟨_, by simp only [fAny, a, Option.bind_some, vbls_ok b e2, Option.map_some], (rbl _ st).1, (rbl _ st).2⟩
theorem ok_all : CbOk fAll gAll false true := .flat (one_of rfl fun _ _ _ => rfl) fun st d v z G0 r e => by
  simp only [gAll, Option.map_eq_some_iff, Option.bind_eq_some_iff] at e
  obtain ⟨bs, ⟨xs, e1, e2⟩, rfl⟩ := e
  obtain ⟨es, E, a, b, c⟩ := lst_ok r e1
  exact ⟨_, by simp only [fAll, a, Option.bind_some, vbls_ok b e2, Option.map_some], (rbl _ st).1, (rbl _ st).2⟩
theorem ok_sum : CbOk fSum gSum false true := .flat (one_of rfl fun _ _ _ => rfl) fun st d v z G0 r e => by
  simp only [gSum, Option.map_eq_some_iff, Option.bind_eq_some_iff] at e
  obtain ⟨bs, ⟨xs, e1, e2⟩, rfl⟩ := e
  obtain ⟨es, E, a, b, c⟩ := lst_ok r e1
  exact ⟨_, by simp only [fSum, a, Option.bind_some, vints_ok b e2, Option.map_some], (rint _ st).1, (rint _ st).2⟩
theorem ok_min1 : CbOk fMin1 gMin1 false true := .flat (one_of rfl fun _ _ _ => rfl) fun st d v z G0 r e => by
  simp only [gMin1, Option.bind_eq_some_iff] at e
  obtain ⟨ns, ⟨xs, e1, e2⟩, e⟩ := e
  obtain ⟨es, E, a, b, c⟩ := seq_ok r e1
  cases ns with
  | nil => cases e
  | cons n ns =>
    simp only at e
    split at e
    · rename_i h
      cases e
      exact ⟨_, by simp only [fMin1, a, Option.bind_some, vints_ok b e2]; exact if_pos h, (rint _ st).1, (rint _ st).2⟩
    · cases e
theorem ok_max1 : CbOk fMax1 gMax1 false true := .flat (one_of rfl fun _ _ _ => rfl) fun st d v z G0 r e => by
  simp only [gMax1, Option.bind_eq_some_iff] at e
  obtain ⟨ns, ⟨xs, e1, e2⟩, e⟩ := e
  obtain ⟨es, E, a, b, c⟩ := seq_ok r e1
  cases ns with
  | nil => cases e
  | cons n ns =>
    simp only at e
    split at e
    · rename_i h
      cases e
      exact ⟨_, by simp only [fMax1, a, Option.bind_some, vints_ok b e2]; exact if_pos h, (rint _ st).1, (rint _ st).2⟩
    · cases e
/-! sorted -/
mutual
def Vl.toD : Vl → D
  | .non => .non
  | .bl b => .bl b
  | .int b => .int b
  | .str b => .str b
  | .tup xs => .tup (toDs xs)
  | _ => .non
def toDs : List Vl → List D
  | [] => []
  | x :: xs => x.toD :: toDs xs
end
theorem toDs_map (xs : List Vl) : toDs xs = xs.map Vl.toD := by
  induction xs with
  | nil => rfl
  | cons x xs ih => rw [toDs, ih]; rfl
theorem Rps.toD (h : Rps st ds vs G) : ∀ {ps}, vpds vs = some ps → ds = toDs vs := by
  induction h with
  | nil => exact fun _ => rfl
  | non r ih => intro ps e; obtain ⟨p, qs, rfl, e1, e2⟩ := vpds_cons e; rw [ih e2]; rfl
  | bl b r ih => intro ps e; obtain ⟨p, qs, rfl, e1, e2⟩ := vpds_cons e; rw [ih e2]; rfl
  | int b r ih => intro ps e; obtain ⟨p, qs, rfl, e1, e2⟩ := vpds_cons e; rw [ih e2]; rfl
  | str b r ih => intro ps e; obtain ⟨p, qs, rfl, e1, e2⟩ := vpds_cons e; rw [ih e2]; rfl
  | tup h r ih1 ih2 =>
    intro ps e
    obtain ⟨p, qs, rfl, e1, e2⟩ := vpds_cons e
    simp only [vpd, Option.map_eq_some_iff] at e1
    obtain ⟨ps, e1, rfl⟩ := e1
    rw [ih1 e1, ih2 e2]; rfl
  | lst => intro ps e; obtain ⟨p, qs, rfl, e1, e2⟩ := vpds_cons e; cases e1
  | dK => intro ps e; obtain ⟨p, qs, rfl, e1, e2⟩ := vpds_cons e; cases e1
  | dT => intro ps e; obtain ⟨p, qs, rfl, e1, e2⟩ := vpds_cons e; cases e1
theorem vpds_all {xs : List Vl} (h : xs.all (fun d => (vpd d).isSome) = true) : ∃ ps, vpds xs = some ps := by
  induction xs with
  | nil => exact ⟨[], rfl⟩
  | cons x xs ih =>
    simp only [List.all_cons, Bool.and_eq_true] at h
    obtain ⟨ps, e⟩ := ih h.2
    obtain ⟨p, e1⟩ := Option.isSome_iff_exists.mp h.1
    exact ⟨p :: ps, by rw [vpds, e1, e]⟩
theorem toD_rp {v : Vl} {p : PyData} (h : vpd v = some p) (st : Sto) : Rp st v.toD v [] := by
  have key : ∀ n, (∀ v p, sizeOf v < n → vpd v = some p → Rp st v.toD v []) ∧ ∀ vs ps, sizeOf vs < n → vpds vs = some ps → Rps st (toDs vs) vs [] := by
    intro n
    induction n with
    | zero => exact ⟨fun _ _ h => by omega, fun _ _ h => by omega⟩
    | succ n ih =>
      refine ⟨fun v p hs h => ?_, fun vs ps hs h => ?_⟩
      · cases v with
        | non => exact .non .nil
        | bl b => exact .bl b .nil
        | int b => exact .int b .nil
        | str b => exact .str b .nil
        | tup xs =>
          simp only [vpd, Option.map_eq_some_iff] at h
          obtain ⟨ps, h, _⟩ := h
          have := ih.2 xs ps (by simp at hs; omega) h
          rw [Vl.toD]
          exact Rp.tup this
        | _ => cases h
      · cases vs with
        | nil => exact .nil
        | cons x xs =>
          obtain ⟨p, qs, rfl, e1, e2⟩ := vpds_cons h
          simp at hs
          have h1 := ih.1 x p (by omega) e1
          have h2 := ih.2 xs qs (by omega) e2
          rw [toDs]
          exact Rps.cons h1 h2
  exact (key (sizeOf v + 1)).1 v p (by omega) h
theorem toD_pdG {v : Vl} (h : (vpd v).isSome = true) : pdG v.toD = vpdG v ∧ (pd v.toD).isSome = true := by
  obtain ⟨p, e⟩ := Option.isSome_iff_exists.mp h
  have := (Rp.plain (toD_rp e []) e).1
  exact ⟨by rw [pdG, vpdG, this, e], by rw [this]; rfl⟩
theorem ok_sorted : CbOk fSorted gSorted false true := .one (one_of rfl fun _ _ _ => rfl) fun st d v z G0 r e => by
  simp only [gSorted, Option.bind_eq_some_iff] at e
  obtain ⟨xs, e1, e⟩ := e
  split at e
  · rename_i hs
    cases e
    obtain ⟨es, E, a, b, c⟩ := lst_ok r e1
    simp only [vsortOk, Bool.and_eq_true, Bool.or_eq_true, decide_eq_true_eq] at hs
    obtain ⟨⟨⟨⟨h1, h2⟩, h3⟩, h4⟩, h5⟩ := hs
    obtain ⟨ps, eps⟩ := vpds_all h1
    have hes : es = xs.map Vl.toD := by rw [b.toD eps, toDs_map]
    have hG : ∀ x ∈ xs, pdG x.toD = vpdG x ∧ (pd x.toD).isSome = true := fun x hx => toD_pdG (List.all_eq_true.mp h1 x hx)
    have hok : sortOk es = true := by
      subst hes
      simp only [sortOk, allPd, alikeB, List.all_map, Bool.and_eq_true, Bool.or_eq_true, decide_eq_true_eq, List.length_map]
      refine ⟨⟨⟨⟨?_, ?_⟩, ?_⟩, ?_⟩, h5⟩
      · exact List.all_eq_true.mpr fun x hx => (hG x hx).2
      · refine List.all_eq_true.mpr fun x hx => ?_
        simp only [Function.comp, List.all_map]
        refine List.all_eq_true.mpr fun y hy => ?_
        simp only [Function.comp, (hG x hx).1, (hG y hy).1]
        exact List.all_eq_true.mp (List.all_eq_true.mp h2 x hx) y hy
      · rcases h3 with h3 | h3
        · exact .inl (List.all_eq_true.mpr fun x hx => by simp only [Function.comp, (hG x hx).1]; exact List.all_eq_true.mp h3 x hx)
        · exact .inr (List.all_eq_true.mpr fun x hx => by simp only [Function.comp, (hG x hx).1]; exact List.all_eq_true.mp h3 x hx)
      · exact List.all_eq_true.mpr fun x hx => by simp only [Function.comp, (hG x hx).1]; exact List.all_eq_true.mp h4 x hx
    have hsort : sortD es = (vsort xs).map Vl.toD := by
      subst hes
      rw [vsort_ms]
      unfold sortD
      rw [List.map_mergeSort (r := PySem.W.dataLe false vpdG) (s := PySem.W.dataLe false pdG) (f := Vl.toD) (l := xs) (fun x hx y hy => by
        unfold PySem.W.dataLe
        simp only [PySem.W.sortLe]
        rw [(hG x hx).1, (hG y hy).1])]
    have hrp : ∃ A, Rps st (sortD es) (vsort xs) A ∧ A = [] := by
      rw [hsort]
      have hall : (vsort xs).all (fun d => (vpd d).isSome) = true := List.all_eq_true.mpr fun x hx => List.all_eq_true.mp h1 x (by rw [vsort_ms] at hx; exact List.mem_mergeSort.mp hx)
      generalize vsort xs = ys at hall
      clear hsort
      induction ys with
      | nil => exact ⟨[], .nil, rfl⟩
      | cons y ys ih =>
        simp only [List.all_cons, Bool.and_eq_true] at hall
        obtain ⟨A, ha, rfl⟩ := ih hall.2
        obtain ⟨p, e1⟩ := Option.isSome_iff_exists.mp hall.1
        exact ⟨[], Rps.cons (toD_rp e1 st) ha, rfl⟩
    obtain ⟨A, ha, rfl⟩ := hrp
    refine ⟨_, [.lst (sortD es)], _, by simp only [fSorted, a, Option.bind_some]; exact if_pos hok, new_lst ha, fun k h => .inl ?_, fun _ k h => by cases h; exact Nat.le_refl _⟩
    simp at h; omega
  · cases e
/-! others -/
theorem se_isi {n : String} (hn : n ≠ "?") (ha : SoundE dl a va al1 f1) : SoundE dl (dIsI n a) (vIsI n va) [] true := fun loc st en ve w F r =>
  (ha loc st en ve w F r).bind fun dx s1 x w1 Gx hx px e1 q1 => by
    by_cases h : tyV x = n
    · have : tyD dx = n := by
        rw [← h]
        cases x with
        | non => rw [hx.1.non_inv.1]; rfl
        | bl b => rw [hx.1.bl_inv.1]; rfl
        | int b => rw [hx.1.int_inv.1]; rfl
        | str b => rw [hx.1.str_inv.1]; rfl
        | tup xs => obtain ⟨es, rfl, _⟩ := Rp.tup_inv hx.1; rfl
        | _ => exact absurd h.symm hn
      rw [if_pos h, if_pos this]
      exact ⟨.bl true, s1, [], rfl, ⟨.bl _ .nil, fun _ k h => nomatch h⟩, Fp.nil, e1, q1⟩
    · rw [if_neg h]; trivial
theorem se_lenS (ha : SoundE dl a va al1 f1) : SoundE dl (dLenS a) (vLenS va) [] true := fun loc st en ve w F r =>
  (ha loc st en ve w F r).bind fun dx s1 x w1 Gx hx px e1 q1 => by
    cases e : (vlst x).bind vints with
    | none => trivial
    | some ns =>
      simp only [Option.bind_eq_some_iff] at e
      obtain ⟨xs, e2, e3⟩ := e
      obtain ⟨es, E, a, b, c⟩ := lst_ok hx.1 e2
      rw [a, Option.bind_some, vints_ok b e3]
      dsimp only
      by_cases h : nodI ns = true ∧ ns.length ≤ 4000
      · rw [if_pos h, if_pos h]
        exact ⟨_, s1, [], rfl, ⟨.int _ .nil, fun _ k h => nomatch h⟩, Fp.nil, e1, q1⟩
      · simp only [if_neg h]; trivial
theorem se_newK : SoundE dl dNewK vNewK [] true := fun loc st en ve w F r => ⟨_, st ++ [.dK []], [st.length], rfl, ⟨Rp.dK (kds := []) (kvs := []) (G := []) (by simp) rfl .nil, fun _ k h => by cases h; exact Nat.le_refl _⟩,
  ⟨fun k hk => by simp at hk; exact r.wd.fresh (by omega), fun k hk => by simp at hk; exact .inl (by omega)⟩, Ext.app _, r.wd.app _⟩
theorem se_newT : SoundE dl dNewT vNewT [] true := fun loc st en ve w F r => ⟨_, st ++ [.dT []], [st.length], rfl, ⟨Rp.dT (kds := []) (kvs := []) (G := []) (by simp) rfl .nil, fun _ k h => by cases h; exact Nat.le_refl _⟩,
  ⟨fun k hk => by simp at hk; exact r.wd.fresh (by omega), fun k hk => by simp at hk; exact .inl (by omega)⟩, Ext.app _, r.wd.app _⟩
theorem so_no : SoundO dl oNo vONo := fun loc st en ve w F r => ⟨none, st, [], rfl, ⟨rfl, rfl⟩, Fp.nil, Ext.refl, r.wd⟩
theorem so_so (ha : SoundE dl a va al1 f1) : SoundO dl (oSo a) (vOSo va) := fun loc st en ve w F r =>
  (ha loc st en ve w F r).bind fun dx s1 x w1 Gx hx px e1 q1 => by
    cases x with
    | int i => rw [hx.1.int_inv.1]; exact ⟨some i, s1, [], rfl, ⟨rfl, rfl⟩, Fp.nil, e1, q1⟩
    | _ => trivial
theorem se_sl {l h : OD} {vl vh : VO} (ha : SoundE dl a va al1 f1) (hl : SoundO dl l vl) (hh : SoundO dl h vh) : SoundE dl (dSl a l h) (vSl va vl vh) al1 true := fun loc st en ve w F r =>
  (ha loc st en ve w F r).bind fun dx s1 x w1 Gx hx px e1 q1 => (hl loc s1 en ve w1 F (r.ext e1 q1)).bind' e1 fun i s2 i' w2 _ hi _ e12 e2 q2 =>
    (hh loc s2 en ve w2 F (r.ext e2 q2)).bind' e2 fun j s3 j' w3 _ hj _ e23 e3 q3 => by
      obtain ⟨rfl, _⟩ := hi; obtain ⟨rfl, _⟩ := hj
      have h3 := (hx.1.ext px.1 e12).ext px.1 e23
      have cut : ∀ {es us E}, Rps s3 es us E → ∃ A, Rps s3 (cutD es i j) (cutD us i j) A ∧ ∀ k ∈ A, k ∈ E := fun {es us E} h => by
        unfold cutD
        rw [h.len]
        obtain ⟨A, a, b⟩ := h.drop (HT.sIx us.length 0 i)
        obtain ⟨B, c, d⟩ := a.take (HT.sIx us.length us.length j - HT.sIx us.length 0 i)
        exact ⟨B, c, fun k hk => b k (d k hk)⟩
      cases x with
      | tup us =>
        obtain ⟨es, rfl, hs⟩ := Rp.tup_inv h3
        obtain ⟨A, a, b⟩ := cut hs
        exact ⟨.tup (cutD es i j), s3, A, rfl, ⟨Rp.tup a, fun _ k h => nomatch h⟩, px.sub b, e3, q3⟩
      | lst us =>
        obtain ⟨k, es, E, rfl, rfl, hk, hs⟩ := Rp.lst_inv h3
        obtain ⟨A, a, b⟩ := cut hs
        refine ⟨.obj s3.length, s3 ++ [.lst (cutD es i j)], s3.length :: A, by simp only [fSl, hk, Option.bind_some, Ob.seq]; rfl, ⟨new_lst a, fun _ k h => by cases h; exact e3.le⟩, ⟨fun k hk => ?_, fun k hk => ?_⟩, e3.trans (Ext.app _), q3.app _⟩
        · rcases List.mem_cons.mp hk with rfl | hk
          · exact q3.fresh (Nat.le_refl _)
          · exact px.1 k (List.mem_cons_of_mem _ (b k hk))
        · rcases List.mem_cons.mp hk with rfl | hk
          · exact .inl e3.le
          · exact px.2 k (List.mem_cons_of_mem _ (b k hk))
      | _ => trivial
/-! what is dropped -/
theorem cl_in {n : Nat} (h : Rps st ds vs G) : clDs n ds = true → (∀ k ∈ G, k < n → ∃ u E, Rp st (.obj k) u (k :: E) ∧ ∀ x ∈ E, x < n) → ∀ k ∈ G, k < n := by
  have obj : ∀ {k : Nat} {u : Vl} {E B : List Nat}, Rp st (.obj k) u (k :: E) → k < n → (∀ x ∈ k :: (E ++ B), x < n → ∃ u E, Rp st (.obj x) u (x :: E) ∧ ∀ y ∈ E, y < n) → ∀ x ∈ E, x < n := fun {k u E B} h hk f => by
    obtain ⟨u', E', a, b⟩ := f k List.mem_cons_self hk
    have := Rps.det h a
    cases this
    exact b
  induction h with
  | nil => simp
  | non r ih => intro c f; exact ih (by simpa [clDs, D.cl] using c) f
  | bl b r ih => intro c f; exact ih (by simpa [clDs, D.cl] using c) f
  | int b r ih => intro c f; exact ih (by simpa [clDs, D.cl] using c) f
  | str b r ih => intro c f; exact ih (by simpa [clDs, D.cl] using c) f
  | tup h r ih1 ih2 =>
    intro c f
    simp only [clDs, D.cl, Bool.and_eq_true] at c
    intro k hk
    rcases List.mem_append.mp hk with hk | hk
    · exact ih1 c.1 (fun k hk => f k (List.mem_append_left _ hk)) k hk
    · exact ih2 c.2 (fun k hk => f k (List.mem_append_right _ hk)) k hk
  | lst hk h r ih1 ih2 =>
    intro c f
    simp only [clDs, D.cl, Bool.and_eq_true, decide_eq_true_eq] at c
    intro x hx
    rcases List.mem_cons.mp hx with rfl | hx
    · exact c.1
    rcases List.mem_append.mp hx with hx | hx
    · exact obj (Rp.lst hk h) c.1 f x hx
    · exact ih2 c.2 (fun k hk => f k (List.mem_cons_of_mem _ (List.mem_append_right _ hk))) x hx
  | dK hk e h r ih1 ih2 =>
    intro c f
    simp only [clDs, D.cl, Bool.and_eq_true, decide_eq_true_eq] at c
    intro x hx
    rcases List.mem_cons.mp hx with rfl | hx
    · exact c.1
    rcases List.mem_append.mp hx with hx | hx
    · exact obj (Rp.dK hk e h) c.1 f x hx
    · exact ih2 c.2 (fun k hk => f k (List.mem_cons_of_mem _ (List.mem_append_right _ hk))) x hx
  | dT hk e h r ih1 ih2 =>
    intro c f
    simp only [clDs, D.cl, Bool.and_eq_true, decide_eq_true_eq] at c
    intro x hx
    rcases List.mem_cons.mp hx with rfl | hx
    · exact c.1
    rcases List.mem_append.mp hx with hx | hx
    · exact obj (Rp.dT hk e h) c.1 f x hx
    · exact ih2 c.2 (fun k hk => f k (List.mem_cons_of_mem _ (List.mem_append_right _ hk))) x hx
theorem pre_eq {st s : Sto} (h : beqS (s.take st.length) st = true) : ∀ k, k < st.length → s[k]? = st[k]? := fun k hk => by
  have := beqS_eq h
  have h2 : (s.take st.length)[k]? = s[k]? := List.getElem?_take_of_lt hk
  rw [this] at h2
  exact h2.symm
theorem Wd.back {s : Sto} {w' : Wo} (r : Wd loc st w) (h : Wd loc s w') (e : ∀ k, k < st.length → s[k]? = st[k]?) : Wd loc st w' := fun i j q => by
  have l := r.lt q
  have := h i j q
  rw [e i l.1, e j l.2] at this
  exact this
theorem se_gc (ha : SoundE dl a va al1 f1) : SoundE dl (dGC a) va al1 f1 := fun loc st en ve w F r => by
  have h := ha loc st en ve w F r
  unfold dGC
  cases hv : va ve w with
  | no => trivial
  | er x w' =>
    rw [hv] at h
    obtain ⟨ex, s, e, b, c, f⟩ := h
    rw [e]
    simp only [gcD, gc]
    split
    · rename_i hc
      exact ⟨ex, st, rfl, b, Ext.refl, r.wd.back f (pre_eq hc.2.2)⟩
    · exact ⟨ex, s, rfl, b, c, f⟩
  | ok x w' =>
    rw [hv] at h
    obtain ⟨d, s, G, e, b, c, f, g⟩ := h
    rw [e]
    simp only [gcD, gc]
    split
    · rename_i hc
      have pe := pre_eq hc.2
      have hlt : ∀ k ∈ G, k < st.length := cl_in b.1 (by simp only [clDs, hc.1, Bool.and_self]) fun k hk hkl => by
        rcases c.2 k hk with h | ⟨i, _, hi⟩
        · omega
        · have : ∃ v, ve[i]? = some (some v) := by
            refine Classical.byContradiction fun hn => ?_
            rw [r.nl i fun v hv => hn ⟨v, hv⟩] at hi
            cases hi
          obtain ⟨v, hv⟩ := this
          obtain ⟨d', _, rp⟩ := r.sl i v hv
          obtain ⟨u, E, a1, _, a2⟩ := rp.sub k hi
          exact ⟨u, E, a1.frame fun y hy => pe y (a1.lt y hy), fun y hy => r.lt (a2 y hy)⟩
      exact ⟨d, st, G, rfl, ⟨b.1.frame fun k hk => (pe k (hlt k hk)).symm, b.2⟩, c, Ext.refl, r.wd.back g pe⟩
    · exact ⟨d, s, G, rfl, b, c, f, g⟩
theorem sb_gc {b : BD} {vb : VB} (ha : SoundB dl b vb) : SoundB dl (bGC b) vb := fun loc st en ve w F r => by
  have h := ha loc st en ve w F r
  unfold bGC
  cases hv : vb ve w with
  | no => trivial
  | er x w' =>
    rw [hv] at h
    obtain ⟨ex, s, e, b, c, f⟩ := h
    rw [e]
    simp only [gc]
    split
    · rename_i hc
      exact ⟨ex, st, rfl, b, Ext.refl, r.wd.back f (pre_eq hc.2.2)⟩
    · exact ⟨ex, s, rfl, b, c, f⟩
  | ok x w' =>
    rw [hv] at h
    obtain ⟨d, s, G, e, b, c, f, g⟩ := h
    rw [e]
    simp only [gc]
    split
    · rename_i hc
      exact ⟨d, st, G, rfl, b, c, Ext.refl, r.wd.back g (pre_eq hc.2)⟩
    · exact ⟨d, s, G, rfl, b, c, f, g⟩
end
end Gv
namespace Gv
open PySem PySem.Spec L2

/-! ### what is gone through -/
def vrng (lo : Int) (n : Nat) : List Vl := (List.range n).map fun k : Nat => .int (lo + k)
def vISeq (a : VE) : VI := fun ve w => (a ve w).bind fun x w1 => match vseq x with
  | some xs => .ok xs w1
  | none => .no
def bnd (i : Int) : Bool := decide (-1000000000 ≤ i) && decide (i ≤ 1000000000)
def int1 : List Vl → Option Int
  | [.int j] => some j
  | _ => none
def int2 : List Vl → Option (Int × Int)
  | [.int i, .int j] => some (i, j)
  | _ => none
def int3 : List Vl → Option (Int × Int × Int)
  | [.int i, .int j, .int c] => some (i, j, c)
  | _ => none
def tup2 : List Vl → Option (List Vl × List Vl)
  | [.tup i, .tup j] => some (i, j)
  | _ => none
@[simp] theorem int1_eq (j : Int) : int1 [.int j] = some j := rfl
@[simp] theorem int2_eq (i j : Int) : int2 [.int i, .int j] = some (i, j) := rfl
@[simp] theorem int3_eq (i j c : Int) : int3 [.int i, .int j, .int c] = some (i, j, c) := rfl
@[simp] theorem tup2_eq (i j : List Vl) : tup2 [.tup i, .tup j] = some (i, j) := rfl
theorem int1_inv {xs : List Vl} {j : Int} (h : int1 xs = some j) : xs = [.int j] := by unfold int1 at h; split at h <;> cases h; rfl
theorem int2_inv {xs : List Vl} {j : Int × Int} (h : int2 xs = some j) : xs = [.int j.1, .int j.2] := by unfold int2 at h; split at h <;> cases h; rfl
theorem int3_inv {xs : List Vl} {j : Int × Int × Int} (h : int3 xs = some j) : xs = [.int j.1, .int j.2.1, .int j.2.2] := by unfold int3 at h; split at h <;> cases h; rfl
theorem tup2_inv {xs : List Vl} {j : List Vl × List Vl} (h : tup2 xs = some j) : xs = [.tup j.1, .tup j.2] := by unfold tup2 at h; split at h <;> cases h; rfl
def vIRg1 (a : VA) : VI := fun ve w => (a ve w).bind fun xs w1 => match int1 xs with
  | some j => if bnd j = true then .ok (vrng 0 j.toNat) w1 else .no
  | none => .no
def vIRg2 (a : VA) : VI := fun ve w => (a ve w).bind fun xs w1 => match int2 xs with
  | some (i, j) => if (bnd i && bnd j) = true then .ok (vrng i (j - i).toNat) w1 else .no
  | none => .no
def vrng3 (lo c : Int) (n : Nat) : List Vl := (List.range n).map fun k : Nat => .int (lo + k * c)
def vIRg3 (a : VA) : VI := fun ve w => (a ve w).bind fun xs w1 => match int3 xs with
  | some (i, j, c) => if rg3B i j c = true then .ok (vrng3 i c (Builtin.Range.rangeSize i j c).toNat) w1 else .no
  | none => .no
def venum (k : Nat) : List Vl → List Vl
  | [] => []
  | d :: ds => .tup [.int k, d] :: venum (k + 1) ds
def vIEn (a : VA) : VI := fun ve w => (a ve w).bind fun xs w1 => match xs with
  | [x] => match vseq x with
    | some ys => .ok (venum 0 ys) w1
    | none => .no
  | _ => .no
def vzip (xs ys : List Vl) : List Vl := List.zipWith (fun x y => .tup [x, y]) xs ys
def vIZp (a : VA) : VI := fun ve w => (a ve w).bind fun xs w1 => match tup2 xs with
  | some (xs, ys) => .ok (vzip xs ys) w1
  | none => .no
section
variable {st s1 : Sto} {ds : List D} {vs : List Vl} {G : List Nat} {d : D} {v : Vl} {loc : Loc} {dl : Option Nat} {en : En} {ve : VEnv} {w : Wo} {F : Nat → List Nat} {al al1 al2 : List Nat} {a b : ED} {va vb : VE} {aa : AD} {vaa : VA} {fr f1 f2 ax : Bool}
theorem RI.none {items : List D} {xs : List Vl} (h : Rps st items xs G) : RI st ⟨items, none⟩ xs G := ⟨⟨G, h, fun _ h => h⟩, fun _ _ h => (nomatch h), h.lt⟩
theorem RI.lst {k : Nat} {es items : List D} {xs : List Vl} {E : List Nat} (hk : st[k]? = some (.lst es)) (h : Rps st items xs E) (hl : es.length = items.length) : RI st ⟨items, some (k, es)⟩ xs (k :: E) :=
  ⟨⟨E, h, fun _ h => List.mem_cons_of_mem _ h⟩, fun _ _ h => by cases h; exact ⟨List.mem_cons_self, hk, hl⟩, fun x hx => (List.mem_cons.mp hx).elim (fun e => e ▸ (List.getElem?_eq_some_iff.mp hk).1) (h.lt x)⟩
theorem RI.ok {it : ItD} {xs : List Vl} (r : RI st it xs G) {s : Sto} (h : ∀ k ∈ G, s[k]? = st[k]?) {k : Nat} (hk : k ≤ it.items.length) : it.ok k s = true := by
  unfold ItD.ok
  cases e : it.gd with
  | none => rfl
  | some p =>
    obtain ⟨i, ys⟩ := p
    obtain ⟨h1, h2, h3⟩ := r.gd i ys e
    rw [← h i h1] at h2
    simp only [h2, Option.bind_some, Ob.seq]
    cases e2 : ys[k]? with
    | none => rfl
    | some y => exact beqD_self y
theorem si_seq (ha : SoundE dl a va al1 f1) : SoundI dl (iSeq a) (vISeq va) al1 := fun loc st en ve w F r =>
  (ha loc st en ve w F r).bind fun dx s1 x w1 Gx hx px e1 q1 => by
    cases x with
    | tup us =>
      obtain ⟨es, rfl, hs⟩ := Rp.tup_inv hx.1
      exact ⟨_, s1, Gx, rfl, RI.none hs, px, e1, q1⟩
    | lst us =>
      obtain ⟨k, es, E, rfl, rfl, hk, hs⟩ := Rp.lst_inv hx.1
      refine ⟨⟨es, some (k, es)⟩, s1, _, ?_, RI.lst hk hs rfl, px, e1, q1⟩
      simp only [hk]
    | _ => trivial
theorem rng_rp (st : Sto) : ∀ (n : Nat) (lo : Int), Rps st (rng lo n) (vrng lo n) []
  | 0, _ => .nil
  | n + 1, lo => by
    have h := rng_rp st n (lo + 1)
    have e : vrng lo (n + 1) = .int lo :: vrng (lo + 1) n := by
      unfold vrng
      rw [List.range_succ_eq_map, List.map_cons, List.map_map]
      congr 1
      · simp
      · apply List.map_congr_left
        intro k _
        simp only [Function.comp]
        congr 1
        omega
    rw [e]
    exact .int lo h
theorem bnd_ok {i : Int} (h : bnd i = true) : -4611686018427387904 ≤ i ∧ i < 4611686018427387904 := by
  simp only [bnd, Bool.and_eq_true, decide_eq_true_eq] at h
  exact ⟨rg_lo h.1, rg_hi h.2⟩
theorem si_rg1 (ha : SoundA dl aa vaa al1) : SoundI dl (iRg1 aa) (vIRg1 vaa) [] := fun loc st en ve w F r =>
  (ha loc st en ve w F r).bind fun dx s1 x w1 Gx hx px e1 q1 => by
    cases hv : int1 x with
    | none => trivial
    | some j =>
      cases int1_inv hv
      obtain ⟨d, rfl⟩ := hx.one
      obtain ⟨rfl, _⟩ := Rp.int_inv hx
      by_cases h : bnd j = true
      · simp only [if_pos h, if_pos (bnd_ok h)]
        exact ⟨_, s1, [], rfl, RI.none (rng_rp _ _ _), Fp.nil, e1, q1⟩
      · simp only [if_neg h]; trivial
theorem si_rg2 (ha : SoundA dl aa vaa al1) : SoundI dl (iRg2 aa) (vIRg2 vaa) [] := fun loc st en ve w F r =>
  (ha loc st en ve w F r).bind fun dx s1 x w1 Gx hx px e1 q1 => by
    cases hv : int2 x with
    | none => trivial
    | some p =>
      obtain ⟨i, j⟩ := p
      cases int2_inv hv
      obtain ⟨d, e', A, B, rfl, a, b⟩ := two_inv hx
      obtain ⟨rfl, _⟩ := a.int_inv; obtain ⟨rfl, _⟩ := b.int_inv
      by_cases h : (bnd i && bnd j) = true
      · have h' := h
        simp only [Bool.and_eq_true] at h'
        simp only [if_pos h, if_pos (And.intro (bnd_ok h'.1) (bnd_ok h'.2))]
        exact ⟨_, s1, [], rfl, RI.none (rng_rp _ _ _), Fp.nil, e1, q1⟩
      · simp only [if_neg h]; trivial
theorem rng3_rp (st : Sto) (lo c : Int) (n : Nat) : Rps st (rng3 lo c n) (vrng3 lo c n) [] := by
  have : ∀ l : List Nat, Rps st (l.map fun (i : Nat) => D.int (lo + (i : Int) * c)) (l.map fun (i : Nat) => Vl.int (lo + (i : Int) * c)) [] := fun l => by
    induction l with
    | nil => exact .nil
    | cons x l ih => exact .int _ ih
  exact this _
theorem si_rg3 (ha : SoundA dl aa vaa al1) : SoundI dl (iRg3 aa) (vIRg3 vaa) [] := fun loc st en ve w F r =>
  (ha loc st en ve w F r).bind fun dx s1 x w1 Gx hx px e1 q1 => by
    cases hv : int3 x with
    | none => trivial
    | some p =>
      obtain ⟨i, j, c⟩ := p
      cases int3_inv hv
      obtain ⟨d, es, A, B, rfl, rfl, a, b⟩ := hx.uncons'
      obtain ⟨d', e', A', B', rfl, a', b'⟩ := two_inv b
      obtain ⟨rfl, _⟩ := a.int_inv; obtain ⟨rfl, _⟩ := a'.int_inv; obtain ⟨rfl, _⟩ := b'.int_inv
      by_cases h : rg3B i j c = true
      · simp only [if_pos h]
        exact ⟨_, s1, [], rfl, RI.none (rng3_rp _ _ _ _), Fp.nil, e1, q1⟩
      · simp only [if_neg h]; trivial
theorem enum_rp : ∀ {vs ds G} (k : Nat), Rps st ds vs G → Rps st (enumL k ds) (venum k vs) G
  | [], _, _, _, h => by obtain ⟨rfl, rfl⟩ := h.nil_r; exact .nil
  | v :: vs, _, _, k, h => by
    obtain ⟨d, es, A, B, rfl, rfl, a, b⟩ := h.uncons'
    exact .tup (.int k a) (enum_rp (k + 1) b)
theorem si_en (ha : SoundA dl aa vaa al1) : SoundI dl (iEn aa) (vIEn vaa) al1 := fun loc st en ve w F r =>
  (ha loc st en ve w F r).bind fun dx s1 x w1 Gx hx px e1 q1 => by
    match x, hx with
    | [x], hx =>
      obtain ⟨d, rfl⟩ := hx.one
      cases x with
      | tup us =>
        obtain ⟨es, rfl, hs⟩ := Rp.tup_inv hx
        exact ⟨_, s1, Gx, rfl, RI.none (enum_rp 0 hs), px, e1, q1⟩
      | lst us =>
        obtain ⟨k, es, E, rfl, rfl, hk, hs⟩ := Rp.lst_inv hx
        refine ⟨⟨enumL 0 es, some (k, es)⟩, s1, _, ?_, RI.lst hk (enum_rp 0 hs) (enumL_len _ _).symm, px, e1, q1⟩
        simp only [hk]
      | _ => trivial
    | [], _ => trivial
    | _ :: _ :: _, _ => trivial
theorem zip_rp : ∀ {xs ds G ys es E}, Rps st ds xs G → Rps st es ys E → ∃ A, Rps st (zipD ds es) (vzip xs ys) A ∧ ∀ k ∈ A, k ∈ G ∨ k ∈ E
  | [], _, _, _, _, _, h, _ => by obtain ⟨rfl, rfl⟩ := h.nil_r; exact ⟨[], .nil, fun _ h => nomatch h⟩
  | _ :: _, _, _, [], _, _, h, h2 => by
    obtain ⟨rfl, rfl⟩ := h2.nil_r
    obtain ⟨d, es, A, B, rfl, rfl, a, b⟩ := h.uncons'
    exact ⟨[], .nil, fun _ h => nomatch h⟩
  | x :: xs, _, _, y :: ys, _, _, h, h2 => by
    obtain ⟨d, es, A, B, rfl, rfl, a, b⟩ := h.uncons'
    obtain ⟨d', es', A', B', rfl, rfl, a', b'⟩ := h2.uncons'
    obtain ⟨C, c, hc⟩ := zip_rp b b'
    refine ⟨(A ++ A') ++ C, .tup (Rps.cons a a') c, fun k hk => ?_⟩
    rcases List.mem_append.mp hk with hk | hk
    · rcases List.mem_append.mp hk with hk | hk
      · exact .inl (List.mem_append_left _ hk)
      · exact .inr (List.mem_append_left _ hk)
    · exact (hc k hk).imp (List.mem_append_right _) (List.mem_append_right _)
theorem si_zp (ha : SoundA dl aa vaa al1) : SoundI dl (iZp aa) (vIZp vaa) al1 := fun loc st en ve w F r =>
  (ha loc st en ve w F r).bind fun dx s1 x w1 Gx hx px e1 q1 => by
    cases hv : tup2 x with
    | none => trivial
    | some p =>
      obtain ⟨xs, ys⟩ := p
      cases tup2_inv hv
      obtain ⟨d, es, A, B, rfl, rfl, a, b⟩ := hx.uncons'
      obtain ⟨d', es', A', B', rfl, rfl, a', b'⟩ := b.uncons'
      obtain ⟨rfl, rfl⟩ := b'.nil_r
      obtain ⟨es, rfl, hs⟩ := Rp.tup_inv a
      obtain ⟨fs, rfl, hs'⟩ := Rp.tup_inv a'
      obtain ⟨C, c, hc⟩ := zip_rp hs hs'
      exact ⟨_, s1, C, rfl, RI.none c, px.sub fun k hk => (hc k hk).elim (List.mem_append_left _) fun h => List.mem_append_right _ (List.mem_append_left _ h), e1, q1⟩
theorem si_no {i : ID} : SoundI dl i vINo [] := fun _ _ _ _ _ _ _ => trivial
end
/-! ### targets -/
abbrev VU := Vl → VEnv → Option VEnv
def vuN (i : Nat) : VU := fun d en => some (en.set i (some d))
def vuT2 (i j : Nat) : VU := fun d en => match d with
  | .tup [a, b] => some ((en.set i (some a)).set j (some b))
  | _ => none
def vuT3 (i j k : Nat) : VU := fun d en => match d with
  | .tup [a, b, c] => some (((en.set i (some a)).set j (some b)).set k (some c))
  | _ => none
def vuT4 (i j k l : Nat) : VU := fun d en => match d with
  | .tup [a, b, c, e] => some ((((en.set i (some a)).set j (some b)).set k (some c)).set l (some e))
  | _ => none
def vuT12 (i j k : Nat) : VU := fun d en => match d with
  | .tup [a, .tup [b, c]] => some (((en.set i (some a)).set j (some b)).set k (some c))
  | _ => none
def vuT13 (i j k l : Nat) : VU := fun d en => match d with
  | .tup [a, .tup [b, c, e]] => some ((((en.set i (some a)).set j (some b)).set k (some c)).set l (some e))
  | _ => none
def upF (F : Nat → List Nat) (n i : Nat) (A : List Nat) (j : Nat) : List Nat := if j = i ∧ i < n then A else F j
structure UdR (loc : Loc) (dl : Option Nat) (st : Sto) (en en' : En) (ve' : VEnv) (w : Wo) (F F' : Nat → List Nat) (ts : List Nat) (G : List Nat) : Prop where
  rep : Rep loc dl st en' ve' w F'
  out : ∀ j, j ∉ ts → F' j = F j ∧ en'[j]? = en[j]?
  inn : ∀ j ∈ ts, ∀ k ∈ F' j, k ∈ G ∨ k ∈ F j
def UdOk (u : UD) (vu : VU) (ts : List Nat) : Prop := ∀ loc dl st en ve ve' w F d x G, (∀ t ∈ ts, dl ≠ some t) → Rep loc dl st en ve w F → Rp st d x G → (∀ k ∈ G, NotDr loc k) → vu x ve = some ve' → ∃ en' F', u d en = some en' ∧ UdR loc dl st en en' ve' w F F' ts G
section
variable {st s1 : Sto} {ds : List D} {vs : List Vl} {G A : List Nat} {d : D} {v : Vl} {loc : Loc} {dl : Option Nat} {en en1 : En} {ve ve1 : VEnv} {w : Wo} {F F1 : Nat → List Nat} {ts : List Nat}
theorem Rep.set (r : Rep loc dl st en ve w F) (h : Rp st d v A) (nd : ∀ k ∈ A, NotDr loc k) {i : Nat} (hd : dl ≠ some i) : Rep loc dl st (en.set i (some d)) (ve.set i (some v)) w (upF F ve.length i A) := by
  refine ⟨by simp [r.len], fun j u hj => ?_, fun j hj => ?_, r.wd, fun j k hk => ?_, fun l hl => ?_, fun j hj hd' => ?_⟩
  · by_cases e : i = j
    · subst e
      by_cases hi : i < ve.length
      · rw [List.getElem?_set_self hi] at hj
        cases hj
        exact ⟨d, List.getElem?_set_self (by rw [r.len]; exact hi), by simp only [upF, hi, and_self, if_true]; exact h⟩
      · rw [List.getElem?_eq_none (by rw [List.length_set]; omega)] at hj
        cases hj
    · rw [List.getElem?_set_ne e] at hj
      rw [List.getElem?_set_ne e]
      have : ¬ (j = i ∧ i < ve.length) := fun z => e z.1.symm
      simp only [upF, if_neg this]
      exact r.sl j u hj
  · by_cases e : i = j
    · subst e
      by_cases hi : i < ve.length
      · exact absurd (List.getElem?_set_self hi) (hj v)
      · have : ¬ (i = i ∧ i < ve.length) := fun z => hi z.2
        rw [upF, if_neg this]
        exact r.nl i fun u hu => hi (List.getElem?_eq_some_iff.mp hu).1
    · have : ¬ (j = i ∧ i < ve.length) := fun z => e z.1.symm
      simp only [upF, if_neg this]
      exact r.nl j fun u hu => hj u (by rw [List.getElem?_set_ne e]; exact hu)
  · unfold upF at hk
    split at hk
    · exact nd k hk
    · exact r.fd j k hk
  · obtain ⟨a, b, e1, e2, e3⟩ := r.ds l hl
    have : i ≠ l := fun z => hd (by rw [z]; exact hl)
    exact ⟨a, b, e1, by rw [List.getElem?_set_ne this]; exact e2, by rw [List.getElem?_set_ne this]; exact e3⟩
  · by_cases e : i = j
    · subst e
      by_cases hi : i < ve.length
      · rw [List.getElem?_set_self hi] at hj; cases hj
      · rw [List.getElem?_eq_none (by rw [List.length_set]; omega)] at hj; cases hj
    · rw [List.getElem?_set_ne e] at hj ⊢
      exact r.no j hj hd'
theorem UdR.one (r : Rep loc dl st en ve w F) (h : Rp st d v A) (nd : ∀ k ∈ A, NotDr loc k) {i : Nat} (hd : dl ≠ some i) : UdR loc dl st en (en.set i (some d)) (ve.set i (some v)) w F (upF F ve.length i A) [i] A :=
  ⟨r.set h nd hd, fun j hj => by
    have hij : ¬ i = j := fun e => hj (by rw [e]; exact List.mem_singleton.mpr rfl)
    have : ¬ (j = i ∧ i < ve.length) := fun z => hij z.1.symm
    exact ⟨by simp only [upF, if_neg this], List.getElem?_set_ne hij⟩, fun j _ k hk => by
    unfold upF at hk
    split at hk
    · exact .inl hk
    · exact .inr hk⟩
theorem UdR.more (u : UdR loc dl st en en1 ve1 w F F1 ts G) (h : Rp st d v A) (nd : ∀ k ∈ A, NotDr loc k) (hs : ∀ k ∈ A, k ∈ G) {i : Nat} (hd : dl ≠ some i) : UdR loc dl st en (en1.set i (some d)) (ve1.set i (some v)) w F (upF F1 ve1.length i A) (ts ++ [i]) G :=
  ⟨u.rep.set h nd hd, fun j hj => by
    have hij : ¬ i = j := fun e => hj (by rw [e]; exact List.mem_append_right _ (List.mem_singleton.mpr rfl))
    have : ¬ (j = i ∧ i < ve1.length) := fun z => hij z.1.symm
    have ho := u.out j fun z => hj (List.mem_append_left _ z)
    exact ⟨by simp only [upF, if_neg this]; exact ho.1, by rw [List.getElem?_set_ne hij]; exact ho.2⟩, fun j hj k hk => by
    unfold upF at hk
    split at hk
    · exact .inl (hs k hk)
    · by_cases ht : j ∈ ts
      · exact u.inn j ht k hk
      · rw [(u.out j ht).1] at hk
        exact .inr hk⟩
theorem UdR.wider {G' : List Nat} (u : UdR loc dl st en en1 ve1 w F F1 ts G) (h : ∀ k ∈ G, k ∈ G') : UdR loc dl st en en1 ve1 w F F1 ts G' := ⟨u.rep, u.out, fun j hj k hk => (u.inn j hj k hk).imp_left (h k)⟩
theorem ud_n (i : Nat) : UdOk (uN i) (vuN i) [i] := fun loc dl st en ve ve' w F d x G hd r h nd e => by
  cases e
  exact ⟨_, _, rfl, UdR.one r h nd (hd i (List.mem_singleton.mpr rfl))⟩
theorem uncons2 {a b : Vl} (h : Rps st ds [a, b] G) : ∃ x y A B, ds = [x, y] ∧ Rp st x a A ∧ Rp st y b B ∧ (∀ k ∈ A, k ∈ G) ∧ ∀ k ∈ B, k ∈ G := by
  obtain ⟨d, es, A, B, rfl, rfl, a', b'⟩ := h.uncons'
  obtain ⟨d', es', A', B', rfl, rfl, a2, b2⟩ := b'.uncons'
  obtain ⟨rfl, rfl⟩ := b2.nil_r
  exact ⟨_, _, A, A', rfl, a', a2, fun k h => List.mem_append_left _ h, fun k h => List.mem_append_right _ (List.mem_append_left _ h)⟩
theorem uncons3 {a b c : Vl} (h : Rps st ds [a, b, c] G) : ∃ x y z A B C, ds = [x, y, z] ∧ Rp st x a A ∧ Rp st y b B ∧ Rp st z c C ∧ (∀ k ∈ A, k ∈ G) ∧ (∀ k ∈ B, k ∈ G) ∧ ∀ k ∈ C, k ∈ G := by
  obtain ⟨d, es, A, B, rfl, rfl, a', b'⟩ := h.uncons'
  obtain ⟨x, y, A', B', rfl, h1, h2, h3, h4⟩ := uncons2 b'
  exact ⟨_, _, _, A, A', B', rfl, a', h1, h2, fun k h => List.mem_append_left _ h, fun k h => List.mem_append_right _ (h3 k h), fun k h => List.mem_append_right _ (h4 k h)⟩
theorem uncons4 {a b c e : Vl} (h : Rps st ds [a, b, c, e] G) : ∃ x y z u A B C E, ds = [x, y, z, u] ∧ Rp st x a A ∧ Rp st y b B ∧ Rp st z c C ∧ Rp st u e E ∧ (∀ k ∈ A, k ∈ G) ∧ (∀ k ∈ B, k ∈ G) ∧ (∀ k ∈ C, k ∈ G) ∧ ∀ k ∈ E, k ∈ G := by
  obtain ⟨d, es, A, B, rfl, rfl, a', b'⟩ := h.uncons'
  obtain ⟨x, y, z, A', B', C', rfl, h1, h2, h3, h4, h5, h6⟩ := uncons3 b'
  exact ⟨_, _, _, _, A, A', B', C', rfl, a', h1, h2, h3, fun k h => List.mem_append_left _ h, fun k h => List.mem_append_right _ (h4 k h), fun k h => List.mem_append_right _ (h5 k h), fun k h => List.mem_append_right _ (h6 k h)⟩
theorem ud_t2 (i j : Nat) : UdOk (uT2 i j) (vuT2 i j) [i, j] := fun loc dl st en ve ve' w F d x G hd r h nd e => by
  unfold vuT2 at e
  split at e
  · cases e
    obtain ⟨es, rfl, hs⟩ := Rp.tup_inv h
    obtain ⟨x, y, A, B, rfl, h1, h2, h3, h4⟩ := uncons2 hs
    exact ⟨_, _, rfl, ((UdR.one r h1 (fun k h => nd k (h3 k h)) (hd i (by simp))).wider h3).more h2 (fun k h => nd k (h4 k h)) h4 (hd j (by simp))⟩
  · cases e
theorem ud_t3 (i j l : Nat) : UdOk (uT3 i j l) (vuT3 i j l) [i, j, l] := fun loc dl st en ve ve' w F d x G hd r h nd e => by
  unfold vuT3 at e
  split at e
  · cases e
    obtain ⟨es, rfl, hs⟩ := Rp.tup_inv h
    obtain ⟨x, y, z, A, B, C, rfl, h1, h2, h3, h4, h5, h6⟩ := uncons3 hs
    exact ⟨_, _, rfl, (((UdR.one r h1 (fun k h => nd k (h4 k h)) (hd i (by simp))).wider h4).more h2 (fun k h => nd k (h5 k h)) h5 (hd j (by simp))).more h3 (fun k h => nd k (h6 k h)) h6 (hd l (by simp))⟩
  · cases e
theorem ud_t4 (i j l m : Nat) : UdOk (uT4 i j l m) (vuT4 i j l m) [i, j, l, m] := fun loc dl st en ve ve' w F d x G hd r h nd e => by
  unfold vuT4 at e
  split at e
  · cases e
    obtain ⟨es, rfl, hs⟩ := Rp.tup_inv h
    obtain ⟨x, y, z, u, A, B, C, E, rfl, h1, h2, h3, h3', h4, h5, h6, h7⟩ := uncons4 hs
    exact ⟨_, _, rfl, ((((UdR.one r h1 (fun k h => nd k (h4 k h)) (hd i (by simp))).wider h4).more h2 (fun k h => nd k (h5 k h)) h5 (hd j (by simp))).more h3 (fun k h => nd k (h6 k h)) h6 (hd l (by simp))).more h3' (fun k h => nd k (h7 k h)) h7 (hd m (by simp))⟩
  · cases e
theorem ud_t12 (i j l : Nat) : UdOk (uT12 i j l) (vuT12 i j l) [i, j, l] := fun loc dl st en ve ve' w F d x G hd r h nd e => by
  unfold vuT12 at e
  split at e
  · cases e
    obtain ⟨es, rfl, hs⟩ := Rp.tup_inv h
    obtain ⟨x, y, A, B, rfl, h1, h2, h3, h4⟩ := uncons2 hs
    obtain ⟨es', rfl, hs'⟩ := Rp.tup_inv h2
    obtain ⟨x', y', A', B', rfl, h1', h2', h3', h4'⟩ := uncons2 hs'
    exact ⟨_, _, rfl, (((UdR.one r h1 (fun k h => nd k (h3 k h)) (hd i (by simp))).wider h3).more h1' (fun k h => nd k (h4 k (h3' k h))) (fun k h => h4 k (h3' k h)) (hd j (by simp))).more h2' (fun k h => nd k (h4 k (h4' k h))) (fun k h => h4 k (h4' k h)) (hd l (by simp))⟩
  · cases e
theorem ud_t13 (i j l m : Nat) : UdOk (uT13 i j l m) (vuT13 i j l m) [i, j, l, m] := fun loc dl st en ve ve' w F d x G hd r h nd e => by
  unfold vuT13 at e
  split at e
  · cases e
    obtain ⟨es, rfl, hs⟩ := Rp.tup_inv h
    obtain ⟨x, y, A, B, rfl, h1, h2, h3, h4⟩ := uncons2 hs
    obtain ⟨es', rfl, hs'⟩ := Rp.tup_inv h2
    obtain ⟨x', y', z', A', B', C', rfl, h1', h2', h5', h3', h4', h6'⟩ := uncons3 hs'
    exact ⟨_, _, rfl, ((((UdR.one r h1 (fun k h => nd k (h3 k h)) (hd i (by simp))).wider h3).more h1' (fun k h => nd k (h4 k (h3' k h))) (fun k h => h4 k (h3' k h)) (hd j (by simp))).more h2' (fun k h => nd k (h4 k (h4' k h))) (fun k h => h4 k (h4' k h)) (hd l (by simp))).more h5' (fun k h => nd k (h4 k (h6' k h))) (fun k h => h4 k (h6' k h)) (hd m (by simp))⟩
  · cases e
end
end Gv
namespace Gv
open PySem PySem.Spec L2

/-! ### comprehensions -/
def wipeV (ve : VEnv) : List Nat → VEnv
  | [] => ve
  | v :: vs => (wipeV ve vs).set v none
def vcompL (u : VU) (c : VB) (elt : VE) (ve : VEnv) : List Vl → Wo → VR (List Vl)
  | [], w => .ok [] w
  | x :: xs, w => match u x ve with
    | some ve1 => (c ve1 w).bind fun b w2 => if b = true then (elt ve1 w2).bind fun y w3 => (vcompL u c elt ve xs w3).bind fun ys w4 => .ok (y :: ys) w4 else vcompL u c elt ve xs w2
    | none => .no
def noErV {α : Type} (r : VR α) : VR α := match r with
  | .er _ _ => .no
  | r => r
@[simp] theorem noErV_ok {α : Type} (a : α) (w : Wo) : noErV (.ok a w) = .ok a w := rfl
def vLC (own : List Nat) (i : VI) (u : VU) (c : VB) (elt : VE) : VE := fun ve w => (i ve w).bind fun xs w1 => if xs.length < 16777216 then (noErV (vcompL u c elt (wipeV ve own) xs w1)).bind fun ys w2 => .ok (.lst ys) w2 else .no
def vcompL2 (u : VU) (c : VB) (inner : VEnv → Wo → VR (List Vl)) (ve : VEnv) : List Vl → Wo → VR (List Vl)
  | [], w => .ok [] w
  | x :: xs, w => match u x ve with
    | some ve1 => (c ve1 w).bind fun b w2 => if b = true then (inner ve1 w2).bind fun ys w3 => (vcompL2 u c inner ve xs w3).bind fun zs w4 => .ok (ys ++ zs) w4 else vcompL2 u c inner ve xs w2
    | none => .no
def vinner (i1 : VI) (u1 : VU) (c1 : VB) (elt : VE) (vs1 : List Nat) : VEnv → Wo → VR (List Vl) := fun ve w => (i1 ve w).bind fun xs w1 => if xs.length ≤ 4096 then vcompL u1 c1 elt (wipeV ve vs1) xs w1 else .no
def vLC2 (own vs1 : List Nat) (i : VI) (u : VU) (c : VB) (i1 : VI) (u1 : VU) (c1 : VB) (elt : VE) : VE := fun ve w => (i ve w).bind fun xs w1 => if xs.length ≤ 4095 then (noErV (vcompL2 u c (vinner i1 u1 c1 elt vs1) (wipeV ve own) xs w1)).bind fun ys w2 => .ok (.lst ys) w2 else .no
structure ExtN (loc : Loc) (n : Nat) (st st' : Sto) : Prop where
  le : st.length ≤ st'.length
  same : ∀ k, k < st.length → k ≠ n → (∀ i j, loc = some (i, j) → k ≠ i) → st'[k]? = st[k]?
section
variable {loc : Loc} {dl : Option Nat} {st st' s0 s1 s2 s : Sto} {en : En} {ve : VEnv} {w w0 w1 : Wo} {F F0 : Nat → List Nat} {ds es : List D} {vs us xs : List Vl} {G E Gi : List Nat} {d : D} {v : Vl} {al al' al1 al2 ale : List Nat} {n : Nat}
theorem ExtN.refl : ExtN loc n st st := ⟨Nat.le_refl _, fun _ _ _ _ => rfl⟩
theorem ExtN.trans (a : ExtN loc n st s1) (b : ExtN loc n s1 s2) : ExtN loc n st s2 := ⟨Nat.le_trans a.le b.le, fun k h hn q => by rw [b.same k (Nat.lt_of_lt_of_le h a.le) hn q, a.same k h hn q]⟩
theorem Ext.toN (a : Ext loc st s1) : ExtN loc n st s1 := ⟨a.le, fun k h _ q => a.same k h q⟩
theorem ExtN.set (o : Ob) : ExtN loc n st (st.set n o) := ⟨by simp, fun k _ h _ => List.getElem?_set_ne (fun z => h z.symm)⟩
theorem Rep.frame (r : Rep loc dl st en ve w F) (h : ∀ i, ∀ k ∈ F i, st'[k]? = st[k]?) (hw : Wd loc st' w1) : Rep loc dl st' en ve w1 F :=
  ⟨r.len, fun i v hv => let ⟨d, h1, h2⟩ := r.sl i v hv; ⟨d, h1, h2.frame (h i)⟩, r.nl, hw, r.fd, r.ds, r.no⟩
theorem Rep.extN (r : Rep loc dl st en ve w F) (h : ExtN loc n st st') (hn : ∀ i, n ∉ F i) (hw : Wd loc st' w1) : Rep loc dl st' en ve w1 F :=
  r.frame (fun i k hk => h.same k (r.lt hk) (fun z => hn i (z ▸ hk)) fun a b q => (r.fd i k hk a b q).1) hw
theorem Rep.clear (r : Rep loc dl st en ve w F) {i : Nat} (hd : dl ≠ some i) : Rep loc dl st (en.set i none) (ve.set i none) w (fun j => if j = i then [] else F j) := by
  refine ⟨by simp [r.len], fun j u hj => ?_, fun j hj => ?_, r.wd, fun j k hk => ?_, fun l hl => ?_, fun j hj hd' => ?_⟩
  · by_cases e : i = j
    · subst e
      by_cases hi : i < ve.length
      · rw [List.getElem?_set_self hi] at hj
        cases hj
      · rw [List.getElem?_eq_none (by rw [List.length_set]; omega)] at hj
        cases hj
    · rw [List.getElem?_set_ne e] at hj
      rw [List.getElem?_set_ne e]
      have : ¬ j = i := fun z => e z.symm
      simp only [if_neg this]
      exact r.sl j u hj
  · by_cases e : j = i
    · rw [if_pos e]
    · rw [if_neg e]
      exact r.nl j fun u hu => hj u (by rw [List.getElem?_set_ne (fun z => e z.symm)]; exact hu)
  · split at hk
    · cases hk
    · exact r.fd j k hk
  · obtain ⟨a, b, e1, e2, e3⟩ := r.ds l hl
    have : i ≠ l := fun z => hd (by rw [z]; exact hl)
    exact ⟨a, b, e1, by rw [List.getElem?_set_ne this]; exact e2, by rw [List.getElem?_set_ne this]; exact e3⟩
  · by_cases e : i = j
    · subst e
      by_cases hi : i < en.length
      · exact List.getElem?_set_self hi
      · rw [List.getElem?_eq_none (by rw [List.length_set, ← r.len]; omega)] at hj; cases hj
    · rw [List.getElem?_set_ne e] at hj ⊢
      exact r.no j hj hd'
theorem Rep.wipe (r : Rep loc dl st en ve w F) : ∀ {own : List Nat}, (∀ t ∈ own, dl ≠ some t) → Rep loc dl st (wipeE en own) (wipeV ve own) w (fun j => if j ∈ own then [] else F j)
  | [], _ => by
    have e : (fun j => if j ∈ ([] : List Nat) then [] else F j) = F := by funext j; simp
    rw [e]
    exact r
  | v :: vs, h => by
    have := (Rep.wipe r (own := vs) fun t ht => h t (List.mem_cons_of_mem _ ht)).clear (h v List.mem_cons_self)
    have e : (fun j => if j = v then [] else if j ∈ vs then [] else F j) = fun j => if j ∈ v :: vs then [] else F j := by
      funext j
      by_cases a : j = v <;> by_cases b : j ∈ vs <;> simp [a, b]
    rw [← e]
    exact this
theorem vcompL_len {u : VU} {c : VB} {elt : VE} : ∀ {xs : List Vl} {w ys w'}, vcompL u c elt ve xs w = .ok ys w' → ys.length ≤ xs.length
  | [], w, ys, w', h => by cases h; exact Nat.le_refl _
  | x :: xs, w, ys, w', h => by
    rw [vcompL] at h
    split at h
    · rename_i ve1 _
      cases hc : c ve1 w with
      | ok b w2 =>
        rw [hc] at h
        cases b with
        | false => exact Nat.le_succ_of_le (vcompL_len h)
        | true =>
          simp only [VR.bind_ok, if_true] at h
          cases he : elt ve1 w2 with
          | ok y w3 =>
            rw [he] at h
            simp only [VR.bind_ok] at h
            cases hr : vcompL u c elt ve xs w3 with
            | ok ys' w4 => rw [hr] at h; cases h; simpa using vcompL_len hr
            | er => rw [hr] at h; cases h
            | no => rw [hr] at h; cases h
          | er => rw [he] at h; cases h
          | no => rw [he] at h; cases h
      | er => rw [hc] at h; cases h
      | no => rw [hc] at h; cases h
    · cases h
/-- the list that is made -/
structure AccR (loc : Loc) (n : Nat) (P : Nat → Prop) (s : Sto) (vs : List Vl) (w : Wo) : Prop where
  ex : ∃ acc GA, s[n]? = some (.lst acc) ∧ Rps s acc vs GA ∧ n ∉ GA ∧ (∀ x ∈ GA, NotDr loc x) ∧ ∀ x ∈ GA, P x
  wd : Wd loc s w
theorem compL_ok {u : UD} {vu : VU} {c : BD} {vc : VB} {elt : ED} {velt : VE} {ts : List Nat} {fe : Bool} {it : ItD} {P : Nat → Prop} {base : Nat} (hu : UdOk u vu ts) (hc : SoundB dl c vc) (he : SoundE dl elt velt ale fe) (hdt : ∀ t ∈ ts, dl ≠ some t)
    (R0 : Rep loc dl s0 en ve w0 F0) (hI : RI s0 it xs Gi) (hGi : ∀ k ∈ Gi, NotDr loc k) (hn1 : n ∉ Gi) (hn2 : ∀ i, n ∉ F0 i) (hn3 : NotDr loc n) (hb : base ≤ s0.length) (hP1 : ∀ x, base ≤ x → P x) (hP2 : ∀ x ∈ Gi, P x) (hP3 : ∀ i ∈ ale, ∀ x ∈ F0 i, P x) :
    ∀ (m k : Nat) (s : Sto) (w : Wo) (accV : List Vl), it.items.length - k = m → k ≤ it.items.length → ExtN loc n s0 s → n < s.length → AccR loc n P s accV w → accV.length + m ≤ 16777216 →
      ∀ ys w', vcompL vu vc velt ve (xs.drop k) w = .ok ys w' → ∃ s', compL it u c elt en n k (it.items.drop k) s = .ok () s' ∧ ExtN loc n s0 s' ∧ n < s'.length ∧ AccR loc n P s' (accV ++ ys) w' := by
  obtain ⟨Ei, hit, hEi⟩ := hI.rp
  have hlen := hit.len
  intro m
  induction m with
  | zero =>
    intro k s w accV hm hk hx hns ha hl ys w' hv
    have hke : k = it.items.length := by omega
    subst hke
    have fr : ∀ k ∈ Gi, s[k]? = s0[k]? := fun k hk => hx.same k (hI.lt k hk) (fun z => hn1 (z ▸ hk)) fun i j q => (hGi k hk i j q).1
    rw [hlen, List.drop_length] at hv
    cases hv
    rw [List.drop_length, compL, if_pos (hI.ok fr (Nat.le_refl _)), List.append_nil]
    exact ⟨s, rfl, hx, hns, ha⟩
  | succ m ih =>
    intro k s w accV hm hk hx hns ha hl ys w' hv
    have hlt : k < it.items.length := by omega
    have hlt' : k < xs.length := by omega
    have fr : ∀ k ∈ Gi, s[k]? = s0[k]? := fun k hk => hx.same k (hI.lt k hk) (fun z => hn1 (z ▸ hk)) fun i j q => (hGi k hk i j q).1
    obtain ⟨d, A, hd, hA, hAi⟩ := hit.get (List.getElem?_eq_getElem hlt')
    have hd' : it.items[k] = d := by rw [List.getElem?_eq_getElem hlt] at hd; exact Option.some.inj hd
    have hA' : Rp s d xs[k] A := hA.frame fun x hx => fr x (hEi x (hAi x hx))
    have Rs : Rep loc dl s en ve w F0 := R0.extN hx hn2 ha.wd
    rw [List.drop_eq_getElem_cons hlt', vcompL] at hv
    cases hue : vu xs[k] ve with
    | none => rw [hue] at hv; cases hv
    | some ve1 =>
      rw [hue] at hv
      dsimp only at hv
      obtain ⟨en1, F1, eu, U⟩ := hu loc dl s en ve ve1 w F0 d xs[k] A hdt Rs hA' (fun x hx => hGi x (hEi x (hAi x hx))) hue
      rw [List.drop_eq_getElem_cons hlt, compL, if_pos (hI.ok fr hk), hd', eu]
      dsimp only
      have hC := hc loc s en1 ve1 w F1 U.rep
      cases hce : vc ve1 w with
      | no => rw [hce] at hv; cases hv
      | er => rw [hce] at hv; cases hv
      | ok b w2 =>
        rw [hce] at hv hC
        obtain ⟨b', s2, _, e2, ⟨rfl, _⟩, _, x2, q2⟩ := hC
        rw [e2]
        obtain ⟨acc, GA, a1, a2, a3, a4, a5⟩ := ha.ex
        have n2 : s2[n]? = s[n]? := x2.same n hns fun i j q => (hn3 i j q).1
        have a2' : Rps s2 acc accV GA := a2.ext a4 x2
        cases b' with
        | false =>
          simp only [VR.bind_ok, Re.bind_ok, Bool.false_eq_true, if_false] at hv ⊢
          exact ih (k + 1) s2 w2 accV (by omega) hlt (hx.trans x2.toN) (Nat.lt_of_lt_of_le hns x2.le) ⟨⟨acc, GA, by rw [n2]; exact a1, a2', a3, a4, a5⟩, q2⟩ (by omega) ys w' hv
        | true =>
          simp only [VR.bind_ok, Re.bind_ok, if_true] at hv ⊢
          have hE := he loc s2 en1 ve1 w2 F1 (U.rep.ext x2 q2)
          cases hee : velt ve1 w2 with
          | no => rw [hee] at hv; cases hv
          | er => rw [hee] at hv; cases hv
          | ok y w3 =>
            rw [hee] at hv hE
            simp only [VR.bind_ok] at hv
            obtain ⟨dy, s3, Gy, e3, ⟨ry, _⟩, py, x3, q3⟩ := hE
            have n3 : s3[n]? = s2[n]? := x3.same n (Nat.lt_of_lt_of_le hns x2.le) fun i j q => (hn3 i j q).1
            have hacc : s3[n]? = some (.lst acc) := by rw [n3, n2]; exact a1
            have hlen2 := a2.len
            rw [e3]
            simp only [Re.bind_ok, hacc]
            rw [if_pos (by omega)]
            have hns3 : n < s3.length := Nat.lt_of_lt_of_le hns (Nat.le_trans x2.le x3.le)
            -- what y is made of
            have hy : ∀ x ∈ Gy, x ≠ n ∧ P x := fun x hx' => by
              rcases py.2 x hx' with h | ⟨i, hi, h⟩
              · exact ⟨fun z => by have := x2.le; omega, hP1 x (by have := x2.le; have := hx.le; omega)⟩
              · have : x ∈ A ∨ x ∈ F0 i := by
                  by_cases ht : i ∈ ts
                  · exact U.inn i ht x h
                  · rw [(U.out i ht).1] at h; exact .inr h
                rcases this with h | h
                · exact ⟨fun z => hn1 (z ▸ hEi x (hAi x h)), hP2 x (hEi x (hAi x h))⟩
                · exact ⟨fun z => hn2 i (z ▸ h), hP3 i hi x h⟩
            have set3 : ∀ {x}, x ≠ n → (s3.set n (.lst (acc ++ [dy])))[x]? = s3[x]? := fun h => List.getElem?_set_ne fun z => h z.symm
            cases hr : vcompL vu vc velt ve (xs.drop (k + 1)) w3 with
            | no => rw [hr] at hv; cases hv
            | er => rw [hr] at hv; cases hv
            | ok zs w4 =>
              rw [hr] at hv
              cases hv
              obtain ⟨s', h1, h2, h3, h4⟩ := ih (k + 1) (s3.set n (.lst (acc ++ [dy]))) w3 (accV ++ [y]) (by omega) hlt ((hx.trans (x2.trans x3).toN).trans (ExtN.set _)) (by rw [List.length_set]; exact hns3)
                ⟨⟨acc ++ [dy], GA ++ Gy, List.getElem?_set_self hns3, ((a2'.ext a4 x3).append ry).frame fun x hx => set3 ((List.mem_append.mp hx).elim (fun h z => a3 (z ▸ h)) fun h => (hy x h).1),
                  fun z => (List.mem_append.mp z).elim a3 fun h => (hy n h).1 rfl, fun x hx => (List.mem_append.mp hx).elim (a4 x) (py.1 x), fun x hx => (List.mem_append.mp hx).elim (a5 x) fun h => (hy x h).2⟩,
                  fun i j q => ⟨(q3 i j q).1, by rw [set3 fun z => (hn3 i j q).1 z.symm]; exact (q3 i j q).2.1, by rw [set3 fun z => (hn3 i j q).2 z.symm]; exact (q3 i j q).2.2⟩⟩ (by simp only [List.length_append, List.length_cons, List.length_nil]; omega) zs _ hr
              refine ⟨s', h1, h2, h3, ?_⟩
              rw [List.append_assoc] at h4
              exact h4
theorem RI.frame {it : ItD} (r : RI st it xs G) (h : ∀ k ∈ G, st'[k]? = st[k]?) (hl : st.length ≤ st'.length) : RI st' it xs G :=
  ⟨let ⟨E, a, b⟩ := r.rp; ⟨E, a.frame fun k hk => h k (b k hk), b⟩, fun i ys e => let ⟨a, b, c⟩ := r.gd i ys e; ⟨a, by rw [h i a]; exact b, c⟩, fun k hk => Nat.lt_of_lt_of_le (r.lt k hk) hl⟩
theorem se_lc {own ts : List Nat} {i : ID} {vi : VI} {u : UD} {vu : VU} {c : BD} {vc : VB} {elt : ED} {velt : VE} {fe : Bool} (hi : SoundI dl i vi al1) (hu : UdOk u vu ts) (hc : SoundB dl c vc) (he : SoundE dl elt velt ale fe) (ho : own.all (fun t => decide (dl ≠ some t)) = true) (hts : ts.all (fun t => decide (dl ≠ some t)) = true) :
    SoundE dl (dLC own i u c elt) (vLC own vi vu vc velt) (al1 ++ ale) true := fun loc st en ve w F r =>
  (hi loc st en ve w F r).bind fun it s1 xs w1 Gi hI pI e1 q1 => by
    by_cases hl : xs.length < 16777216
    · rw [if_pos hl]
      have ho' : ∀ t ∈ own, dl ≠ some t := fun t ht => of_decide_eq_true (List.all_eq_true.mp ho t ht)
      have hts' : ∀ t ∈ ts, dl ≠ some t := fun t ht => of_decide_eq_true (List.all_eq_true.mp hts t ht)
      cases hv : vcompL vu vc velt (wipeV ve own) xs w1 with
      | no => trivial
      | er => trivial
      | ok ys w2 =>
        have ap : ∀ k, k < s1.length → (s1 ++ [Ob.lst []])[k]? = s1[k]? := fun k hk => List.getElem?_append_left hk
        have R1 := ((r.ext e1 q1).ext (Ext.app [.lst []]) (q1.app _)).wipe ho'
        have hI' : RI (s1 ++ [.lst []]) it xs Gi := hI.frame (fun k hk => ap k (hI.lt k hk)) (by simp)
        have hlen : it.items.length = xs.length := by obtain ⟨_, h, _⟩ := hI.rp; exact h.len
        have hFn : ∀ i, s1.length ∉ (fun j => if j ∈ own then [] else F j) i := fun i => by
          dsimp only
          split
          · exact fun h => nomatch h
          · intro h
            have h1 := r.lt h
            have h2 := e1.le
            omega
        obtain ⟨s', h1, h2, h3, h4⟩ := compL_ok (P := fun x => st.length ≤ x ∨ ∃ i ∈ al1 ++ ale, x ∈ F i) (base := st.length) hu hc he hts' R1 hI' pI.1 (fun z => Nat.lt_irrefl _ (hI.lt _ z)) hFn (q1.fresh (Nat.le_refl _)) (by have := e1.le; simp; omega) (fun x h => .inl h)
          (fun x hx => (pI.2 x hx).imp id fun ⟨i, a, b⟩ => ⟨i, List.mem_append_left _ a, b⟩) (fun i hi x hx => by
            split at hx
            · cases hx
            · exact .inr ⟨i, List.mem_append_right _ hi, hx⟩) it.items.length 0 (s1 ++ [.lst []]) w1 [] (by omega) (Nat.zero_le _) ExtN.refl (by simp) ⟨⟨[], [], by simp, .nil, fun h => (nomatch h), fun _ h => (nomatch h), fun _ h => (nomatch h)⟩, q1.app _⟩ (by simp; omega) ys w2 (by rw [List.drop_zero]; exact hv)
        rw [List.drop_zero] at h1
        obtain ⟨acc, GA, a1, a2, a3, a4, a5⟩ := h4.ex
        rw [h1]
        refine ⟨.obj s1.length, s', s1.length :: GA, rfl, ⟨Rp.lst a1 a2, fun _ k h => by cases h; exact e1.le⟩, ⟨fun k hk => ?_, fun k hk => ?_⟩, ⟨by have := h2.le; have := e1.le; simp at *; omega, fun k hk q => ?_⟩, h4.wd⟩
        · rcases List.mem_cons.mp hk with rfl | hk
          · exact q1.fresh (Nat.le_refl _)
          · exact a4 k hk
        · rcases List.mem_cons.mp hk with rfl | hk
          · exact .inl e1.le
          · exact a5 k hk
        · have := e1.le
          rw [h2.same k (by simp; omega) (by omega) q, ap k (by omega), e1.same k hk q]
    · rw [if_neg hl]; trivial
theorem vcompL2_no {u : VU} : True := trivial
theorem se_lc2 {own vs1 ts ts1 : List Nat} {i i1 : ID} {vi vi1 : VI} {u u1 : UD} {vu vu1 : VU} {c c1 : BD} {vc vc1 : VB} {elt : ED} {velt : VE} {fe : Bool} (hi : SoundI dl i vi al1) (hu : UdOk u vu ts) (hc : SoundB dl c vc) (hi1 : SoundI dl i1 vi1 al2) (hu1 : UdOk u1 vu1 ts1) (hc1 : SoundB dl c1 vc1) (he : SoundE dl elt velt ale fe)
    (ho : own.all (fun t => decide (dl ≠ some t)) = true) (ho1 : vs1.all (fun t => decide (dl ≠ some t)) = true) (hts : ts.all (fun t => decide (dl ≠ some t)) = true) (hts1 : ts1.all (fun t => decide (dl ≠ some t)) = true) :
    SoundE dl (dLC2 own vs1 i u c i1 u1 c1 elt) (vLC2 own vs1 vi vu vc vi1 vu1 vc1 velt) (al1 ++ (al2 ++ ale)) true := fun loc st en ve w F r =>
  (hi loc st en ve w F r).bind fun it s1 xs w1 Gi hI pI e1 q1 => by
    by_cases hl : xs.length ≤ 4095
    · rw [if_pos hl]
      have ho' : ∀ t ∈ own, dl ≠ some t := fun t ht => of_decide_eq_true (List.all_eq_true.mp ho t ht)
      have ho1' : ∀ t ∈ vs1, dl ≠ some t := fun t ht => of_decide_eq_true (List.all_eq_true.mp ho1 t ht)
      have hts' : ∀ t ∈ ts, dl ≠ some t := fun t ht => of_decide_eq_true (List.all_eq_true.mp hts t ht)
      have hts1' : ∀ t ∈ ts1, dl ≠ some t := fun t ht => of_decide_eq_true (List.all_eq_true.mp hts1 t ht)
      have ap : ∀ k, k < s1.length → (s1 ++ [Ob.lst []])[k]? = s1[k]? := fun k hk => List.getElem?_append_left hk
      have R0 := ((r.ext e1 q1).ext (Ext.app [.lst []]) (q1.app _)).wipe ho'
      have hI' : RI (s1 ++ [.lst []]) it xs Gi := hI.frame (fun k hk => ap k (hI.lt k hk)) (by simp)
      obtain ⟨Ei, hit, hEi⟩ := hI'.rp
      have hlen := hit.len
      have nd : NotDr loc s1.length := q1.fresh (Nat.le_refl _)
      have hn1 : s1.length ∉ Gi := fun z => Nat.lt_irrefl _ (hI.lt _ z)
      have hF0 : ∀ i x, x ∈ (fun j => if j ∈ own then [] else F j) i → x ∈ F i := fun i x h => by
        dsimp only at h
        split at h
        · cases h
        · exact h
      have hn2 : ∀ i, s1.length ∉ (fun j => if j ∈ own then [] else F j) i := fun i h => by
        have h1 := r.lt (hF0 i _ h)
        have h2 := e1.le
        omega
      let P : Nat → Prop := fun x => st.length ≤ x ∨ ∃ i ∈ al1 ++ (al2 ++ ale), x ∈ F i
      have hP2 : ∀ x ∈ Gi, P x := fun x hx => (pI.2 x hx).imp id fun ⟨i, a, b⟩ => ⟨i, List.mem_append_left _ a, b⟩
      have key : ∀ (m k : Nat) (s : Sto) (w : Wo) (accV : List Vl), it.items.length - k = m → k ≤ it.items.length → ExtN loc s1.length (s1 ++ [.lst []]) s → s1.length < s.length → AccR loc s1.length P s accV w → accV.length ≤ k * 4096 →
          ∀ ys w', vcompL2 vu vc (vinner vi1 vu1 vc1 velt vs1) (wipeV ve own) (xs.drop k) w = .ok ys w' → ∃ s', compL2 it u c (innerC i1 u1 c1 elt vs1 s1.length) (wipeE en own) k (it.items.drop k) s = .ok () s' ∧ ExtN loc s1.length (s1 ++ [.lst []]) s' ∧ s1.length < s'.length ∧ AccR loc s1.length P s' (accV ++ ys) w' := by
        intro m
        induction m with
        | zero =>
          intro k s w accV hm hk hx hns ha hl2 ys w' hv
          have hke : k = it.items.length := by omega
          subst hke
          have fr : ∀ k ∈ Gi, s[k]? = (s1 ++ [Ob.lst []])[k]? := fun k hk => hx.same k (hI'.lt k hk) (fun z => hn1 (z ▸ hk)) fun i j q => (pI.1 k hk i j q).1
          rw [hlen, List.drop_length] at hv
          cases hv
          rw [List.drop_length, compL2, if_pos (hI'.ok fr (Nat.le_refl _)), List.append_nil]
          exact ⟨s, rfl, hx, hns, ha⟩
        | succ m ih =>
          intro k s w accV hm hk hx hns ha hl2 ys w' hv
          have hlt : k < it.items.length := by omega
          have hlt' : k < xs.length := by omega
          have fr : ∀ k ∈ Gi, s[k]? = (s1 ++ [Ob.lst []])[k]? := fun k hk => hx.same k (hI'.lt k hk) (fun z => hn1 (z ▸ hk)) fun i j q => (pI.1 k hk i j q).1
          obtain ⟨d, A, hd, hA, hAi⟩ := hit.get (List.getElem?_eq_getElem hlt')
          have hd' : it.items[k] = d := by rw [List.getElem?_eq_getElem hlt] at hd; exact Option.some.inj hd
          have hA' : Rp s d xs[k] A := hA.frame fun x hx => fr x (hEi x (hAi x hx))
          have Rs := R0.extN hx hn2 ha.wd
          rw [List.drop_eq_getElem_cons hlt', vcompL2] at hv
          cases hue : vu xs[k] (wipeV ve own) with
          | none => rw [hue] at hv; cases hv
          | some ve1 =>
            rw [hue] at hv
            dsimp only at hv
            obtain ⟨en1, F1, eu, U⟩ := hu loc dl s _ _ ve1 w _ d xs[k] A hts' Rs hA' (fun x hx => pI.1 x (hEi x (hAi x hx))) hue
            have hF1 : ∀ i x, x ∈ F1 i → x ∈ A ∨ x ∈ F i := fun i x h => by
              by_cases ht : i ∈ ts
              · exact (U.inn i ht x h).imp id (hF0 i x)
              · rw [(U.out i ht).1] at h; exact .inr (hF0 i x h)
            have hF1n : ∀ i, s1.length ∉ F1 i := fun i h => (hF1 i _ h).elim (fun h => hn1 (hEi _ (hAi _ h))) fun h => by have := r.lt h; have := e1.le; omega
            have hF1P : ∀ i, i ∈ al1 ++ (al2 ++ ale) → ∀ x ∈ F1 i, P x := fun i hi x h => (hF1 i x h).elim (fun h => hP2 x (hEi x (hAi x h))) fun h => .inr ⟨i, hi, h⟩
            rw [List.drop_eq_getElem_cons hlt, compL2, if_pos (hI'.ok fr hk), hd', eu]
            dsimp only
            have hC := hc loc s en1 ve1 w F1 U.rep
            cases hce : vc ve1 w with
            | no => rw [hce] at hv; cases hv
            | er => rw [hce] at hv; cases hv
            | ok b w2 =>
              rw [hce] at hv hC
              obtain ⟨b', s2, _, e2, ⟨rfl, _⟩, _, x2, q2⟩ := hC
              rw [e2]
              obtain ⟨acc, GA, a1, a2, a3, a4, a5⟩ := ha.ex
              have n2 : s2[s1.length]? = s[s1.length]? := x2.same _ hns fun i j q => (nd i j q).1
              have a2' : Rps s2 acc accV GA := a2.ext a4 x2
              have hns2 : s1.length < s2.length := Nat.lt_of_lt_of_le hns x2.le
              cases b' with
              | false =>
                simp only [VR.bind_ok, Re.bind_ok, Bool.false_eq_true, if_false] at hv ⊢
                exact ih (k + 1) s2 w2 accV (by omega) hlt (hx.trans x2.toN) hns2 ⟨⟨acc, GA, by rw [n2]; exact a1, a2', a3, a4, a5⟩, q2⟩ (by omega) ys w' hv
              | true =>
                simp only [VR.bind_ok, Re.bind_ok, if_true] at hv ⊢
                have U2 := U.rep.ext x2 q2
                have hIn := hi1 loc s2 en1 ve1 w2 F1 U2
                have hvi : vinner vi1 vu1 vc1 velt vs1 ve1 w2 = (vi1 ve1 w2).bind fun xs w1 => if xs.length ≤ 4096 then vcompL vu1 vc1 velt (wipeV ve1 vs1) xs w1 else .no := rfl
                rw [hvi] at hv
                cases hie : vi1 ve1 w2 with
                | no => rw [hie] at hv; cases hv
                | er => rw [hie] at hv; cases hv
                | ok xs1 w3 =>
                  rw [hie] at hv hIn
                  obtain ⟨it1, s3, Gi1, e3, hI1, p1, x3, q3⟩ := hIn
                  simp only [VR.bind_ok] at hv
                  by_cases hl1 : xs1.length ≤ 4096
                  · rw [if_pos hl1] at hv
                    cases hve : vcompL vu1 vc1 velt (wipeV ve1 vs1) xs1 w3 with
                    | no => rw [hve] at hv; cases hv
                    | er => rw [hve] at hv; cases hv
                    | ok ys1 w4 =>
                      rw [hve] at hv
                      simp only [VR.bind_ok] at hv
                      have hlen1 : it1.items.length = xs1.length := by obtain ⟨_, h, _⟩ := hI1.rp; exact h.len
                      have n3 : s3[s1.length]? = s2[s1.length]? := x3.same _ hns2 fun i j q => (nd i j q).1
                      have hle := hx.le
                      have hGn : s1.length ∉ Gi1 := fun z => by
                        rcases p1.2 _ z with h | ⟨i, _, h⟩
                        · omega
                        · exact hF1n i h
                      have hst : st.length ≤ s3.length := by have := e1.le; have := x2.le; have := x3.le; simp at hle; omega
                      have Rw := (U2.ext x3 q3).wipe ho1'
                      have hk4 : k ≤ 4094 := by omega
                      have hw0 : ∀ i x, x ∈ (fun j => if j ∈ vs1 then [] else F1 j) i → x ∈ F1 i := fun i x h => by
                        dsimp only at h
                        split at h
                        · cases h
                        · exact h
                      obtain ⟨s4, h1, h2, h3, h4⟩ := compL_ok (P := P) (base := st.length) hu1 hc1 he hts1' Rw hI1 p1.1 hGn (fun i h => hF1n i (hw0 i _ h)) nd hst (fun x h => .inl h)
                        (fun x hx => (p1.2 x hx).elim (fun h => .inl (by have := e1.le; have := x2.le; simp at hle; omega)) fun ⟨i, a, b⟩ => hF1P i (List.mem_append_right _ (List.mem_append_left _ a)) x b)
                        (fun i hi x hx => hF1P i (List.mem_append_right _ (List.mem_append_right _ hi)) x (hw0 i x hx)) it1.items.length 0 s3 w3 accV (by omega) (Nat.zero_le _) ExtN.refl (Nat.lt_of_lt_of_le hns2 x3.le)
                        ⟨⟨acc, GA, by rw [n3, n2]; exact a1, a2'.ext a4 x3, a3, a4, a5⟩, q3⟩ (by omega) ys1 w4 (by rw [List.drop_zero]; exact hve)
                      rw [List.drop_zero] at h1
                      have hlenys := vcompL_len hve
                      have hin : innerC i1 u1 c1 elt vs1 s1.length en1 s2 = .ok () s4 := by unfold innerC; rw [e3]; exact h1
                      rw [hin]
                      simp only [Re.bind_ok]
                      cases hr : vcompL2 vu vc (vinner vi1 vu1 vc1 velt vs1) (wipeV ve own) (xs.drop (k + 1)) w4 with
                      | no => rw [hr] at hv; cases hv
                      | er => rw [hr] at hv; cases hv
                      | ok zs w5 =>
                        have hr' := hr
                        rw [hr] at hv
                        cases hv
                        obtain ⟨s', g1, g2, g3, g4⟩ := ih (k + 1) s4 w4 (accV ++ ys1) (by omega) hlt (hx.trans ((x2.trans x3).toN.trans h2)) h3 h4 (by rw [List.length_append]; omega) zs _ hr'
                        refine ⟨s', g1, g2, g3, ?_⟩
                        rw [List.append_assoc] at g4
                        exact g4
                  · rw [if_neg hl1] at hv; cases hv
      cases hv : vcompL2 vu vc (vinner vi1 vu1 vc1 velt vs1) (wipeV ve own) xs w1 with
      | no => trivial
      | er => trivial
      | ok ys w2 =>
        obtain ⟨s', h1, h2, h3, h4⟩ := key it.items.length 0 (s1 ++ [.lst []]) w1 [] (by omega) (Nat.zero_le _) ExtN.refl (by simp) ⟨⟨[], [], by simp, .nil, fun h => (nomatch h), fun _ h => (nomatch h), fun _ h => (nomatch h)⟩, q1.app _⟩ (by simp) ys w2 (by rw [List.drop_zero]; exact hv)
        rw [List.drop_zero] at h1
        obtain ⟨acc, GA, a1, a2, a3, a4, a5⟩ := h4.ex
        rw [h1]
        refine ⟨.obj s1.length, s', s1.length :: GA, rfl, ⟨Rp.lst a1 a2, fun _ k h => by cases h; exact e1.le⟩, ⟨fun k hk => ?_, fun k hk => ?_⟩, ⟨by have := h2.le; have := e1.le; simp at *; omega, fun k hk q => ?_⟩, h4.wd⟩
        · rcases List.mem_cons.mp hk with rfl | hk
          · exact q1.fresh (Nat.le_refl _)
          · exact a4 k hk
        · rcases List.mem_cons.mp hk with rfl | hk
          · exact .inl e1.le
          · exact a5 k hk
        · have := e1.le
          rw [h2.same k (by simp; omega) (by omega) q, ap k (by omega), e1.same k hk q]
    · rw [if_neg hl]; trivial
end
end Gv
namespace Gv
open PySem PySem.Spec L2

/-! ### statements -/
def VR.toS {α : Type} (r : VR α) (f : α → Wo → VRs) : VRs := match r with
  | .ok a w => f a w
  | .er e w => .er e w
  | .no => .no
@[simp] theorem VR.toS_ok {α : Type} (a : α) (w : Wo) (f : α → Wo → VRs) : (VR.ok a w).toS f = f a w := rfl
@[simp] theorem VR.toS_er {α : Type} (a : Vx) (w : Wo) (f : α → Wo → VRs) : (VR.er a w : VR α).toS f = .er a w := rfl
@[simp] theorem VR.toS_no {α : Type} (f : α → Wo → VRs) : (VR.no : VR α).toS f = .no := rfl
def shal : Vl → Bool
  | .lst xs => flatL xs
  | .dK kvs => flatL (kvs.map (·.2))
  | .dT kvs => flatL (kvs.map (·.2))
  | v => v.flat
def chk : Nat → Vl → Bool
  | 0, _ => true
  | 1, v => v.flat
  | _, v => shal v
def vSkip : VS := fun ve w => .nx ve w
def vSeq (a b : VS) : VS := fun ve w => match a ve w with
  | .nx ve' w' => b ve' w'
  | r => r
def vSet (c i : Nat) (e : VE) : VS := fun ve w => (e ve w).toS fun x w1 => if chk c x = true then .nx (ve.set i (some x)) w1 else .no
def vUnp (c : Nat) (u : VU) (e : VE) : VS := fun ve w => (e ve w).toS fun x w1 => if chk c x = true then match u x ve with
  | some ve' => .nx ve' w1
  | none => .no else .no
def vPar (c i j : Nat) (a : VA) : VS := fun ve w => (a ve w).toS fun xs w1 => match vuT2 i j (.tup xs) ve with
  | some ve' => if xs.all (chk c) = true then .nx ve' w1 else .no
  | none => .no
def vPar3 (c i j l : Nat) (a : VA) : VS := fun ve w => (a ve w).toS fun xs w1 => match vuT3 i j l (.tup xs) ve with
  | some ve' => if xs.all (chk c) = true then .nx ve' w1 else .no
  | none => .no
def vEx (e : VE) : VS := fun ve w => (e ve w).toS fun _ w1 => .nx ve w1
def appV (c : Nat) (o : Option (Option Vl)) (x : Vl) : Option Vl := match o with
  | some (some (.lst xs)) => if xs.length < 16777216 ∧ chk c x = true then some (.lst (xs ++ [x])) else none
  | _ => none
def extV (c : Nat) (o : Option (Option Vl)) (x : Vl) : Option Vl := match o, x with
  | some (some (.lst xs)), .lst ys => if xs.length + ys.length ≤ 16777216 ∧ chk c x = true then some (.lst (xs ++ ys)) else none
  | _, _ => none
def setVl (o z x : Vl) : Option Vl := match o with
  | .lst xs => match z with
    | .int j => (ixN xs.length j).map fun m => .lst (xs.set m x)
    | _ => none
  | .dK kvs => if kvs.length < 16777216 then (vkey z).map fun j => .dK (putV kvs j x) else none
  | .dT kvs => if kvs.length < 16777216 then match z with
    | .tup ks => (vkeys ks).map fun js => .dT (putV kvs js x)
    | _ => none
    else none
  | _ => none
def subV (c : Nat) (o : Option (Option Vl)) (z x : Vl) : Option Vl := match o with
  | some (some o) => if chk c x = true then setVl o z x else none
  | _ => none
def nxV (i : Nat) (o : Option Vl) (ve : VEnv) (w : Wo) : VRs := match o with
  | some v => .nx (ve.set i (some v)) w
  | none => .no
@[simp] theorem nxV_some (i : Nat) (v : Vl) (ve : VEnv) (w : Wo) : nxV i (some v) ve w = .nx (ve.set i (some v)) w := rfl
def isLV : Option (Option Vl) → Bool
  | some (some (.lst _)) => true
  | _ => false
@[simp] theorem isLV_lst (xs : List Vl) : isLV (some (some (.lst xs))) = true := rfl
def vApp (c i : Nat) (e : VE) : VS := fun ve w => if isLV ve[i]? = true then (e ve w).toS fun x w1 => nxV i (appV c ve[i]? x) ve w1 else .no
def vExtd (c i : Nat) (e : VE) : VS := fun ve w => if isLV ve[i]? = true then (e ve w).toS fun x w1 => nxV i (extV c ve[i]? x) ve w1 else .no
def isVal : Option (Option Vl) → Bool
  | some (some _) => true
  | _ => false
@[simp] theorem isVal_some (v : Vl) : isVal (some (some v)) = true := rfl
def vSub (c i : Nat) (z e : VE) : VS := fun ve w => (e ve w).toS fun x w1 => if isVal ve[i]? = true then (z ve w1).toS fun y w2 => nxV i (subV c ve[i]? y x) ve w2 else .no
def vRet (e : VE) : VS := fun ve w => (e ve w).toS fun x w1 => .rt x w1
def vRetN : VS := fun _ w => .rt .non w
def vIte (c : VB) (a b : VS) : VS := fun ve w => (c ve w).toS fun k w1 => if k = true then a ve w1 else b ve w1
def vBrk : VS := fun ve w => .bk ve w
def vCt : VS := fun ve w => .ct ve w
def vForL (u : VU) (body : VS) : List Vl → VEnv → Wo → VRs
  | [], ve, w => .nx ve w
  | x :: xs, ve, w => match u x ve with
    | some ve1 => match body ve1 w with
      | .nx ve2 w2 => vForL u body xs ve2 w2
      | .ct ve2 w2 => vForL u body xs ve2 w2
      | .bk ve2 w2 => .nx ve2 w2
      | r => r
    | none => .no
def vFor (i : VI) (u : VU) (body : VS) : VS := fun ve w => (i ve w).toS fun xs w1 => vForL u body xs ve w1
def vWhileF (c : VB) (body : VS) : Nat → VEnv → Wo → VRs
  | 0, _, _ => .no
  | n + 1, ve, w => (c ve w).toS fun k w1 => if k = true then match body ve w1 with
      | .nx ve2 w2 => vWhileF c body n ve2 w2
      | .ct ve2 w2 => vWhileF c body n ve2 w2
      | .bk ve2 w2 => .nx ve2 w2
      | r => r
    else .nx ve w1
def vWhile (c : VB) (body : VS) : VS := fun ve w => vWhileF c body 1000000 ve w
def vTry (c i : Nat) (f : Vx → Vl) (body : VS) : VS := fun ve w => match body ve w with
  | .er x w1 => if x.cls = c ∧ i < ve.length then .rt (f x) w1 else .no
  | r => r
def raiV (c : Nat) (xs : List Vl) (w : Wo) : VRs := match xs with
  | [x] => if x.flat = true then .er ⟨c, x, .int 0⟩ w else .no
  | [x, y] => if (x.flat && y.flat) = true then .er ⟨c, x, y⟩ w else .no
  | _ => .no
def vRs1 (c : Nat) (a : VA) : VS := fun ve w => (a ve w).toS fun xs w1 => match xs with
  | [x] => if x.flat = true then .er ⟨c, x, .int 0⟩ w1 else .no
  | _ => .no
def vRs2 (c : Nat) (a : VA) : VS := fun ve w => (a ve w).toS fun xs w1 => match xs with
  | [x, y] => if (x.flat && y.flat) = true then .er ⟨c, x, y⟩ w1 else .no
  | _ => .no
def vSNo : VS := fun _ _ => .no

def Own (O : List Nat) (en : En) (F : Nat → List Nat) : Prop := ∀ i ∈ O, ∀ k, en[i]? = some (some (.obj k)) → k ∈ F i → ∀ j, j ≠ i → k ∉ F j
structure Frm (loc : Loc) (O : List Nat) (en : En) (st st' : Sto) : Prop where
  le : st.length ≤ st'.length
  same : ∀ k, k < st.length → (∀ i j, loc = some (i, j) → k ≠ i) → (∀ i ∈ O, en[i]? ≠ some (some (.obj k))) → st'[k]? = st[k]?
def OwnFr (O : List Nat) (en : En) (n : Nat) (O' : List Nat) (en' : En) : Prop := ∀ i ∈ O', ∀ k, en'[i]? = some (some (.obj k)) → k < n → ∃ j ∈ O, en[j]? = some (some (.obj k))
structure NxR (loc : Loc) (dl : Option Nat) (O O' : List Nat) (en : En) (st : Sto) (en' : En) (ve' : VEnv) (st' : Sto) (w' : Wo) : Prop where
  ex : ∃ F', Rep loc dl st' en' ve' w' F' ∧ Own O' en' F'
  fr : Frm loc O en st st'
  ow : OwnFr O en st.length O' en'
  le : en'.length = en.length
def PostSt (loc : Loc) (dl : Option Nat) (B O O' : List Nat) (en : En) (st : Sto) (r : Rs) : VRs → Prop
  | .nx ve' w' => ∃ en' st', r = .nx en' st' ∧ NxR loc dl O O' en st en' ve' st' w'
  | .bk ve' w' => ∃ en' st', r = .bk en' st' ∧ NxR loc dl O B en st en' ve' st' w'
  | .ct ve' w' => ∃ en' st', r = .ct en' st' ∧ NxR loc dl O B en st en' ve' st' w'
  | .rt x w' => ∃ d st' G, r = .rt d st' ∧ Rp st' d x G ∧ (∀ k ∈ G, NotDr loc k) ∧ Frm loc O en st st' ∧ Wd loc st' w'
  | .er x w' => ∃ ex en' st', r = .er ex en' st' ∧ Rx ex x ∧ en'.length = en.length ∧ Frm loc O en st st' ∧ Wd loc st' w'
  | .no => True
def SoundS (dl : Option Nat) (B O : List Nat) (s : SD) (v : VS) (O' : List Nat) : Prop := ∀ loc st en ve w F, Rep loc dl st en ve w F → Own O en F → PostSt loc dl B O O' en st (s en st) (v ve w)
section
variable {loc : Loc} {dl : Option Nat} {st st' s0 s1 s2 s : Sto} {en en1 en' : En} {ve ve1 ve' : VEnv} {w w0 w1 : Wo} {F F0 F' : Nat → List Nat} {ds es : List D} {vs us xs : List Vl} {G E Gi : List Nat} {d : D} {v : Vl} {al al' al1 al2 ale : List Nat} {n : Nat} {B O O' O1 O2 OL : List Nat} {fr : Bool}
  {r : Rs} {q : VRs} {e : ED} {v : VE}
theorem Frm.refl : Frm loc O en st st := ⟨Nat.le_refl _, fun _ _ _ _ => rfl⟩
theorem Ext.frm (h : Ext loc st s1) : Frm loc O en st s1 := ⟨h.le, fun k hk q _ => h.same k hk q⟩
theorem Frm.trans (a : Frm loc O en st s1) (o : OwnFr O en st.length O1 en1) (b : Frm loc O1 en1 s1 s2) : Frm loc O en st s2 :=
  ⟨Nat.le_trans a.le b.le, fun k hk q h => by rw [b.same k (Nat.lt_of_lt_of_le hk a.le) q fun i hi z => let ⟨j, hj, e⟩ := o i hi k z hk; h j hj e, a.same k hk q h]⟩
theorem OwnFr.trans (o : OwnFr O en st.length O1 en1) (hl : st.length ≤ s1.length) (o2 : OwnFr O1 en1 s1.length O2 en') : OwnFr O en st.length O2 en' := fun i hi k z hk => let ⟨j, hj, e⟩ := o2 i hi k z (Nat.lt_of_lt_of_le hk hl); o j hj k e hk
theorem NxR.trans (a : NxR loc dl O O1 en st en1 ve1 s1 w1) (b : NxR loc dl O1 O2 en1 s1 en' ve' s2 w0) : NxR loc dl O O2 en st en' ve' s2 w0 := ⟨b.ex, a.fr.trans a.ow b.fr, a.ow.trans a.fr.le b.ow, b.le.trans a.le⟩
theorem NxR.seq (a : NxR loc dl O O1 en st en1 ve1 s1 w1) (h : PostSt loc dl B O1 O2 en1 s1 r q) : PostSt loc dl B O O2 en st r q := by
  cases q with
  | nx => obtain ⟨e', st', rfl, h⟩ := h; exact ⟨_, _, rfl, a.trans h⟩
  | bk => obtain ⟨e', st', rfl, h⟩ := h; exact ⟨_, _, rfl, a.trans h⟩
  | ct => obtain ⟨e', st', rfl, h⟩ := h; exact ⟨_, _, rfl, a.trans h⟩
  | rt => obtain ⟨d, st', G, rfl, h1, h2, h3, h4⟩ := h; exact ⟨_, _, _, rfl, h1, h2, a.fr.trans a.ow h3, h4⟩
  | er => obtain ⟨x, e', st', rfl, h1, h2, h3, h4⟩ := h; exact ⟨_, _, _, rfl, h1, h2.trans a.le, a.fr.trans a.ow h3, h4⟩
  | no => trivial
theorem Own.sub (h : Own O en F) (hs : ∀ i ∈ O', i ∈ O) : Own O' en F := fun i hi => h i (hs i hi)
theorem NxR.weak (a : NxR loc dl O O1 en st en1 ve1 s1 w1) (hs : ∀ i ∈ O2, i ∈ O1) : NxR loc dl O O2 en st en1 ve1 s1 w1 := ⟨let ⟨F, a, b⟩ := a.ex; ⟨F, a, b.sub hs⟩, a.fr, fun i hi => a.ow i (hs i hi), a.le⟩
def subL (O' O : List Nat) : Bool := O'.all fun i => O.contains i
theorem subL_mem (h : subL O' O = true) : ∀ i ∈ O', i ∈ O := fun i hi => by simpa using List.all_eq_true.mp h i hi
theorem PostSt.weak (h : PostSt loc dl B O O1 en st r q) (hs : ∀ i ∈ O2, i ∈ O1) : PostSt loc dl B O O2 en st r q := by
  cases q with
  | nx => obtain ⟨e', st', rfl, h⟩ := h; exact ⟨_, _, rfl, h.weak hs⟩
  | _ => exact h
theorem ss_weak {a : SD} {va : VS} (h : SoundS dl B O a va O1) (hs : subL O2 O1 = true) : SoundS dl B O a va O2 := fun loc st en ve w F r o => (h loc st en ve w F r o).weak (subL_mem hs)
theorem NxR.ext (r : Rep loc dl st en ve w F) (o : Own O en F) (e : Ext loc st s1) (q : Wd loc s1 w1) : NxR loc dl O O en st en ve s1 w1 := ⟨⟨F, r.ext e q, o⟩, e.frm, fun i hi k z _ => ⟨i, hi, z⟩, rfl⟩
theorem ss_skip : SoundS dl B O sSkip vSkip O := fun loc st en ve w F r o => ⟨_, _, rfl, NxR.ext r o Ext.refl r.wd⟩
theorem ss_seq {a b : SD} {va vb : VS} (ha : SoundS dl B O a va O1) (hb : SoundS dl B O1 b vb O2) : SoundS dl B O (sSeq a b) (vSeq va vb) O2 := fun loc st en ve w F r o => by
  have h := ha loc st en ve w F r o
  unfold sSeq vSeq
  cases hv : va ve w with
  | nx ve' w' =>
    rw [hv] at h
    obtain ⟨en', st', e, h⟩ := h
    rw [e]
    obtain ⟨F', r', o'⟩ := h.ex
    exact h.seq (hb loc st' en' ve' w' F' r' o')
  | bk ve' w' => rw [hv] at h; obtain ⟨en', st', e, h⟩ := h; rw [e]; exact ⟨_, _, rfl, h⟩
  | ct ve' w' => rw [hv] at h; obtain ⟨en', st', e, h⟩ := h; rw [e]; exact ⟨_, _, rfl, h⟩
  | rt x w' => rw [hv] at h; obtain ⟨d, st', G, e, h⟩ := h; rw [e]; exact ⟨_, _, _, rfl, h⟩
  | er x w' => rw [hv] at h; obtain ⟨d, en', st', e, h⟩ := h; rw [e]; exact ⟨_, _, _, rfl, h⟩
  | no => trivial
/-- an expression's value in a statement -/
theorem PostR.toS {α β : Type} {R : Sto → α → β → List Nat → Prop} {r : Re α} {q : VR β} {f : α → Sto → Rs} {g : β → Wo → VRs} (h : PostR R loc F st al r q) (hs : en1.length = en.length)
    (k : ∀ d s1 x w1 G, R s1 d x G → Fp loc F st al G → Ext loc st s1 → Wd loc s1 w1 → PostSt loc dl B O O' en st (f d s1) (g x w1)) : PostSt loc dl B O O' en st (r.toS en1 f) (q.toS g) := by
  cases q with
  | ok x w' => obtain ⟨d, s, G, rfl, b, c, e, f'⟩ := h; exact k d s x w' G b c e f'
  | er x w' => obtain ⟨ex, s, rfl, b, c, f'⟩ := h; exact ⟨_, _, _, rfl, b, hs, c.frm, f'⟩
  | no => trivial
theorem PostR.toS' {α β : Type} {R : Sto → α → β → List Nat → Prop} {r : Re α} {q : VR β} {f : α → Sto → Rs} {g : β → Wo → VRs} (h : PostR R loc F s1 al r q) (h1 : Ext loc st s1) (hs : en1.length = en.length)
    (k : ∀ d s2 x w1 G, R s2 d x G → Fp loc F st al G → Ext loc s1 s2 → Ext loc st s2 → Wd loc s2 w1 → PostSt loc dl B O O' en st (f d s2) (g x w1)) : PostSt loc dl B O O' en st (r.toS en1 f) (q.toS g) := by
  cases q with
  | ok x w' => obtain ⟨d, s, G, rfl, b, c, e, f'⟩ := h; exact k d s x w' G b (c.up h1.le fun _ h => h) e (h1.trans e) f'
  | er x w' => obtain ⟨ex, s, rfl, b, c, f'⟩ := h; exact ⟨_, _, _, rfl, b, hs, (h1.trans c).frm, f'⟩
  | no => trivial
theorem chk1 {c : Nat} {v : Vl} (h : Rp st d v G) (hc : chk c v = true) : (c = 1 → G = []) ∧ (c ≠ 0 → ∀ k ∈ G, d = .obj k) := by
  match c, hc with
  | 0, _ => exact ⟨fun z => (nomatch z), fun z => absurd rfl z⟩
  | 1, hc => rw [h.flat hc]; exact ⟨fun _ => rfl, fun _ _ h => (nomatch h)⟩
  | c + 2, hc =>
    refine ⟨fun z => by omega, fun _ k hk => ?_⟩
    simp only [chk] at hc
    cases v with
    | lst xs => obtain ⟨m, es, E, rfl, rfl, _, hs⟩ := Rp.lst_inv h; rw [hs.flat hc] at hk; rw [List.mem_singleton.mp hk]
    | dK xs => obtain ⟨m, es, E, rfl, rfl, _, _, hs⟩ := Rp.dK_inv h; rw [hs.flat hc] at hk; rw [List.mem_singleton.mp hk]
    | dT xs => obtain ⟨m, es, E, rfl, rfl, _, _, hs⟩ := Rp.dT_inv h; rw [hs.flat hc] at hk; rw [List.mem_singleton.mp hk]
    | non => rw [h.flat hc] at hk; cases hk
    | int => rw [h.flat hc] at hk; cases hk
    | bl => rw [h.flat hc] at hk; cases hk
    | str => rw [h.flat hc] at hk; cases hk
    | tup => rw [h.flat hc] at hk; cases hk
/-- the heads of these are not in there -/
def NoH (en : En) (F : Nat → List Nat) (O' : List Nat) (G : List Nat) : Prop := ∀ j ∈ O', ∀ k, en[j]? = some (some (.obj k)) → k ∈ F j → k ∉ G
theorem noH (r : Rep loc dl st en ve w F) (o : Own O en F) {c : Nat} (hG : Fp loc F st al G) (hO : ∀ j ∈ O', j ∈ O ∧ (c = 0 → j ∉ al)) (hc : c ≠ 0 → ∀ k ∈ G, st.length ≤ k) : NoH en F O' G := fun j hj k e hk hkG => by
  have hlt := r.lt hk
  by_cases z : c = 0
  · rcases hG.2 k hkG with h | ⟨i, hi, h⟩
    · omega
    · have : i ≠ j := fun q => (hO j hj).2 z (q ▸ hi)
      exact o j (hO j hj).1 k e hk i this h
  · have := hc z k hkG
    omega
theorem own_ud {ts : List Nat} (U : UdR loc dl s1 en en' ve' w1 F F' ts G) (o : Own O en F) (hO : ∀ j ∈ O', j ∈ O ∧ j ∉ ts) (hn : NoH en F O' G) : Own O' en' F' := fun j hj k e hk j' hj' hk' => by
  have h1 := U.out j (hO j hj).2
  rw [h1.2] at e
  rw [h1.1] at hk
  by_cases ht : j' ∈ ts
  · rcases U.inn j' ht k hk' with h | h
    · exact hn j hj k e hk h
    · exact o j (hO j hj).1 k e hk j' hj' h
  · rw [(U.out j' ht).1] at hk'
    exact o j (hO j hj).1 k e hk j' hj' hk'
theorem ownfr_ud {ts : List Nat} (U : UdR loc dl s1 en en' ve' w1 F F' ts G) (hO : ∀ j ∈ O', j ∈ O ∧ j ∉ ts) : OwnFr O en n O' en' := fun j hj k e _ => ⟨j, (hO j hj).1, by rw [← (U.out j (hO j hj).2).2]; exact e⟩
def okO (O O' ts al : List Nat) (c : Nat) : Bool := O'.all fun j => O.contains j && !ts.contains j && (c != 0 || !al.contains j)
theorem okO_mem {ts : List Nat} {c : Nat} (h : okO O O' ts al c = true) : ∀ j ∈ O', (j ∈ O ∧ j ∉ ts) ∧ (c = 0 → j ∉ al) := fun j hj => by
  have := List.all_eq_true.mp h j hj
  simp only [Bool.and_eq_true, Bool.or_eq_true, bne_iff_ne, ne_eq, Bool.not_eq_true', List.contains_eq_mem, decide_eq_true_eq, decide_eq_false_iff_not] at this
  exact ⟨⟨this.1.1, this.1.2⟩, fun z => this.2.resolve_left fun q => q z⟩
def okS (dl : Option Nat) (O O' : List Nat) (i : Nat) (al : List Nat) (c : Nat) (fr : Bool) : Bool := decide (dl ≠ some i) && (fr || decide (c < 2)) && O'.all fun j => (j == i && fr) || (O.contains j && j != i && (c != 0 || !al.contains j))
theorem ss_set (h : SoundE dl e v al fr) (i c : Nat) (hO : okS dl O O' i al c fr = true) : SoundS dl B O (sSet i e) (vSet c i v) O' := fun loc st en ve w F r o =>
  (h loc st en ve w F r).toS rfl fun d s1 x w1 G hx px e1 q1 => by
    simp only [okS, Bool.and_eq_true, Bool.or_eq_true, decide_eq_true_eq] at hO
    obtain ⟨⟨hd, hf⟩, hO⟩ := hO
    by_cases hc : chk c x = true
    · rw [if_pos hc]
      have R1 := r.ext e1 q1
      have U := UdR.one R1 hx.1 px.1 hd
      have hc1 := chk1 hx.1 hc
      have hfr : c ≠ 0 → ∀ k ∈ G, st.length ≤ k := fun z k hk => by
        rcases hf with hf | hf
        · exact hx.2 hf k (hc1.2 z k hk)
        · rw [hc1.1 (by omega)] at hk; cases hk
      have hO1 : ∀ j ∈ O', j ≠ i → j ∈ O ∧ (c = 0 → j ∉ al) := fun j hj hi => by
        have := List.all_eq_true.mp hO j hj
        simp only [Bool.and_eq_true, Bool.or_eq_true, beq_iff_eq, bne_iff_ne, ne_eq, Bool.not_eq_true', List.contains_eq_mem, decide_eq_true_eq, decide_eq_false_iff_not] at this
        rcases this with h | h
        · exact absurd h.1 hi
        · exact ⟨h.1.1, fun z => h.2.resolve_left fun q => q z⟩
      have hO2 : i ∈ O' → fr = true := fun hj => by
        have := List.all_eq_true.mp hO i hj
        simpa using this
      refine ⟨_, _, rfl, ⟨_, U.rep, fun j hj k ek hk j' hj' hk' => ?_⟩, e1.frm, fun j hj k ek hkl => ?_, by simp⟩
      · by_cases hi : j = i
        · subst hi
          -- the new one
          have hfr' := hO2 hj
          have : ¬ (j' = j ∧ j < ve.length) := fun z => hj' z.1
          simp only [upF, if_neg this] at hk'
          have hlt := r.lt hk'
          by_cases hl : j < en.length
          · rw [List.getElem?_set_self hl] at ek
            cases ek
            have := hx.2 hfr' k rfl
            omega
          · rw [List.getElem?_eq_none (by rw [List.length_set]; omega)] at ek
            cases ek
        · have hj1 := hO1 j hj hi
          rw [List.getElem?_set_ne (fun z => hi z.symm)] at ek
          have hjn : ¬ (j = i ∧ i < ve.length) := fun z => hi z.1
          simp only [upF, if_neg hjn] at hk
          have hn := noH (c := c) r o px (O' := [j]) (fun j' hj' => by rw [List.mem_singleton.mp hj']; exact hj1) hfr j (List.mem_singleton.mpr rfl) k ek hk
          unfold upF at hk'
          split at hk'
          · exact hn hk'
          · exact o j hj1.1 k ek hk j' hj' hk'
      · by_cases hi : j = i
        · subst hi
          by_cases hl : j < en.length
          · rw [List.getElem?_set_self hl] at ek
            cases ek
            have := hx.2 (hO2 hj) k rfl
            omega
          · rw [List.getElem?_eq_none (by rw [List.length_set]; omega)] at ek
            cases ek
        · rw [List.getElem?_set_ne (fun z => hi z.symm)] at ek
          exact ⟨j, (hO1 j hj hi).1, ek⟩
    · rw [if_neg hc]; trivial
theorem ss_un {u : UD} {vu : VU} {ts : List Nat} (hu : UdOk u vu ts) (h : SoundE dl e v al fr) (c : Nat) (hO : okO O O' ts al c = true) (hc2 : c < 2) (hts : ts.all (fun t => decide (dl ≠ some t)) = true) (hl : ∀ x (ve : VEnv) ve', vu x ve = some ve' → ve'.length = ve.length) : SoundS dl B O (sUn u e) (vUnp c vu v) O' := fun loc st en ve w F r o =>
  (h loc st en ve w F r).toS rfl fun d s1 x w1 G hx px e1 q1 => by
    by_cases hc : chk c x = true
    · rw [if_pos hc]
      have hts' : ∀ t ∈ ts, dl ≠ some t := fun t ht => of_decide_eq_true (List.all_eq_true.mp hts t ht)
      cases hue : vu x ve with
      | none => trivial
      | some ve' =>
        obtain ⟨en', F', eu, U⟩ := hu loc dl s1 en ve ve' w1 F d x G hts' (r.ext e1 q1) hx.1 px.1 hue
        have hc1 := chk1 hx.1 hc
        have hO' := okO_mem hO
        rw [eu]
        refine ⟨_, _, rfl, ⟨F', U.rep, own_ud U o (fun j hj => (hO' j hj).1) (noH (c := c) r o px (fun j hj => ⟨(hO' j hj).1.1, (hO' j hj).2⟩) fun z k hk => by rw [hc1.1 (by omega)] at hk; cases hk)⟩, e1.frm, ownfr_ud U fun j hj => (hO' j hj).1, ?_⟩
        rw [U.rep.len, r.len, hl _ _ _ hue]
    · rw [if_neg hc]; trivial
theorem len_t2 (i j : Nat) : ∀ x (ve : VEnv) ve', vuT2 i j x ve = some ve' → ve'.length = ve.length := fun x ve ve' h => by unfold vuT2 at h; split at h <;> cases h; simp
theorem len_t3 (i j k : Nat) : ∀ x (ve : VEnv) ve', vuT3 i j k x ve = some ve' → ve'.length = ve.length := fun x ve ve' h => by unfold vuT3 at h; split at h <;> cases h; simp
theorem len_t4 (i j k l : Nat) : ∀ x (ve : VEnv) ve', vuT4 i j k l x ve = some ve' → ve'.length = ve.length := fun x ve ve' h => by unfold vuT4 at h; split at h <;> cases h; simp
theorem len_t12 (i j k : Nat) : ∀ x (ve : VEnv) ve', vuT12 i j k x ve = some ve' → ve'.length = ve.length := fun x ve ve' h => by unfold vuT12 at h; split at h <;> cases h; simp
theorem len_t13 (i j k l : Nat) : ∀ x (ve : VEnv) ve', vuT13 i j k l x ve = some ve' → ve'.length = ve.length := fun x ve ve' h => by unfold vuT13 at h; split at h <;> cases h; simp
theorem len_n (i : Nat) : ∀ x (ve : VEnv) ve', vuN i x ve = some ve' → ve'.length = ve.length := fun x ve ve' h => by cases h; simp
theorem chks {c : Nat} (hc2 : c < 2) (h : Rps st ds vs G) (hc : vs.all (chk c) = true) : c ≠ 0 → G = [] := fun hz => by
  have : c = 1 := by omega
  subst this
  refine h.flat ?_
  clear h
  induction vs with
  | nil => rfl
  | cons x xs ih =>
    simp only [List.all_cons, Bool.and_eq_true, chk] at hc
    rw [flatL, hc.1, ih hc.2]
    rfl
theorem ss_par {a : AD} {va : VA} (h : SoundA dl a va al) (c i j : Nat) (hO : okO O O' [i, j] al c = true) (hc2 : c < 2) (hts : [i, j].all (fun t => decide (dl ≠ some t)) = true) : SoundS dl B O (sPar i j a) (vPar c i j va) O' := fun loc st en ve w F r o =>
  (h loc st en ve w F r).toS rfl fun ds s1 xs w1 G hx px e1 q1 => by
    have hts' : ∀ t ∈ [i, j], dl ≠ some t := fun t ht => of_decide_eq_true (List.all_eq_true.mp hts t ht)
    cases hue : vuT2 i j (.tup xs) ve with
    | none => trivial
    | some ve' =>
      by_cases hc : xs.all (chk c) = true
      · simp only [if_pos hc]
        obtain ⟨en', F', eu, U⟩ := ud_t2 i j loc dl s1 en ve ve' w1 F (.tup ds) (.tup xs) G hts' (r.ext e1 q1) (Rp.tup hx) px.1 hue
        have hO' := okO_mem hO
        unfold vuT2 at hue
        split at hue
        · rename_i x0 a b hq
          cases hq
          cases hue
          obtain ⟨x, y, A, B, rfl, _⟩ := uncons2 hx
          cases eu
          refine ⟨_, _, rfl, ⟨F', U.rep, own_ud U o (fun j hj => (hO' j hj).1) (noH (c := c) r o px (fun j hj => ⟨(hO' j hj).1.1, (hO' j hj).2⟩) fun z k hk => by rw [chks hc2 hx hc z] at hk; cases hk)⟩, e1.frm, ownfr_ud U fun j hj => (hO' j hj).1, by simp⟩
        · cases hue
      · simp only [if_neg hc]; trivial
theorem ss_par3 {a : AD} {va : VA} (h : SoundA dl a va al) (c i j l : Nat) (hO : okO O O' [i, j, l] al c = true) (hc2 : c < 2) (hts : [i, j, l].all (fun t => decide (dl ≠ some t)) = true) : SoundS dl B O (sPar3 i j l a) (vPar3 c i j l va) O' := fun loc st en ve w F r o =>
  (h loc st en ve w F r).toS rfl fun ds s1 xs w1 G hx px e1 q1 => by
    have hts' : ∀ t ∈ [i, j, l], dl ≠ some t := fun t ht => of_decide_eq_true (List.all_eq_true.mp hts t ht)
    cases hue : vuT3 i j l (.tup xs) ve with
    | none => trivial
    | some ve' =>
      by_cases hc : xs.all (chk c) = true
      · simp only [if_pos hc]
        obtain ⟨en', F', eu, U⟩ := ud_t3 i j l loc dl s1 en ve ve' w1 F (.tup ds) (.tup xs) G hts' (r.ext e1 q1) (Rp.tup hx) px.1 hue
        have hO' := okO_mem hO
        unfold vuT3 at hue
        split at hue
        · rename_i x0 a b c' hq
          cases hq
          cases hue
          obtain ⟨x, y, z, A, B, C, rfl, _⟩ := uncons3 hx
          cases eu
          refine ⟨_, _, rfl, ⟨F', U.rep, own_ud U o (fun j hj => (hO' j hj).1) (noH (c := c) r o px (fun j hj => ⟨(hO' j hj).1.1, (hO' j hj).2⟩) fun z k hk => by rw [chks hc2 hx hc z] at hk; cases hk)⟩, e1.frm, ownfr_ud U fun j hj => (hO' j hj).1, by simp⟩
        · cases hue
      · simp only [if_neg hc]; trivial
theorem ss_ex (h : SoundE dl e v al fr) : SoundS dl B O (sEx e) (vEx v) O := fun loc st en ve w F r o =>
  (h loc st en ve w F r).toS rfl fun d s1 x w1 G hx px e1 q1 => ⟨_, _, rfl, NxR.ext r o e1 q1⟩
theorem ss_ret (h : SoundE dl e v al fr) : SoundS dl B O (sRet e) (vRet v) O' := fun loc st en ve w F r o =>
  (h loc st en ve w F r).toS rfl fun d s1 x w1 G hx px e1 q1 => ⟨_, _, _, rfl, hx.1, px.1, e1.frm, q1⟩
theorem ss_retN : SoundS dl B O sRetN vRetN O' := fun loc st en ve w F r o => ⟨_, _, [], rfl, .non .nil, fun _ h => (nomatch h), Frm.refl, r.wd⟩
theorem ss_no {s : SD} : SoundS dl B O s vSNo O' := fun _ _ _ _ _ _ _ _ => trivial
theorem ss_brk (h : subL B O = true) : SoundS dl B O sBrk vBrk O' := fun loc st en ve w F r o => ⟨_, _, rfl, (NxR.ext r o Ext.refl r.wd).weak (subL_mem h)⟩
theorem ss_ct (h : subL B O = true) : SoundS dl B O sCt vCt O' := fun loc st en ve w F r o => ⟨_, _, rfl, (NxR.ext r o Ext.refl r.wd).weak (subL_mem h)⟩
theorem ss_if {c : BD} {vc : VB} {a b : SD} {va vb : VS} (hc : SoundB dl c vc) (ha : SoundS dl B O a va O') (hb : SoundS dl B O b vb O') : SoundS dl B O (sIf c a b) (vIte vc va vb) O' := fun loc st en ve w F r o =>
  (hc loc st en ve w F r).toS rfl fun k s1 k' w1 G hk _ e1 q1 => by
    obtain ⟨rfl, _⟩ := hk
    cases k with
    | true => exact (NxR.ext r o e1 q1).seq (ha loc s1 en ve w1 F (r.ext e1 q1) o)
    | false => exact (NxR.ext r o e1 q1).seq (hb loc s1 en ve w1 F (r.ext e1 q1) o)
theorem ss_try {c i : Nat} {f : Ex → D} {vf : Vx → Vl} {b : SD} {vb : VS} (hf : ∀ e x, Rx e x → ∀ st, Rp st (f e) (vf x) []) (h : SoundS dl B O b vb O') : SoundS dl B O (sTry c i f b) (vTry c i vf vb) O' := fun loc st en ve w F r o => by
  have h := h loc st en ve w F r o
  unfold sTry vTry
  cases hv : vb ve w with
  | nx ve' w' => rw [hv] at h; obtain ⟨en', st', e, h⟩ := h; rw [e]; exact ⟨_, _, rfl, h⟩
  | bk ve' w' => rw [hv] at h; obtain ⟨en', st', e, h⟩ := h; rw [e]; exact ⟨_, _, rfl, h⟩
  | ct ve' w' => rw [hv] at h; obtain ⟨en', st', e, h⟩ := h; rw [e]; exact ⟨_, _, rfl, h⟩
  | rt x w' => rw [hv] at h; obtain ⟨d, st', G, e, h⟩ := h; rw [e]; exact ⟨_, _, _, rfl, h⟩
  | er x w' =>
    rw [hv] at h
    obtain ⟨d, en', st', e, h1, h2, h3, h4⟩ := h
    rw [e]
    dsimp only
    by_cases hc : x.cls = c ∧ i < ve.length
    · rw [if_pos hc, if_pos ⟨h1.1.trans hc.1, by rw [h2, r.len]; exact hc.2⟩]
      exact ⟨_, _, [], rfl, hf _ _ h1 _, fun _ h => (nomatch h), h3, h4⟩
    · rw [if_neg hc]; trivial
  | no => trivial
theorem rx_flat {x : Vl} (h : Rp st d x G) (hf : x.flat = true) : ∀ st', Rp st' d x [] := fun st' => by
  have := h.flat hf
  subst this
  exact h.frame fun _ h => nomatch h
theorem ss_rs1 {a : AD} {va : VA} (c : Nat) (h : SoundA dl a va al) : SoundS dl B O (sRs1 c a) (vRs1 c va) O' := fun loc st en ve w F r o =>
  (h loc st en ve w F r).toS rfl fun ds s1 xs w1 G hx px e1 q1 => by
    match xs, hx with
    | [x], hx =>
      obtain ⟨d, rfl⟩ := hx.one
      by_cases hf : x.flat = true
      · simp only [if_pos hf]
        exact ⟨_, _, _, rfl, ⟨rfl, rx_flat hx hf, fun _ => .int _ .nil⟩, rfl, e1.frm, q1⟩
      · simp only [if_neg hf]; trivial
    | [], _ => trivial
    | _ :: _ :: _, _ => trivial
theorem ss_rs2 {a : AD} {va : VA} (c : Nat) (h : SoundA dl a va al) : SoundS dl B O (sRs2 c a) (vRs2 c va) O' := fun loc st en ve w F r o =>
  (h loc st en ve w F r).toS rfl fun ds s1 xs w1 G hx px e1 q1 => by
    match xs, hx with
    | [x, y], hx =>
      obtain ⟨d, e', A, B, rfl, a, b⟩ := two_inv hx
      by_cases hf : (x.flat && y.flat) = true
      · simp only [if_pos hf]
        simp only [Bool.and_eq_true] at hf
        exact ⟨_, _, _, rfl, ⟨rfl, rx_flat a hf.1, rx_flat b hf.2⟩, rfl, e1.frm, q1⟩
      · simp only [if_neg hf]; trivial
    | [], _ => trivial
    | [_], _ => trivial
    | _ :: _ :: _ :: _, _ => trivial
/-! ### a list of its own is changed -/
theorem NxR.mut (r : Rep loc dl st en ve w F) (o : Own O en F) (e1 : Ext loc st s1) (q1 : Wd loc s1 w1) {i k : Nat} {u : Vl} {ob : Ob} {E A : List Nat} (hi : i ∈ O) (hen : en[i]? = some (some (.obj k))) (hF : F i = k :: E) (hu : Rp (s1.set k ob) (.obj k) u (k :: A))
    (hv : ∃ u0, ve[i]? = some (some u0)) (hA : ∀ x ∈ A, x ∈ E ∨ x ∈ G) (hG : ∀ x ∈ G, NotDr loc x) (hn : NoH en F O' G) (hO : ∀ j ∈ O', j ∈ O) : NxR loc dl O O' en st en (ve.set i (some u)) (s1.set k ob) w1 := by
  have hkF : k ∈ F i := by rw [hF]; exact List.mem_cons_self
  have hk : ∀ j, j ≠ i → k ∉ F j := o i hi k hen hkF
  have hil : i < ve.length := by obtain ⟨u0, h⟩ := hv; exact (List.getElem?_eq_some_iff.mp h).1
  have R1 := r.ext e1 q1
  have ne : ∀ {x}, x ≠ k → (s1.set k ob)[x]? = s1[x]? := fun h => List.getElem?_set_ne fun z => h z.symm
  have nk : NotDr loc k := r.fd i k hkF
  refine ⟨⟨fun j => if j = i then k :: A else F j, ⟨by simp [r.len], fun j u' hj => ?_, fun j hj => ?_, fun a b q => ⟨(q1 a b q).1, by rw [ne fun z => (nk a b q).1 z.symm]; exact (q1 a b q).2.1, by rw [ne fun z => (nk a b q).2 z.symm]; exact (q1 a b q).2.2⟩, fun j x hx => ?_, fun l hl => ?_, fun j hj hd' => ?_⟩, fun j hj x ex hx j' hj' hx' => ?_⟩, ⟨by simpa using e1.le, fun x hx q h => ?_⟩, fun j hj x ex _ => ⟨j, hO j hj, ex⟩, rfl⟩
  · by_cases e : j = i
    · subst e
      rw [List.getElem?_set_self hil] at hj
      cases hj
      exact ⟨_, hen, by rw [if_pos rfl]; exact hu⟩
    · rw [List.getElem?_set_ne fun z => e z.symm] at hj
      rw [if_neg e]
      obtain ⟨d', h1, h2⟩ := R1.sl j u' hj
      exact ⟨d', h1, h2.frame fun x hx => ne fun z => hk j e (z ▸ hx)⟩
  · by_cases e : j = i
    · subst e
      exact absurd (List.getElem?_set_self hil) (hj u)
    · rw [if_neg e]
      exact r.nl j fun u' hu' => hj u' (by rw [List.getElem?_set_ne fun z => e z.symm]; exact hu')
  · split at hx
    · rcases List.mem_cons.mp hx with rfl | hx
      · exact nk
      · rcases hA x hx with h | h
        · exact r.fd i x (by rw [hF]; exact List.mem_cons_of_mem _ h)
        · exact hG x h
    · exact r.fd j x hx
  · obtain ⟨a, b, h1, h2, h3⟩ := r.ds l hl
    refine ⟨a, b, h1, h2, ?_⟩
    have : i ≠ l := fun z => by subst z; obtain ⟨u0, h⟩ := hv; rw [h] at h3; cases h3
    rw [List.getElem?_set_ne this]
    exact h3
  · by_cases e : i = j
    · subst e
      rw [List.getElem?_set_self hil] at hj; cases hj
    · rw [List.getElem?_set_ne e] at hj
      exact r.no j hj hd'
  · by_cases e : j = i
    · subst e
      rw [hen] at ex
      cases ex
      simp only [if_neg hj'] at hx'
      exact hk j' hj' hx'
    · simp only [if_neg e] at hx
      by_cases e' : j' = i
      · subst e'
        simp only [if_true] at hx'
        have hxi : x ∉ F j' := o j (hO j hj) x ex hx j' hj'
        rcases List.mem_cons.mp hx' with rfl | hx'
        · exact hxi hkF
        · rcases hA x hx' with h | h
          · exact hxi (by rw [hF]; exact List.mem_cons_of_mem _ h)
          · exact hn j hj x ex hx h
      · simp only [if_neg e'] at hx'
        exact o j (hO j hj) x ex hx j' hj' hx'
  · have : x ≠ k := fun z => h i hi (z ▸ hen)
    rw [ne this, e1.same x hx q]
def okA (O O' : List Nat) (i : Nat) (al : List Nat) (c : Nat) (fr : Bool) : Bool := O.contains i && (c != 0 || !al.contains i) && (fr || decide (c < 2)) && O'.all fun j => O.contains j && (c != 0 || !al.contains j)
theorem okA_ok {i c : Nat} (h : okA O O' i al c fr = true) : i ∈ O ∧ (c = 0 → i ∉ al) ∧ (fr = true ∨ c < 2) ∧ ∀ j ∈ O', j ∈ O ∧ (c = 0 → j ∉ al) := by
  simp only [okA, Bool.and_eq_true, Bool.or_eq_true, bne_iff_ne, ne_eq, Bool.not_eq_true', List.contains_eq_mem, decide_eq_true_eq, decide_eq_false_iff_not, List.all_eq_true] at h
  exact ⟨h.1.1.1, fun z => h.1.1.2.resolve_left fun q => q z, h.1.2, fun j hj => ⟨(h.2 j hj).1, fun z => (h.2 j hj).2.resolve_left fun q => q z⟩⟩
theorem dM_eq {f : FM} {o : ED} {a : AD} {k : Nat} {es : List D} (h : o en st = .ok (.obj k) st) (hk : st[k]? = some (.lst es)) : dM isL f o a en st = (a en st).bind fun xs s2 => (f (.obj k) xs s2).re := by
  unfold dM
  rw [h]
  simp only [Re.bind_ok, isL, hk, if_true]
theorem isLV_inv {o : Option (Option Vl)} (h : isLV o = true) : ∃ xs, o = some (some (.lst xs)) := by
  unfold isLV at h
  split at h
  · exact ⟨_, rfl⟩
  · cases h
theorem frm_er {x : Ex} {y : Vx} (h : Rx x y) (e : Ext loc st s1) (q : Wd loc s1 w1) : PostSt loc dl B O O' en st (.er x en s1) (.er y w1) := ⟨_, _, _, rfl, h, rfl, e.frm, q⟩
theorem ss_app (h : SoundE dl e v al fr) (i c : Nat) (hO : okA O O' i al c fr = true) : SoundS dl B O (sEx (dM isL fAppend (dV i) (dCons e dNil))) (vApp c i v) O' := fun loc st en ve w F r o => by
  obtain ⟨hi, hia, hf, hO⟩ := okA_ok hO
  unfold sEx vApp
  by_cases hl : isLV ve[i]? = true
  · rw [if_pos hl]
    obtain ⟨xs, hxs⟩ := isLV_inv hl
    obtain ⟨d0, hen, rp⟩ := r.sl i _ hxs
    obtain ⟨k, es, E, rfl, hF, hk, hs⟩ := Rp.lst_inv rp
    have hdv : dV i en st = .ok (.obj k) st := by unfold dV; rw [hen]
    rw [dM_eq hdv hk]
    have hkF : k ∈ F i := by rw [hF]; exact List.mem_cons_self
    have key : ∀ d s1 x w1 G, RpF fr st.length s1 d x G → Fp loc F st al G → Ext loc st s1 → Wd loc s1 w1 → PostSt loc dl B O O' en st (((fAppend (.obj k) [d] s1).re).toS en fun _ s1 => .nx en s1) (nxV i (appV c ve[i]? x) ve w1) := fun d s1 x w1 G hx px e1 q1 => by
      have hk1 : s1[k]? = some (.lst es) := by rw [e1.same k (r.lt hkF) fun a b q => (r.fd i k hkF a b q).1]; exact hk
      have hlen := hs.len
      rw [hxs]
      simp only [appV]
      by_cases hc : xs.length < 16777216 ∧ chk c x = true
      · rw [if_pos hc]
        have hfr : c ≠ 0 → ∀ k ∈ G, st.length ≤ k := fun z m hm => by
          have hc1 := chk1 hx.1 hc.2
          rcases hf with hf | hf
          · exact hx.2 hf m (hc1.2 z m hm)
          · rw [hc1.1 (by omega)] at hm; cases hm
        have hn := noH (c := c) r o px hO hfr
        have hkG : k ∉ G := noH (c := c) (O' := [i]) r o px (fun j hj => by rw [List.mem_singleton.mp hj]; exact ⟨hi, hia⟩) hfr i (List.mem_singleton.mpr rfl) k hen hkF
        have hacyc : k ∉ E := by rw [hF] at rp; exact Rp.acyc rp
        have hs1 : Rps s1 es xs E := hs.ext (fun x hx => r.fd i x (by rw [hF]; exact List.mem_cons_of_mem _ hx)) e1
        simp only [fAppend, hk1]
        rw [if_pos (by omega)]
        refine ⟨_, _, rfl, NxR.mut (E := E) (A := E ++ G) (G := G) r o e1 q1 hi hen hF ?_ ⟨_, hxs⟩ (fun x hx => List.mem_append.mp hx) px.1 hn fun j hj => (hO j hj).1⟩
        exact Rp.lst (List.getElem?_set_self (List.getElem?_eq_some_iff.mp hk1).1) ((hs1.append hx.1).frame fun x hx => List.getElem?_set_ne fun z => by subst z; exact (List.mem_append.mp hx).elim hacyc hkG)
      · rw [if_neg hc]; trivial
    have h1 := h loc st en ve w F r
    cases hv : v ve w with
    | no => trivial
    | er x w' =>
      rw [hv] at h1
      obtain ⟨ex, s, e1, b, c', f'⟩ := h1
      simp only [dCons, e1, Re.bind_er, Re.toS, VR.toS_er]
      exact frm_er b c' f'
    | ok x w' =>
      rw [hv] at h1
      obtain ⟨d, s, G, e1, b, c', f', g'⟩ := h1
      simp only [dCons, dNil, e1, Re.bind_ok]
      exact key d s x w' G b c' f' g'
  · rw [if_neg hl]; trivial
theorem ss_ext (h : SoundE dl e v al fr) (i c : Nat) (hO : okA O O' i al c true = true) (hc1 : c ≠ 1) : SoundS dl B O (sEx (dM isL fExtend (dV i) (dCons e dNil))) (vExtd c i v) O' := fun loc st en ve w F r o => by
  obtain ⟨hi, hia, hf, hO⟩ := okA_ok hO
  unfold sEx vExtd
  by_cases hl : isLV ve[i]? = true
  · rw [if_pos hl]
    obtain ⟨xs, hxs⟩ := isLV_inv hl
    obtain ⟨d0, hen, rp⟩ := r.sl i _ hxs
    obtain ⟨k, es, E, rfl, hF, hk, hs⟩ := Rp.lst_inv rp
    have hdv : dV i en st = .ok (.obj k) st := by unfold dV; rw [hen]
    rw [dM_eq hdv hk]
    have hkF : k ∈ F i := by rw [hF]; exact List.mem_cons_self
    have key : ∀ d s1 x w1 G, RpF fr st.length s1 d x G → Fp loc F st al G → Ext loc st s1 → Wd loc s1 w1 → PostSt loc dl B O O' en st (((fExtend (.obj k) [d] s1).re).toS en fun _ s1 => .nx en s1) (nxV i (extV c ve[i]? x) ve w1) := fun d s1 x w1 G hx px e1 q1 => by
      have hk1 : s1[k]? = some (.lst es) := by rw [e1.same k (r.lt hkF) fun a b q => (r.fd i k hkF a b q).1]; exact hk
      have hlen := hs.len
      rw [hxs]
      cases x with
      | lst ys =>
        simp only [extV]
        by_cases hc : xs.length + ys.length ≤ 16777216 ∧ chk c (.lst ys) = true
        · rw [if_pos hc]
          obtain ⟨m, fs, A, rfl, rfl, hm, hs2⟩ := Rp.lst_inv hx.1
          have hlen2 := hs2.len
          have px' : Fp loc F st al A := px.sub fun _ h => List.mem_cons_of_mem _ h
          have hA : c ≠ 0 → A = [] := fun z => by
            have := hc.2
            match c, z, hc1, this with
            | c + 2, _, _, h => exact hs2.flat h
          have hfr : c ≠ 0 → ∀ k ∈ A, st.length ≤ k := fun z k hk => by rw [hA z] at hk; cases hk
          have hn := noH (c := c) r o px' hO hfr
          have hkG : k ∉ A := noH (c := c) (O' := [i]) r o px' (fun j hj => by rw [List.mem_singleton.mp hj]; exact ⟨hi, hia⟩) hfr i (List.mem_singleton.mpr rfl) k hen hkF
          have hacyc : k ∉ E := by rw [hF] at rp; exact Rp.acyc rp
          have hs1 : Rps s1 es xs E := hs.ext (fun x hx => r.fd i x (by rw [hF]; exact List.mem_cons_of_mem _ hx)) e1
          simp only [fExtend, hk1, hm]
          rw [if_pos (by omega)]
          refine ⟨_, _, rfl, NxR.mut (E := E) (A := E ++ A) (G := A) r o e1 q1 hi hen hF ?_ ⟨_, hxs⟩ (fun x hx => List.mem_append.mp hx) px'.1 hn fun j hj => (hO j hj).1⟩
          exact Rp.lst (List.getElem?_set_self (List.getElem?_eq_some_iff.mp hk1).1) ((hs1.append hs2).frame fun x hx => List.getElem?_set_ne fun z => by subst z; exact (List.mem_append.mp hx).elim hacyc hkG)
        · rw [if_neg hc]; trivial
      | _ => trivial
    have h1 := h loc st en ve w F r
    cases hv : v ve w with
    | no => trivial
    | er x w' =>
      rw [hv] at h1
      obtain ⟨ex, s, e1, b, c', f'⟩ := h1
      simp only [dCons, e1, Re.bind_er, Re.toS, VR.toS_er]
      exact frm_er b c' f'
    | ok x w' =>
      rw [hv] at h1
      obtain ⟨d, s, G, e1, b, c', f', g'⟩ := h1
      simp only [dCons, dNil, e1, Re.bind_ok]
      exact key d s x w' G b c' f' g'
  · rw [if_neg hl]; trivial
end
end Gv
namespace Gv
open PySem PySem.Spec L2

section
variable {loc : Loc} {dl : Option Nat} {st st' s0 s1 s2 s : Sto} {en en1 en' : En} {ve ve1 ve' : VEnv} {w w0 w1 : Wo} {F F0 F' : Nat → List Nat} {ds es : List D} {vs us xs : List Vl} {G E Gi : List Nat} {d : D} {al al' al1 al2 ale : List Nat} {n : Nat} {B O O' O1 O2 OL : List Nat} {fr f2 : Bool}
  {r : Rs} {q : VRs} {e iz : ED} {v vz : VE}
/-! ### o[i] = v -/
theorem putV_ok {κ : Type} [DecidableEq κ] {j : κ} {x : Vl} {A : List Nat} (hx : Rp st d x A) : ∀ {kds : List (κ × D)} {kvs : List (κ × Vl)} {E : List Nat}, kds.map (·.1) = kvs.map (·.1) → Rps st (kds.map (·.2)) (kvs.map (·.2)) E →
    ∃ C, (putD kds j d).map (·.1) = (putV kvs j x).map (·.1) ∧ Rps st ((putD kds j d).map (·.2)) ((putV kvs j x).map (·.2)) C ∧ ∀ k ∈ C, k ∈ E ∨ k ∈ A := fun {kds kvs E} hk hr => by
  have any : ∀ {kds : List (κ × D)} {kvs : List (κ × Vl)}, kds.map (·.1) = kvs.map (·.1) → (kds.any fun kv => decide (kv.1 = j)) = (kvs.any fun kv => decide (kv.1 = j)) := fun {kds kvs} h => by
    have e1 : (kds.any fun kv => decide (kv.1 = j)) = ((kds.map (·.1)).any fun k => decide (k = j)) := by rw [List.any_map]; rfl
    have e2 : (kvs.any fun kv => decide (kv.1 = j)) = ((kvs.map (·.1)).any fun k => decide (k = j)) := by rw [List.any_map]; rfl
    rw [e1, e2, h]
  have mp : ∀ {kds : List (κ × D)} {kvs : List (κ × Vl)} {E : List Nat}, kds.map (·.1) = kvs.map (·.1) → Rps st (kds.map (·.2)) (kvs.map (·.2)) E →
      ∃ C, (kds.map fun kv => if kv.1 = j then (kv.1, d) else kv).map (·.1) = (kvs.map fun kv => if kv.1 = j then (kv.1, x) else kv).map (·.1) ∧ Rps st ((kds.map fun kv => if kv.1 = j then (kv.1, d) else kv).map (·.2)) ((kvs.map fun kv => if kv.1 = j then (kv.1, x) else kv).map (·.2)) C ∧ ∀ k ∈ C, k ∈ E ∨ k ∈ A := by
    intro kds
    induction kds with
    | nil =>
      intro kvs E h hr
      cases kvs with
      | nil => exact ⟨[], rfl, .nil, fun _ h => nomatch h⟩
      | cons => cases h
    | cons p kds ih =>
      intro kvs E h hr
      cases kvs with
      | nil => cases h
      | cons p' kvs =>
        obtain ⟨a, b⟩ := p
        obtain ⟨a', b'⟩ := p'
        simp only [List.map_cons, List.cons.injEq] at h
        obtain ⟨rfl, h⟩ := h
        obtain ⟨A1, B1, rfl, r1, r2⟩ := Rps.uncons hr
        obtain ⟨C, h1, h2, h3⟩ := ih h r2
        by_cases z : a = j
        · refine ⟨A ++ C, ?_, ?_, fun k hk => ?_⟩
          · simp only [List.map_cons, z, if_true, h1]
          · simp only [List.map_cons, z, if_true]
            exact Rps.cons hx h2
          · rcases List.mem_append.mp hk with hk | hk
            · exact .inr hk
            · exact (h3 k hk).imp_left (List.mem_append_right _)
        · refine ⟨A1 ++ C, ?_, ?_, fun k hk => ?_⟩
          · simp only [List.map_cons, if_neg z, h1]
          · simp only [List.map_cons, if_neg z]
            exact Rps.cons r1 h2
          · rcases List.mem_append.mp hk with hk | hk
            · exact .inl (List.mem_append_left _ hk)
            · exact (h3 k hk).imp_left (List.mem_append_right _)
  unfold putD putV
  rw [any hk]
  by_cases hz : (kvs.any fun kv => decide (kv.1 = j)) = true
  · rw [if_pos hz, if_pos hz]
    exact mp hk hr
  · rw [if_neg hz, if_neg hz]
    refine ⟨E ++ A, ?_, ?_, fun k hk => (List.mem_append.mp hk)⟩
    · simp only [List.map_append, hk]; rfl
    · simp only [List.map_append]
      exact hr.append hx
/-- what is set in an object of its own -/
theorem setVl_ok {o z x o' : Vl} {k : Nat} {E A Gz : List Nat} {dz dx : D} (ho : Rp s1 (.obj k) o (k :: E)) (hz : Rp s1 dz z Gz) (hx : Rp s1 dx x A) (hk : k ∉ E) (hA : k ∉ A) (e : setVl o z x = some o') :
    ∃ ob C, setV (.obj k) dz dx s1 = some (s1.set k ob) ∧ Rp (s1.set k ob) (.obj k) o' (k :: C) ∧ ∀ y ∈ C, y ∈ E ∨ y ∈ A := by
  have fin : ∀ {ob : Ob} {ds' : List D} {vs' : List Vl} {C : List Nat}, Rps s1 ds' vs' C → (∀ y ∈ C, y ∈ E ∨ y ∈ A) → Rps (s1.set k ob) ds' vs' C := fun {ob ds' vs' C} h hc => h.frame fun y hy => List.getElem?_set_ne fun q => by subst q; exact (hc _ hy).elim hk hA
  cases o with
  | lst xs =>
    obtain ⟨k', es, E', h1, h2, hk', hs⟩ := Rp.lst_inv ho
    cases h1; cases h2
    have hkl := (List.getElem?_eq_some_iff.mp hk').1
    cases z with
    | int j =>
      obtain ⟨rfl, _⟩ := hz.int_inv
      simp only [setVl, Option.map_eq_some_iff] at e
      obtain ⟨m, e1, rfl⟩ := e
      obtain ⟨C, hc, hc2⟩ := hs.set hx m
      refine ⟨.lst (es.set m dx), C, ?_, Rp.lst (List.getElem?_set_self hkl) (fin hc hc2), hc2⟩
      rw [← hs.len] at e1
      simp only [setV, hk', e1, Option.map_some]
    | _ => cases e
  | dK kvs =>
    obtain ⟨k', kds, E', h1, h2, hk', ek, hs⟩ := Rp.dK_inv ho
    cases h1; cases h2
    have hkl := (List.getElem?_eq_some_iff.mp hk').1
    have hll : kds.length = kvs.length := by simpa using congrArg List.length ek
    simp only [setVl] at e
    split at e
    · rename_i hl
      simp only [Option.map_eq_some_iff] at e
      obtain ⟨j, ej, rfl⟩ := e
      obtain ⟨C, c1, c2, c3⟩ := putV_ok (j := j) hx ek hs
      refine ⟨.dK (putD kds j dx), C, ?_, Rp.dK (List.getElem?_set_self hkl) c1 (fin c2 c3), c3⟩
      simp only [setV, hk', putO, (vkey_ok hz ej).1, Option.map_some]
      rw [if_pos (by omega)]
      rfl
    · cases e
  | dT kvs =>
    obtain ⟨k', kds, E', h1, h2, hk', ek, hs⟩ := Rp.dT_inv ho
    cases h1; cases h2
    have hkl := (List.getElem?_eq_some_iff.mp hk').1
    have hll : kds.length = kvs.length := by simpa using congrArg List.length ek
    simp only [setVl] at e
    split at e
    · rename_i hl
      cases z with
      | tup ks =>
        obtain ⟨zs, rfl, hzs⟩ := Rp.tup_inv hz
        simp only [Option.map_eq_some_iff] at e
        obtain ⟨j, ej, rfl⟩ := e
        obtain ⟨C, c1, c2, c3⟩ := putV_ok (j := j) hx ek hs
        refine ⟨.dT (putD kds j dx), C, ?_, Rp.dT (List.getElem?_set_self hkl) c1 (fin c2 c3), c3⟩
        simp only [setV, hk', putO, vkeys_ok hzs ej, Option.map_some]
        rw [if_pos (by omega)]
        rfl
      | _ => cases e
    · cases e
  | _ => cases e
theorem Rp.head {k : Nat} {u : Vl} (h : Rp st (.obj k) u G) : ∃ E, G = k :: E := by
  cases h with
  | lst hk h r => exact ⟨_, rfl⟩
  | dK hk _ h r => exact ⟨_, rfl⟩
  | dT hk _ h r => exact ⟨_, rfl⟩
theorem isVal_inv {o : Option (Option Vl)} (h : isVal o = true) : ∃ v, o = some (some v) := by
  unfold isVal at h
  split at h
  · exact ⟨_, rfl⟩
  · cases h
theorem setVl_obj {o z x o' : Vl} (h : Rp st d o G) (e : setVl o z x = some o') : ∃ k, d = .obj k := by
  cases o with
  | lst xs => obtain ⟨k, _, _, rfl, _⟩ := Rp.lst_inv h; exact ⟨k, rfl⟩
  | dK xs => obtain ⟨k, _, _, rfl, _⟩ := Rp.dK_inv h; exact ⟨k, rfl⟩
  | dT xs => obtain ⟨k, _, _, rfl, _⟩ := Rp.dT_inv h; exact ⟨k, rfl⟩
  | _ => cases e
theorem ss_sub (hz : SoundE dl iz vz al2 f2) (h : SoundE dl e v al fr) (i c : Nat) (hO : okA O O' i al c fr = true) : SoundS dl B O (sSub (dV i) iz e) (vSub c i vz v) O' := fun loc st en ve w F r o => by
  obtain ⟨hi, hia, hf, hO⟩ := okA_ok hO
  refine (h loc st en ve w F r).toS rfl fun d s1 x w1 G hx px e1 q1 => ?_
  by_cases hl : isVal ve[i]? = true
  · rw [if_pos hl]
    obtain ⟨u0, hu0⟩ := isVal_inv hl
    obtain ⟨d0, hen, rp⟩ := r.sl i _ hu0
    have hdv : dV i en s1 = .ok d0 s1 := by unfold dV; rw [hen]
    rw [hdv]
    simp only [Re.toS]
    refine (hz loc s1 en ve w1 F (r.ext e1 q1)).toS' e1 rfl fun dz s2 z w2 Gz hz' pz e12 e2 q2 => ?_
    rw [hu0]
    simp only [subV]
    by_cases hc : chk c x = true
    · rw [if_pos hc]
      cases hs : setVl u0 z x with
      | none => trivial
      | some o' =>
        obtain ⟨k, rfl⟩ := setVl_obj rp hs
        obtain ⟨E, hF⟩ := Rp.head rp
        have hkF : k ∈ F i := by rw [hF]; exact List.mem_cons_self
        have hfr : c ≠ 0 → ∀ k ∈ G, st.length ≤ k := fun z m hm => by
          have hc1 := chk1 hx.1 hc
          rcases hf with hf | hf
          · exact hx.2 hf m (hc1.2 z m hm)
          · rw [hc1.1 (by omega)] at hm; cases hm
        have hn := noH (c := c) r o px hO hfr
        have hkG : k ∉ G := noH (c := c) (O' := [i]) r o px (fun j hj => by rw [List.mem_singleton.mp hj]; exact ⟨hi, hia⟩) hfr i (List.mem_singleton.mpr rfl) k hen hkF
        have rp2 := (rp.ext (r.fd i) e2)
        rw [hF] at rp2
        have hacyc : k ∉ E := Rp.acyc rp2
        obtain ⟨ob, C, h1, h2, h3⟩ := setVl_ok rp2 hz'.1 (hx.1.ext px.1 e12) hacyc hkG hs
        rw [h1]
        exact ⟨_, _, rfl, NxR.mut (E := E) (A := C) (G := G) r o e2 q2 hi hen hF h2 ⟨_, hu0⟩ h3 px.1 hn fun j hj => (hO j hj).1⟩
    · rw [if_neg hc]; trivial
  · rw [if_neg hl]; trivial
/-! ### loops -/
theorem Rep.head (r : Rep loc dl st en ve w F) {j k : Nat} (h : en[j]? = some (some (.obj k))) (nd : NotDr loc k) : k ∈ F j := by
  cases e : ve[j]? with
  | none =>
    have := (List.getElem?_eq_some_iff.mp h).1
    rw [r.len] at this
    rw [List.getElem?_eq_getElem this] at e
    cases e
  | some o =>
    cases o with
    | none =>
      by_cases hd : dl = some j
      · obtain ⟨a, b, h1, h2, h3⟩ := r.ds j hd
        rw [h] at h2
        cases h2
        exact absurd rfl (nd _ _ h1).1
      · have := r.no j e hd
        rw [h] at this
        cases this
    | some v =>
      obtain ⟨d, h1, h2⟩ := r.sl j v e
      rw [h] at h1
      cases h1
      obtain ⟨E, hE⟩ := Rp.head h2
      rw [hE]
      exact List.mem_cons_self
def okL (O OL al ts : List Nat) : Bool := OL.all fun j => O.contains j && !al.contains j && !ts.contains j
theorem ss_for {i : ID} {vi : VI} {u : UD} {vu : VU} {ts : List Nat} {body : SD} {vb : VS} {OL' : List Nat} (OL : List Nat) (hi : SoundI dl i vi al) (hu : UdOk u vu ts) (hb : SoundS dl OL OL body vb OL') (hO : okL O OL al ts = true) (hO' : subL OL OL' = true) (hts : ts.all (fun t => decide (dl ≠ some t)) = true) (hl : ∀ x (ve : VEnv) ve', vu x ve = some ve' → ve'.length = ve.length) :
    SoundS dl B O (sFor i u body) (vFor vi vu vb) OL := fun loc st en ve w F r o =>
  (hi loc st en ve w F r).toS rfl fun it s1 xs w1 Gi hI pI e1 q1 => by
    have hO1 : ∀ j ∈ OL, j ∈ O ∧ j ∉ al ∧ j ∉ ts := fun j hj => by
      have := List.all_eq_true.mp hO j hj
      simp only [Bool.and_eq_true, Bool.not_eq_true', List.contains_eq_mem, decide_eq_true_eq, decide_eq_false_iff_not] at this
      exact ⟨this.1.1, this.1.2, this.2⟩
    have hO2 := subL_mem hO'
    have hts' : ∀ t ∈ ts, dl ≠ some t := fun t ht => of_decide_eq_true (List.all_eq_true.mp hts t ht)
    have R1 := r.ext e1 q1
    obtain ⟨Ei, hit, hEi⟩ := hI.rp
    have hlen := hit.len
    -- the heads are not gone through
    have hnh : NoH en F OL Gi := noH (c := 0) r o pI (fun j hj => ⟨(hO1 j hj).1, fun _ => (hO1 j hj).2.1⟩) (fun z => absurd rfl z)
    have hGi : ∀ k ∈ Gi, ∀ j ∈ OL, en[j]? ≠ some (some (.obj k)) := fun k hk j hj z => hnh j hj k z (r.head z (pI.1 k hk)) hk
    have key : ∀ (m k : Nat) (en1 : En) (ve1 : VEnv) (s : Sto) (w : Wo), it.items.length - k = m → k ≤ it.items.length → NxR loc dl OL OL en s1 en1 ve1 s w → PostSt loc dl B OL OL en s1 (forL it u body k (it.items.drop k) en1 s) (vForL vu vb (xs.drop k) ve1 w) := by
      intro m
      induction m with
      | zero =>
        intro k en1 ve1 s w hm hk N
        have hke : k = it.items.length := by omega
        subst hke
        have fr : ∀ k ∈ Gi, s[k]? = s1[k]? := fun k hk => N.fr.same k (hI.lt k hk) (fun i j q => (pI.1 k hk i j q).1) (hGi k hk)
        rw [hlen, List.drop_length, ← hlen, List.drop_length, forL, if_pos (hI.ok fr (Nat.le_refl _))]
        exact ⟨_, _, rfl, N⟩
      | succ m ih =>
        intro k en1 ve1 s w hm hk N
        have hlt : k < it.items.length := by omega
        have hlt' : k < xs.length := by omega
        have fr : ∀ k ∈ Gi, s[k]? = s1[k]? := fun k hk => N.fr.same k (hI.lt k hk) (fun i j q => (pI.1 k hk i j q).1) (hGi k hk)
        obtain ⟨d, A, hd, hA, hAi⟩ := hit.get (List.getElem?_eq_getElem hlt')
        have hd' : it.items[k] = d := by rw [List.getElem?_eq_getElem hlt] at hd; exact Option.some.inj hd
        have hA' : Rp s d xs[k] A := hA.frame fun x hx => fr x (hEi x (hAi x hx))
        obtain ⟨F1, r1, o1⟩ := N.ex
        rw [List.drop_eq_getElem_cons hlt', vForL]
        cases hue : vu xs[k] ve1 with
        | none => trivial
        | some ve2 =>
          obtain ⟨en2, F2, eu, U⟩ := hu loc dl s en1 ve1 ve2 w F1 d xs[k] A hts' r1 hA' (fun x hx => pI.1 x (hEi x (hAi x hx))) hue
          have hn : NoH en1 F1 OL A := fun j hj x ex hx hxA => by
            have hxG := hEi x (hAi x hxA)
            obtain ⟨j', hj', ej'⟩ := N.ow j hj x ex (hI.lt x hxG)
            exact hGi x hxG j' hj' ej'
          have hOs : ∀ j ∈ OL, j ∈ OL ∧ j ∉ ts := fun j hj => ⟨hj, (hO1 j hj).2.2⟩
          have N2 : NxR loc dl OL OL en1 s en2 ve2 s w := ⟨⟨F2, U.rep, own_ud U o1 hOs hn⟩, Frm.refl, ownfr_ud U hOs, by rw [U.rep.len, hl _ _ _ hue, r1.len]⟩
          have N3 := N.trans N2
          rw [List.drop_eq_getElem_cons hlt, forL, if_pos (hI.ok fr hk), hd', eu]
          dsimp only
          have H := hb loc s en2 ve2 w F2 U.rep (own_ud U o1 hOs hn)
          cases hv : vb ve2 w with
          | nx ve3 w3 =>
            rw [hv] at H
            obtain ⟨en3, s3, e3, N4⟩ := H
            rw [e3]
            exact ih (k + 1) en3 ve3 s3 w3 (by omega) hlt (N3.trans (N4.weak hO2))
          | ct ve3 w3 =>
            rw [hv] at H
            obtain ⟨en3, s3, e3, N4⟩ := H
            rw [e3]
            exact ih (k + 1) en3 ve3 s3 w3 (by omega) hlt (N3.trans N4)
          | bk ve3 w3 =>
            rw [hv] at H
            obtain ⟨en3, s3, e3, N4⟩ := H
            rw [e3]
            exact ⟨_, _, rfl, N3.trans N4⟩
          | rt x w3 =>
            rw [hv] at H
            obtain ⟨d, s3, G, e3, h1, h2, h3, h4⟩ := H
            rw [e3]
            exact ⟨_, _, _, rfl, h1, h2, N3.fr.trans N3.ow h3, h4⟩
          | er x w3 =>
            rw [hv] at H
            obtain ⟨d, en3, s3, e3, h1, h2, h3, h4⟩ := H
            rw [e3]
            exact ⟨_, _, _, rfl, h1, h2.trans N3.le, N3.fr.trans N3.ow h3, h4⟩
          | no => trivial
    have N0 : NxR loc dl OL OL en s1 en ve s1 w1 := ⟨⟨F, R1, o.sub fun j hj => (hO1 j hj).1⟩, Frm.refl, fun i hi k z _ => ⟨i, hi, z⟩, rfl⟩
    have K := key it.items.length 0 en ve s1 w1 (by omega) (Nat.zero_le _) N0
    rw [List.drop_zero, List.drop_zero] at K
    exact ((NxR.ext r o e1 q1).weak fun j hj => (hO1 j hj).1).seq K
theorem ss_while {c : BD} {vc : VB} {body : SD} {vb : VS} {OL' : List Nat} (OL : List Nat) (hc : SoundB dl c vc) (hb : SoundS dl OL OL body vb OL') (hO : subL OL O = true) (hO' : subL OL OL' = true) : SoundS dl B O (sWhile c body) (vWhile vc vb) OL := fun loc st en ve w F r o => by
  have hO1 := subL_mem hO
  have hO2 := subL_mem hO'
  have key : ∀ (m : Nat) (en1 : En) (ve1 : VEnv) (s : Sto) (w1 : Wo), NxR loc dl OL OL en st en1 ve1 s w1 → PostSt loc dl B OL OL en st (whileF c body m en1 s) (vWhileF vc vb m ve1 w1) := by
    intro m
    induction m with
    | zero => intro en1 ve1 s w1 N; trivial
    | succ m ih =>
      intro en1 ve1 s w1 N
      obtain ⟨F1, r1, o1⟩ := N.ex
      rw [whileF, vWhileF]
      have H := hc loc s en1 ve1 w1 F1 r1
      cases hcv : vc ve1 w1 with
      | no => trivial
      | er x w2 =>
        rw [hcv] at H
        obtain ⟨ex, s2, e2, b, c', f'⟩ := H
        rw [e2]
        exact ⟨_, _, _, rfl, b, N.le, N.fr.trans N.ow c'.frm, f'⟩
      | ok k w2 =>
        rw [hcv] at H
        obtain ⟨k', s2, _, e2, ⟨rfl, _⟩, _, x2, q2⟩ := H
        rw [e2]
        have N2 := N.trans (NxR.ext r1 o1 x2 q2)
        obtain ⟨F2, r2, o2⟩ := N2.ex
        cases k' with
        | false => exact ⟨_, _, rfl, N2⟩
        | true =>
          simp only [Re.toS, VR.toS_ok, if_true]
          have H := hb loc s2 en1 ve1 w2 F2 r2 o2
          cases hv : vb ve1 w2 with
          | nx ve3 w3 =>
            rw [hv] at H
            obtain ⟨en3, s3, e3, N4⟩ := H
            rw [e3]
            exact ih en3 ve3 s3 w3 (N2.trans (N4.weak hO2))
          | ct ve3 w3 =>
            rw [hv] at H
            obtain ⟨en3, s3, e3, N4⟩ := H
            rw [e3]
            exact ih en3 ve3 s3 w3 (N2.trans N4)
          | bk ve3 w3 =>
            rw [hv] at H
            obtain ⟨en3, s3, e3, N4⟩ := H
            rw [e3]
            exact ⟨_, _, rfl, N2.trans N4⟩
          | rt x w3 =>
            rw [hv] at H
            obtain ⟨d, s3, G, e3, h1, h2, h3, h4⟩ := H
            rw [e3]
            exact ⟨_, _, _, rfl, h1, h2, N2.fr.trans N2.ow h3, h4⟩
          | er x w3 =>
            rw [hv] at H
            obtain ⟨d, en3, s3, e3, h1, h2, h3, h4⟩ := H
            rw [e3]
            exact ⟨_, _, _, rfl, h1, h2.trans N2.le, N2.fr.trans N2.ow h3, h4⟩
          | no => trivial
  have N0 : NxR loc dl OL OL en st en ve st w := ⟨⟨F, r, o.sub hO1⟩, Frm.refl, fun i hi k z _ => ⟨i, hi, z⟩, rfl⟩
  exact ((NxR.ext r o Ext.refl r.wd).weak hO1).seq (key 1000000 en ve st w N0)
end
end Gv
namespace Gv
open PySem PySem.Spec L2

/-! ### what is reached -/
inductive SzA (st : Sto) (A : List Nat) : List Nat → Nat → Prop
  | nil : SzA st A [] 0
  | skip {i rest b} (h : i ∈ A) (r : SzA st A rest b) : SzA st A (i :: rest) (b + 1)
  | exp {i o rest a b} (h : st[i]? = some o) (m : o.muB = true) (x : SzA st A o.objs a) (r : SzA st A rest b) : SzA st A (i :: rest) (a + b + 1)
def sumO (st : Sto) (R : List Nat) : Nat := (R.map fun r => (nthO st r).objs.length).sum
section
variable {st st' s s1 s2 : Sto} {A todo : List Nat} {loc : Loc} {dl : Option Nat} {en : En} {ve : VEnv} {w w1 : Wo} {F : Nat → List Nat} {ds es : List D} {vs us : List Vl} {G E : List Nat} {d : D} {v : Vl} {al al1 : List Nat}
theorem SzA.len {k : Nat} (h : SzA st A todo k) : todo.length ≤ k := by
  induction h with
  | nil => exact Nat.le_refl _
  | skip h r ih => simp; omega
  | exp h m x r ih1 ih2 => simp; omega
theorem SzA.app {xs ys : List Nat} {a b : Nat} (h : SzA st A xs a) (h2 : SzA st A ys b) : SzA st A (xs ++ ys) (a + b) := by
  induction h with
  | nil => simpa using h2
  | @skip i rest c h r ih => have := SzA.skip h ih; rwa [show c + b + 1 = c + 1 + b by omega] at this
  | @exp i o rest a c h m x r ih1 ih2 => have := SzA.exp h m x ih2; rwa [show a + (c + b) + 1 = a + c + 1 + b by omega] at this
theorem Rps.sz (h : Rps st ds vs G) : SzA st A (objsL ds) G.length := by
  induction h with
  | nil => exact .nil
  | non r ih => exact ih
  | bl b r ih => exact ih
  | int b r ih => exact ih
  | str b r ih => exact ih
  | tup h r ih1 ih2 => simp only [objsL, D.objs, List.length_append]; exact ih1.app ih2
  | lst hk h r ih1 ih2 =>
    simp only [objsL, D.objs, List.length_cons, List.length_append]
    exact .exp hk rfl ih1 ih2
  | dK hk e h r ih1 ih2 =>
    simp only [objsL, D.objs, List.length_cons, List.length_append]
    exact .exp hk rfl ih1 ih2
  | dT hk e h r ih1 ih2 =>
    simp only [objsL, D.objs, List.length_cons, List.length_append]
    exact .exp hk rfl ih1 ih2
structure ReachR (st : Sto) (acc todo R : List Nat) (k : Nat) : Prop where
  nd : R.Nodup
  ac : ∀ x ∈ acc, x ∈ R
  td : ∀ x ∈ todo, x ∈ R
  clo : ∀ x ∈ R, ∃ o, st[x]? = some o ∧ ∀ y ∈ o.objs, y ∈ R
  mu : (∀ x ∈ acc, ∃ o, st[x]? = some o ∧ o.muB = true) → ∀ x ∈ R, ∃ o, st[x]? = some o ∧ o.muB = true
  P : ∀ P : Nat → Prop, (∀ x ∈ acc, P x) → (∀ x ∈ todo, P x) → (∀ x o, P x → st[x]? = some o → ∀ y ∈ o.objs, P y) → ∀ x ∈ R, P x
  sum : sumO st R + todo.length ≤ sumO st acc + k
theorem reach_ok : ∀ (n : Nat) (todo acc : List Nat) (k : Nat), SzA st A todo k → k ≤ n → (∀ x ∈ A, x ∈ acc) → acc.Nodup → (∀ x ∈ acc, ∃ o, st[x]? = some o ∧ ∀ y ∈ o.objs, y ∈ acc ∨ y ∈ todo) → ReachR st acc todo (reachF st n todo acc) k := by
  intro n
  induction n with
  | zero =>
    intro todo acc k h hk hA hn hc
    have := h.len
    have : todo = [] := List.eq_nil_of_length_eq_zero (by omega)
    subst this
    exact ⟨hn, fun _ h => h, fun _ h => (nomatch h), fun x hx => let ⟨o, a, b⟩ := hc x hx; ⟨o, a, fun y hy => (b y hy).resolve_right fun h => nomatch h⟩, fun h => h, fun P h _ _ => h, by simp [reachF]⟩
  | succ n ih =>
    intro todo acc k h hk hA hn hc
    cases h with
    | nil => exact ⟨hn, fun _ h => h, fun _ h => (nomatch h), fun x hx => let ⟨o, a, b⟩ := hc x hx; ⟨o, a, fun y hy => (b y hy).resolve_right fun h => nomatch h⟩, fun h => h, fun P h _ _ => h, by simp [reachF]⟩
    | @skip i rest b hi r =>
      have hia : acc.contains i = true := by simpa using hA i hi
      rw [reachF, if_pos hia]
      have R := ih rest acc b r (by omega) hA hn fun x hx => let ⟨o, a, b⟩ := hc x hx; ⟨o, a, fun y hy => (b y hy).elim .inl fun h => (List.mem_cons.mp h).elim (fun e => .inl (e ▸ hA i hi)) .inr⟩
      exact ⟨R.nd, R.ac, fun x hx => (List.mem_cons.mp hx).elim (fun e => e ▸ R.ac i (hA i hi)) (R.td x), R.clo, R.mu, fun P h1 h2 h3 => R.P P h1 (fun x hx => h2 x (List.mem_cons_of_mem _ hx)) h3, by have := R.sum; simp; omega⟩
    | @exp i o rest a b ho m x r =>
      by_cases hia : acc.contains i = true
      · have hi : i ∈ acc := by simpa using hia
        rw [reachF, if_pos hia]
        have R := ih rest acc b r (by omega) hA hn fun x hx => let ⟨o, a, b⟩ := hc x hx; ⟨o, a, fun y hy => (b y hy).elim .inl fun h => (List.mem_cons.mp h).elim (fun e => .inl (e ▸ hi)) .inr⟩
        exact ⟨R.nd, R.ac, fun x hx => (List.mem_cons.mp hx).elim (fun e => e ▸ R.ac i hi) (R.td x), R.clo, R.mu, fun P h1 h2 h3 => R.P P h1 (fun x hx => h2 x (List.mem_cons_of_mem _ hx)) h3, by have := R.sum; simp; omega⟩
      · have hi : i ∉ acc := by simpa using hia
        rw [reachF, if_neg hia, ho]
        dsimp only
        have R := ih (o.objs ++ rest) (acc ++ [i]) (a + b) (x.app r) (by omega) (fun x hx => List.mem_append_left _ (hA x hx)) (List.nodup_append.mpr ⟨hn, by simp, fun a ha b hb e => hi (by rw [List.mem_singleton] at hb; rw [← hb, ← e]; exact ha)⟩) fun x hx => by
          rcases List.mem_append.mp hx with hx | hx
          · obtain ⟨o', a, b⟩ := hc x hx
            refine ⟨o', a, fun y hy => ?_⟩
            rcases b y hy with h | h
            · exact .inl (List.mem_append_left _ h)
            · rcases List.mem_cons.mp h with rfl | h
              · exact .inl (List.mem_append_right _ (List.mem_singleton.mpr rfl))
              · exact .inr (List.mem_append_right _ h)
          · rw [List.mem_singleton.mp hx]
            exact ⟨o, ho, fun y hy => .inr (List.mem_append_left _ hy)⟩
        refine ⟨R.nd, fun x hx => R.ac x (List.mem_append_left _ hx), fun x hx => ?_, R.clo, fun h => R.mu fun x hx => ?_, fun P h1 h2 h3 => R.P P (fun x hx => ?_) (fun x hx => ?_) h3, ?_⟩
        · rcases List.mem_cons.mp hx with rfl | hx
          · exact R.ac x (List.mem_append_right _ (List.mem_singleton.mpr rfl))
          · exact R.td x (List.mem_append_right _ hx)
        · rcases List.mem_append.mp hx with hx | hx
          · exact h x hx
          · rw [List.mem_singleton.mp hx]; exact ⟨o, ho, m⟩
        · rcases List.mem_append.mp hx with hx | hx
          · exact h1 x hx
          · rw [List.mem_singleton.mp hx]; exact h2 i List.mem_cons_self
        · rcases List.mem_append.mp hx with hx | hx
          · exact h3 i o (h2 i List.mem_cons_self) ho x hx
          · exact h2 x (List.mem_cons_of_mem _ hx)
        · have := R.sum
          have e : sumO st (acc ++ [i]) = sumO st acc + o.objs.length := by simp [sumO, nthO, ho]
          rw [e] at this
          simp at this ⊢
          omega
theorem ReachR.closB {acc todo R : List Nat} {k : Nat} (r : ReachR st acc todo R k) : closB st R = true := by
  unfold Gv.closB
  rw [Bool.and_eq_true]
  constructor
  · have : ∀ {R : List Nat}, R.Nodup → nodB R = true := fun {R} h => by
      induction R with
      | nil => rfl
      | cons x R ih =>
        rw [List.nodup_cons] at h
        simp [nodB, ih h.2, h.1]
    exact this r.nd
  · rw [List.all_eq_true]
    intro x hx
    obtain ⟨o, a, b⟩ := r.clo x hx
    rw [a]
    unfold subB
    rw [List.all_eq_true]
    intro y hy
    simpa using b y hy
theorem ReachR.mutB {todo R : List Nat} {k : Nat} (r : ReachR st [] todo R k) : mutB st R = true := by
  unfold Gv.mutB
  rw [List.all_eq_true]
  intro x hx
  obtain ⟨o, a, b⟩ := r.mu (fun _ h => nomatch h) x hx
  rw [a]
  exact b
theorem subB_of {xs R : List Nat} (h : ∀ x ∈ xs, x ∈ R) : subB xs R = true := by
  unfold subB
  rw [List.all_eq_true]
  intro x hx
  simpa using h x hx
/-! ### renumbered -/
theorem ren_keys {κ : Type} (f : Nat → Nat) (kds : List (κ × D)) : (kds.map fun p => (p.1, p.2.ren f)).map (·.1) = kds.map (·.1) ∧ (kds.map fun p => (p.1, p.2.ren f)).map (·.2) = renL f (kds.map (·.2)) := by
  induction kds with
  | nil => exact ⟨rfl, rfl⟩
  | cons p kds ih => exact ⟨by rw [List.map_cons, List.map_cons, List.map_cons, ih.1], by rw [List.map_cons, List.map_cons, List.map_cons, renL, ih.2]⟩
/-- renumbered into another store -/
theorem Rps.ren (h : Rps st ds vs G) (f : Nat → Nat) : (∀ k ∈ G, ∀ o, st[k]? = some o → st'[f k]? = some (o.ren f)) → Rps st' (renL f ds) vs (G.map f) := by
  induction h with
  | nil => exact fun _ => .nil
  | non r ih => exact fun q => .non (ih q)
  | bl b r ih => exact fun q => .bl b (ih q)
  | int b r ih => exact fun q => .int b (ih q)
  | str b r ih => exact fun q => .str b (ih q)
  | tup h r ih1 ih2 => intro q; rw [List.map_append]; exact .tup (ih1 fun k hk => q k (List.mem_append_left _ hk)) (ih2 fun k hk => q k (List.mem_append_right _ hk))
  | lst hk h r ih1 ih2 =>
    intro q
    rw [List.map_cons, List.map_append]
    exact .lst (q _ List.mem_cons_self _ hk) (ih1 fun k hk => q k (List.mem_cons_of_mem _ (List.mem_append_left _ hk))) (ih2 fun k hk => q k (List.mem_cons_of_mem _ (List.mem_append_right _ hk)))
  | @dK k kds kvs E ds vs G hk e h r ih1 ih2 =>
    intro q
    rw [List.map_cons, List.map_append]
    have e2 := ren_keys f kds
    exact .dK (q _ List.mem_cons_self _ hk) (e2.1.trans e) (by rw [e2.2]; exact ih1 fun k hk => q k (List.mem_cons_of_mem _ (List.mem_append_left _ hk))) (ih2 fun k hk => q k (List.mem_cons_of_mem _ (List.mem_append_right _ hk)))
  | @dT k kds kvs E ds vs G hk e h r ih1 ih2 =>
    intro q
    rw [List.map_cons, List.map_append]
    have e2 := ren_keys f kds
    exact .dT (q _ List.mem_cons_self _ hk) (e2.1.trans e) (by rw [e2.2]; exact ih1 fun k hk => q k (List.mem_cons_of_mem _ (List.mem_append_left _ hk))) (ih2 fun k hk => q k (List.mem_cons_of_mem _ (List.mem_append_right _ hk)))
theorem Rp.ren (h : Rp st d v G) (f : Nat → Nat) (q : ∀ k ∈ G, ∀ o, st[k]? = some o → st'[f k]? = some (o.ren f)) : Rp st' (d.ren f) v (G.map f) := Rps.ren h f q
theorem Rps.objs (h : Rps st ds vs G) : ∀ x ∈ objsL ds, x ∈ G := by
  induction h with
  | nil => simp [objsL]
  | non r ih => simpa [objsL, D.objs] using ih
  | bl b r ih => simpa [objsL, D.objs] using ih
  | int b r ih => simpa [objsL, D.objs] using ih
  | str b r ih => simpa [objsL, D.objs] using ih
  | tup h r ih1 ih2 =>
    intro x hx
    simp only [objsL, D.objs, List.mem_append] at hx ⊢
    exact hx.imp (ih1 x) (ih2 x)
  | lst hk h r ih1 ih2 =>
    intro x hx
    simp only [objsL, D.objs, List.singleton_append, List.mem_cons, List.mem_append] at hx ⊢
    exact hx.imp id fun h => .inr (ih2 x h)
  | dK hk e h r ih1 ih2 =>
    intro x hx
    simp only [objsL, D.objs, List.singleton_append, List.mem_cons, List.mem_append] at hx ⊢
    exact hx.imp id fun h => .inr (ih2 x h)
  | dT hk e h r ih1 ih2 =>
    intro x hx
    simp only [objsL, D.objs, List.singleton_append, List.mem_cons, List.mem_append] at hx ⊢
    exact hx.imp id fun h => .inr (ih2 x h)
/-- below them, nothing else -/
theorem Rps.under (h : Rps st ds vs G) : ∀ x ∈ G, ∀ o, st[x]? = some o → ∀ y ∈ o.objs, y ∈ G := by
  intro x hx o ho y hy
  obtain ⟨u, E, a, b, c⟩ := h.sub x hx
  have : ∀ y ∈ o.objs, y ∈ E := by
    generalize hG : x :: E = G' at a
    cases a with
    | lst hk h r => obtain ⟨_, rfl⟩ := r.nil_l; rw [List.append_nil] at hG; cases hG; rw [hk] at ho; cases ho; exact fun y hy => h.objs y hy
    | dK hk _ h r => obtain ⟨_, rfl⟩ := r.nil_l; rw [List.append_nil] at hG; cases hG; rw [hk] at ho; cases ho; exact fun y hy => h.objs y hy
    | dT hk _ h r => obtain ⟨_, rfl⟩ := r.nil_l; rw [List.append_nil] at hG; cases hG; rw [hk] at ho; cases ho; exact fun y hy => h.objs y hy
  exact c y (this y hy)
theorem idx_inj {R : List Nat} {i j : Nat} (hi : i ∈ R) (hj : j ∈ R) (h : idx R i = idx R j) : i = j := by
  have := idx_get hi
  rw [h, idx_get hj] at this
  exact (Option.some.inj this).symm
theorem rx_ren {e : Ex} {x : Vx} (h : Rx e x) (f : Nat → Nat) : e.code.ren f = e.code ∧ e.place.ren f = e.place ∧ e.code.objs = [] ∧ e.place.objs = [] := by
  have key : ∀ {d : D} {v : Vl}, Rp [] d v [] → d.objs = [] := fun {d v} h => by
    have := Rps.objs h
    simp only [objsL, List.append_nil] at this
    exact List.eq_nil_iff_forall_not_mem.mpr fun x hx => nomatch this x hx
  have h1 := key (h.2.1 [])
  have h2 := key (h.2.2 [])
  exact ⟨ren_data f _ h1, ren_data f _ h2, h1, h2⟩
/-! ### a def's answer in order -/
theorem canon_ok {n : Nat} {x : D} {u : Vl} {s : Sto} {w' : Wo} (hn : st.length = n) (hc : closB st (List.range n) = true) (hs : (objsL (st.map Ob.vals).flatten).length ≤ 400000) (e : Ext loc st s) (hw0 : Wd loc st w) (hw : Wd loc s w') (hx : Rp s x u G) (nd : ∀ k ∈ G, NotDr loc k) (hG : G.length ≤ 400000) :
    ∃ R, (R = canR n s [x] ∧ canOk n s [x] = true) ∧ canon n (.ok x s) = .ok (x.ren (idx R)) (sel s R) ∧ Rp (sel s R) (x.ren (idx R)) u (G.map (idx R)) ∧ (∀ k ∈ G.map (idx R), NotDr loc k) ∧ Ext loc st (sel s R) ∧ Wd loc (sel s R) w' := by
  obtain ⟨_, hcl⟩ := clos_get hc
  -- the first ones
  have hfst : ∀ k, k < n → ∃ o, s[k]? = some o ∧ ∀ y ∈ o.objs, y < n := fun k hk => by
    obtain ⟨o, ho, hi⟩ := hcl k (List.mem_range.mpr hk)
    by_cases hd : ∃ j, loc = some (k, j)
    · obtain ⟨j, hj⟩ := hd
      refine ⟨_, (hw k j hj).2.1, fun y hy => ?_⟩
      simp [Ob.objs, Ob.vals, objsL, D.objs] at hy
      rw [hy]
      have := (hw0.lt hj).2
      omega
    · refine ⟨o, by rw [e.same k (by omega) fun i j q z => hd ⟨j, by rw [q, z]⟩]; exact ho, fun y hy => List.mem_range.mp (hi y hy)⟩
  have hrefs : ∀ y ∈ objsL ((s.take n).map Ob.vals).flatten, y < n := fun y hy => by
    have key : ∀ (l : List (List D)), y ∈ objsL l.flatten → ∃ xs ∈ l, y ∈ objsL xs := by
      have app : ∀ (a b : List D), objsL (a ++ b) = objsL a ++ objsL b := fun a b => by
        induction a with
        | nil => rfl
        | cons x a ih => rw [List.cons_append, objsL, objsL, ih, List.append_assoc]
      intro l
      induction l with
      | nil => intro hi; simp [objsL] at hi
      | cons xs l ih =>
        intro hi
        rw [List.flatten_cons, app] at hi
        rcases List.mem_append.mp hi with h | h
        · exact ⟨xs, List.mem_cons_self, h⟩
        · obtain ⟨ys, h1, h2⟩ := ih h
          exact ⟨ys, List.mem_cons_of_mem _ h1, h2⟩
    obtain ⟨xs, h1, h2⟩ := key _ hy
    obtain ⟨o, ho, rfl⟩ := List.mem_map.mp h1
    obtain ⟨j, hj⟩ := List.getElem?_of_mem ho
    have hjn : j < n := by
      have := (List.getElem?_eq_some_iff.mp hj).1
      rw [List.length_take] at this
      omega
    rw [List.getElem?_take_of_lt hjn] at hj
    obtain ⟨o', a, b⟩ := hfst j hjn
    rw [hj] at a
    cases a
    exact b y h2
  have hlen : (objsL ((s.take n).map Ob.vals).flatten).length ≤ 400000 := by
    -- as many as before
    have : ∀ (l : Nat), l ≤ n → (objsL ((s.take l).map Ob.vals).flatten).length = (objsL ((st.take l).map Ob.vals).flatten).length := by
      have app : ∀ (a b : List D), objsL (a ++ b) = objsL a ++ objsL b := fun a b => by
        induction a with
        | nil => rfl
        | cons x a ih => rw [List.cons_append, objsL, objsL, ih, List.append_assoc]
      intro l
      induction l with
      | zero => intro _; rfl
      | succ l ih =>
        intro hl
        have hl1 : l < s.length := by have := e.le; omega
        have hl2 : l < st.length := by omega
        rw [List.take_succ_eq_append_getElem hl1, List.take_succ_eq_append_getElem hl2]
        simp only [List.map_append, List.flatten_append, app, List.length_append, ih (by omega), List.map_cons, List.map_nil, List.flatten_cons, List.flatten_nil, List.append_nil]
        congr 1
        by_cases hd : ∃ j, loc = some (l, j)
        · obtain ⟨j, hj⟩ := hd
          have h1 := (hw l j hj).2.1
          have h2 := (hw0 l j hj).2.1
          rw [List.getElem?_eq_getElem hl1] at h1
          rw [List.getElem?_eq_getElem hl2] at h2
          rw [Option.some.inj h1, Option.some.inj h2]
          rfl
        · have h1 := e.same l hl2 fun i j q z => hd ⟨j, by rw [q, z]⟩
          rw [List.getElem?_eq_getElem hl1, List.getElem?_eq_getElem hl2] at h1
          rw [Option.some.inj h1]
    rw [this n (Nat.le_refl _), ← hn, List.take_length]
    exact hs
  have hsz : SzA s (List.range n) (objsL [x] ++ objsL ((s.take n).map Ob.vals).flatten) (G.length + (objsL ((s.take n).map Ob.vals).flatten).length) := by
    refine SzA.app (Rps.sz hx) ?_
    generalize objsL ((s.take n).map Ob.vals).flatten = l at hrefs
    clear hlen
    induction l with
    | nil => exact .nil
    | cons y l ih => exact .skip (List.mem_range.mpr (hrefs y List.mem_cons_self)) (ih fun z hz => hrefs z (List.mem_cons_of_mem _ hz))
  have RR := reach_ok 1000000 _ (List.range n) _ hsz (by omega) (fun _ h => h) List.nodup_range (fun k hk => by
    obtain ⟨o, a, b⟩ := hfst k (List.mem_range.mp hk)
    exact ⟨o, a, fun y hy => .inl (List.mem_range.mpr (b y hy))⟩)
  have eR : canR n s [x] = reachF s 1000000 (objsL [x] ++ objsL ((s.take n).map Ob.vals).flatten) (List.range n) := rfl
  rw [← eR] at RR
  obtain ⟨t, ht⟩ := reachF_pre (s := s) 1000000 (objsL [x] ++ objsL ((s.take n).map Ob.vals).flatten) (List.range n)
  rw [← eR] at ht
  generalize hR : canR n s [x] = R at RR ht
  have hcs := RR.closB
  obtain ⟨hnd, hclos⟩ := clos_get hcs
  have hok : canOk n s [x] = true := by
    unfold canOk
    rw [hR]
    simp only [hcs, subB_of fun y hy => RR.td y (List.mem_append_left _ hy), Bool.and_self, Bool.true_and, decide_eq_true_eq]
    have := e.le
    omega
  have hidx : ∀ i, i < n → idx R i = i := fun i hi => idx_of hnd (by rw [ht, List.getElem?_append_left (by simpa using hi)]; simp [hi])
  have hGR : ∀ k ∈ G, k ∈ R := fun k hk => by
    -- from the value down
    have P := Rps.objs hx
    have key : ∀ {ds vs G}, Rps s ds vs G → (∀ y ∈ objsL ds, y ∈ R) → ∀ k ∈ G, k ∈ R := fun {ds vs G} h => by
      induction h with
      | nil => simp
      | non r ih => intro q; exact ih (by simpa [objsL, D.objs] using q)
      | bl b r ih => intro q; exact ih (by simpa [objsL, D.objs] using q)
      | int b r ih => intro q; exact ih (by simpa [objsL, D.objs] using q)
      | str b r ih => intro q; exact ih (by simpa [objsL, D.objs] using q)
      | tup h r ih1 ih2 =>
        intro q k hk
        simp only [objsL, D.objs, List.mem_append] at q
        exact (List.mem_append.mp hk).elim (ih1 (fun y hy => q y (.inl hy)) k) (ih2 (fun y hy => q y (.inr hy)) k)
      | lst hk' h r ih1 ih2 =>
        intro q k hk
        simp only [objsL, D.objs, List.singleton_append, List.mem_cons] at q
        have hkR := q _ (.inl rfl)
        obtain ⟨o, a, b⟩ := hclos _ hkR
        rw [hk'] at a
        cases a
        rcases List.mem_cons.mp hk with rfl | hk
        · exact hkR
        · exact (List.mem_append.mp hk).elim (ih1 (fun y hy => b y hy) k) (ih2 (fun y hy => q y (.inr hy)) k)
      | dK hk' _ h r ih1 ih2 =>
        intro q k hk
        simp only [objsL, D.objs, List.singleton_append, List.mem_cons] at q
        have hkR := q _ (.inl rfl)
        obtain ⟨o, a, b⟩ := hclos _ hkR
        rw [hk'] at a
        cases a
        rcases List.mem_cons.mp hk with rfl | hk
        · exact hkR
        · exact (List.mem_append.mp hk).elim (ih1 (fun y hy => b y hy) k) (ih2 (fun y hy => q y (.inr hy)) k)
      | dT hk' _ h r ih1 ih2 =>
        intro q k hk
        simp only [objsL, D.objs, List.singleton_append, List.mem_cons] at q
        have hkR := q _ (.inl rfl)
        obtain ⟨o, a, b⟩ := hclos _ hkR
        rw [hk'] at a
        cases a
        rcases List.mem_cons.mp hk with rfl | hk
        · exact hkR
        · exact (List.mem_append.mp hk).elim (ih1 (fun y hy => b y hy) k) (ih2 (fun y hy => q y (.inr hy)) k)
    exact key hx (fun y hy => RR.td y (List.mem_append_left _ hy)) k hk
  have hget : ∀ k o, k < n → s[k]? = some o → (sel s R)[k]? = some o := fun k o hk ho => by
    have h1 : R[k]? = some k := by rw [ht, List.getElem?_append_left (by simpa using hk)]; simp [hk]
    rw [sel_get h1 ho]
    obtain ⟨o', a, b⟩ := hfst k hk
    rw [ho] at a
    cases a
    rw [Ob.ren_same _ o fun i hi => hidx i (b i hi)]
  refine ⟨R, ⟨rfl, hok⟩, ?_, ?_, ?_, ⟨?_, ?_⟩, ?_⟩
  · unfold canon
    dsimp only
    rw [hok, hR]
    rfl
  · exact Rp.ren hx _ fun k hk o ho => sel_get (idx_get (hGR k hk)) ho
  · intro k hk
    obtain ⟨k', hk', rfl⟩ := List.mem_map.mp hk
    intro i j q
    have l := hw0.lt q
    refine ⟨fun z => (nd k' hk' i j q).1 ?_, fun z => (nd k' hk' i j q).2 ?_⟩
    · have := idx_get (hGR k' hk')
      rw [z, ht, List.getElem?_append_left (by simp; omega), List.getElem?_range (by omega)] at this
      exact (Option.some.inj this).symm
    · have := idx_get (hGR k' hk')
      rw [z, ht, List.getElem?_append_left (by simp; omega), List.getElem?_range (by omega)] at this
      exact (Option.some.inj this).symm
  · have : R.length = n + t.length := by rw [ht]; simp
    simp [sel, this, hn]
  · intro k hk q
    obtain ⟨o, a, b⟩ := hfst k (by omega)
    rw [hget k o (by omega) a, ← a, e.same k hk q]
  · intro i j q
    have l := hw0.lt q
    exact ⟨(hw i j q).1, hget i _ (by omega) (hw i j q).2.1, hget j _ (by omega) (hw i j q).2.2⟩
end
end Gv
namespace Gv
open PySem PySem.Spec L2

mutual
def cntV : Vl → Nat
  | .tup xs => cntL xs
  | .lst xs => cntL xs + 1
  | .dK kvs => cntK kvs + 1
  | .dT kvs => cntT kvs + 1
  | _ => 0
def cntL : List Vl → Nat
  | [] => 0
  | x :: xs => cntV x + cntL xs
def cntK : List (Key × Vl) → Nat
  | [] => 0
  | (_, x) :: xs => cntV x + cntK xs
def cntT : List (List Key × Vl) → Nat
  | [] => 0
  | (_, x) :: xs => cntV x + cntT xs
end
theorem cntK_eq : ∀ kvs, cntK kvs = cntL (kvs.map (·.2))
  | [] => rfl
  | (_, x) :: xs => by rw [cntK, cntK_eq xs]; rfl
theorem cntT_eq : ∀ kvs, cntT kvs = cntL (kvs.map (·.2))
  | [] => rfl
  | (_, x) :: xs => by rw [cntT, cntT_eq xs]; rfl
def okC (vs : List Vl) : Bool := flatL vs || decide (cntL vs ≤ 100000)
def finV (r : VRs) : VR Vl := match r with
  | .rt x w' => if okC [x] = true then .ok x w' else .no
  | .nx _ w' => .ok .non w'
  | .er x w' => .er x w'
  | _ => .no
@[simp] theorem finV_er (x : Vx) (w : Wo) : finV (.er x w) = .er x w := rfl
@[simp] theorem finV_nx (x : VEnv) (w : Wo) : finV (.nx x w) = .ok .non w := rfl
theorem finV_rt {x : Vl} {w : Wo} (h : okC [x] = true) : finV (.rt x w) = .ok x w := if_pos h
def vFn (n ar : Nat) (body : VS) : VF := fun vs w => if vs.length = ar then finV (body (vs.map some ++ List.replicate (n - ar) none) w) else .no
def vFnD (n ar : Nat) (body : VS) : VF := fun vs w => if vs.length + 1 = ar then finV (body (none :: (vs.map some ++ List.replicate (n - ar) none)) w) else .no
def keepW (w : Wo) (r : VR Vl) : VR Vl := match r with
  | .ok x _ => .ok x w
  | .er e _ => .er e w
  | .no => .no
@[simp] theorem keepW_ok (w w' : Wo) (x : Vl) : keepW w (.ok x w') = .ok x w := rfl
@[simp] theorem keepW_er (w w' : Wo) (x : Vx) : keepW w (.er x w') = .er x w := rfl
/-- a def that draws nothing is called with this drawer -/
def wZ : Wo := ⟨[], 0, 0, 0⟩
def vX (f : VF) (a : VA) : VE := fun ve w => (a ve w).bind fun vs w1 => if okC vs = true then keepW w1 (f vs wZ) else .no
def vXd (f : VF) (a : VA) : VE := fun ve w => (a ve w).bind fun vs w1 => if okC vs = true then f vs w1 else .no
def dargs (loc : Loc) (ds : List D) : List D := match loc with
  | some (i, _) => .obj i :: ds
  | none => ds
def outD (r : Rs) : Re D := match r with
  | .rt d s => .ok d s
  | .nx _ s => .ok .non s
  | .er e _ s => .er e s
  | _ => .no
structure StOk (st : Sto) : Prop where
  cl : closB st (List.range st.length) = true
  sz : (objsL (st.map Ob.vals).flatten).length ≤ 400000
def PostF (loc : Loc) (st : Sto) (r : Re D) : VR Vl → Prop
  | .ok x w' => ∃ d st' G, r = .ok d st' ∧ Rp st' d x G ∧ (∀ k ∈ G, NotDr loc k) ∧ Ext loc st st' ∧ Wd loc st' w'
  | .er x w' => ∃ ex st', r = .er ex st' ∧ Rx ex x ∧ Ext loc st st' ∧ Wd loc st' w'
  | .no => True
def SoundF (dr : Bool) (f : FnD) (vf : VF) : Prop := ∀ loc st ds vs w G, loc.isSome = dr → Rps st ds vs G → (∀ k ∈ G, NotDr loc k) → Wd loc st w → StOk st → PostF loc st (f (dargs loc ds) st) (vf vs w)
section
variable {st st' s s1 s2 : Sto} {A todo : List Nat} {loc : Loc} {dl : Option Nat} {en : En} {ve : VEnv} {w w1 : Wo} {F : Nat → List Nat} {ds es : List D} {vs us : List Vl} {G E : List Nat} {d : D} {v : Vl} {al al1 : List Nat} {O' : List Nat}
theorem Rps.cnt (h : Rps st ds vs G) : cntL vs = G.length := by
  induction h with
  | nil => rfl
  | non r ih => simp [cntL, cntV, ih]
  | bl b r ih => simp [cntL, cntV, ih]
  | int b r ih => simp [cntL, cntV, ih]
  | str b r ih => simp [cntL, cntV, ih]
  | tup h r ih1 ih2 => simp [cntL, cntV, ih1, ih2]
  | lst hk h r ih1 ih2 => simp [cntL, cntV, ih1, ih2]; omega
  | dK hk e h r ih1 ih2 => simp only [cntL, cntV, cntK_eq, ih1, ih2, List.length_cons, List.length_append]; omega
  | dT hk e h r ih1 ih2 => simp only [cntL, cntV, cntT_eq, ih1, ih2, List.length_cons, List.length_append]; omega
theorem okC_len (h : Rps st ds vs G) (hc : okC vs = true) : G.length ≤ 100000 := by
  simp only [okC, Bool.or_eq_true, decide_eq_true_eq] at hc
  rcases hc with hc | hc
  · rw [h.flat hc]; exact Nat.zero_le _
  · rw [← h.cnt]; exact hc
/-- the arguments -/
theorem args_F (h : Rps st ds vs G) : ∃ F : Nat → List Nat, (∀ i v, vs[i]? = some v → ∃ d, ds[i]? = some d ∧ Rp st d v (F i)) ∧ (∀ i, vs.length ≤ i → F i = []) ∧ ∀ i, ∀ k ∈ F i, k ∈ G := by
  have key : ∀ i, ∃ A : List Nat, (∀ v, vs[i]? = some v → ∃ d, ds[i]? = some d ∧ Rp st d v A) ∧ (vs.length ≤ i → A = []) ∧ ∀ k ∈ A, k ∈ G := fun i => by
    cases e : vs[i]? with
    | none => exact ⟨[], fun v h => (nomatch h), fun _ => rfl, fun _ h => (nomatch h)⟩
    | some v =>
      obtain ⟨d, A, a, b, c⟩ := h.get e
      exact ⟨A, fun v' hv => by cases hv; exact ⟨d, a, b⟩, fun hl => by have := (List.getElem?_eq_some_iff.mp e).1; omega, c⟩
  exact ⟨fun i => (key i).choose, fun i => (key i).choose_spec.1, fun i => (key i).choose_spec.2.1, fun i => (key i).choose_spec.2.2⟩
theorem rep_args (h : Rps st ds vs G) (nd : ∀ k ∈ G, NotDr loc k) (hw : Wd loc st w) (m : Nat) : ∃ F, Rep loc none st (ds.map some ++ List.replicate m none) (vs.map some ++ List.replicate m none) w F := by
  obtain ⟨F, h1, h2, h3⟩ := args_F h
  have hl := h.len
  refine ⟨F, by simp [hl], fun i v hv => ?_, fun i hv => ?_, hw, fun i k hk => nd k (h3 i k hk), fun l hl => (nomatch hl), fun i hi _ => ?_⟩
  · by_cases hi : i < vs.length
    · rw [List.getElem?_append_left (by simpa using hi), List.getElem?_map, List.getElem?_eq_getElem hi] at hv
      cases hv
      obtain ⟨d, a, b⟩ := h1 i vs[i] (List.getElem?_eq_getElem hi)
      exact ⟨d, by rw [List.getElem?_append_left (by simp; omega), List.getElem?_map, a]; rfl, b⟩
    · rw [List.getElem?_append_right (by simp; omega)] at hv
      have := List.mem_of_getElem? hv
      simp at this
  · by_cases hi : i < vs.length
    · exact absurd (by rw [List.getElem?_append_left (by simpa using hi), List.getElem?_map, List.getElem?_eq_getElem hi]; rfl) (hv vs[i])
    · exact h2 i (by omega)
  · by_cases hi' : i < vs.length
    · rw [List.getElem?_append_left (by simpa using hi'), List.getElem?_map, List.getElem?_eq_getElem hi'] at hi
      cases hi
    · rw [List.getElem?_append_right (by simp; omega)] at hi ⊢
      have hm : i - vs.length < m := by
        have := (List.getElem?_eq_some_iff.mp hi).1
        simpa using this
      simp [hl, hm]
theorem Rep.shift {i j : Nat} (r : Rep (some (i, j)) none st en ve w F) : Rep (some (i, j)) (some 0) st (some (.obj i) :: en) (none :: ve) w (fun n => match n with | 0 => [] | n + 1 => F n) := by
  refine ⟨by simp [r.len], fun n v hv => ?_, fun n hv => ?_, r.wd, fun n k hk => ?_, fun l hl => ?_, fun n hn hd => ?_⟩
  · cases n with
    | zero => cases hv
    | succ n => exact r.sl n v hv
  · cases n with
    | zero => rfl
    | succ n => exact r.nl n hv
  · cases n with
    | zero => cases hk
    | succ n => exact r.fd n k hk
  · cases hl; exact ⟨i, j, rfl, rfl, rfl⟩
  · cases n with
    | zero => exact absurd rfl hd
    | succ n => exact r.no n hn fun z => nomatch z
theorem Frm.ext (h : Frm loc [] en st s) : Ext loc st s := ⟨h.le, fun k hk q => h.same k hk q fun _ h => nomatch h⟩
theorem outD_eq (n ar : Nat) (body : SD) (ds : List D) (st : Sto) : dFn n ar body ds st = if ds.length = ar then outD (body (ds.map some ++ List.replicate (n - ar) none) st) else .no := by
  unfold dFn outD
  rfl
/-- a def: what its body does, in order -/
theorem post_fin {r : Rs} {q : VRs} (hs : StOk st) (hw : Wd loc st w) (h : PostSt loc dl [] [] O' en st r q) :
    PostF loc st (canon st.length (outD r)) (finV q) := by
  cases q with
  | nx ve' w' =>
    obtain ⟨en', s, rfl, N⟩ := h
    obtain ⟨F', r', _⟩ := N.ex
    obtain ⟨R, _, e, rp, nd, ex, wd⟩ := canon_ok (x := .non) (u := .non) rfl hs.cl hs.sz N.fr.ext hw r'.wd (.non .nil) (fun _ h => nomatch h) (by simp)
    exact ⟨_, _, _, e, rp, nd, ex, wd⟩
  | rt x w' =>
    obtain ⟨d, s, G, rfl, rp, nd, fr, wd⟩ := h
    unfold finV
    by_cases hc : okC [x] = true
    · simp only [if_pos hc]
      have := okC_len rp hc
      obtain ⟨R, _, e, rp, nd, ex, wd⟩ := canon_ok rfl hs.cl hs.sz fr.ext hw wd rp nd (by omega)
      exact ⟨_, _, _, e, rp, nd, ex, wd⟩
    · simp only [if_neg hc]; trivial
  | er x w' =>
    obtain ⟨ex, en', s, rfl, rx, _, fr, wd⟩ := h
    obtain ⟨R, ⟨h1, h2⟩, e, rp, nd, ext, wd'⟩ := canon_ok (x := .non) (u := .non) rfl hs.cl hs.sz fr.ext hw wd (.non .nil) (fun _ h => nomatch h) (by simp)
    obtain ⟨r1, r2, o1, o2⟩ := rx_ren rx (idx R)
    have e1 : objsL [ex.code, ex.place] = objsL [D.non] := by simp [objsL, o1, o2, D.objs]
    have e2 : canR st.length s [ex.code, ex.place] = canR st.length s [.non] := by unfold canR; rw [e1]
    have e3 : canOk st.length s [ex.code, ex.place] = true := by rw [← h2]; unfold canOk; rw [e1, e2]
    refine ⟨ex, sel s R, ?_, rx, ext, wd'⟩
    subst h1
    show canon st.length (.er ex s) = _
    unfold canon
    dsimp only
    rw [if_pos e3, e2, r1, r2]
  | bk => trivial
  | ct => trivial
  | no => trivial
theorem sf_fn {n ar : Nat} {body : SD} {vb : VS} (h : SoundS none [] [] body vb O') : SoundF false (dFc n ar body) (vFn n ar vb) := fun loc st ds vs w G hl hr nd hw hs => by
  have : loc = none := by cases loc with | none => rfl | some => cases hl
  subst this
  unfold vFn
  by_cases hn : vs.length = ar
  · rw [if_pos hn]
    obtain ⟨F, r⟩ := rep_args hr nd hw (n - ar)
    have H := h none st _ _ w F r fun i hi => nomatch hi
    show PostF none st (canon st.length (dFn n ar body ds st)) _
    rw [outD_eq, if_pos (by rw [hr.len]; exact hn)]
    exact post_fin hs hw H
  · rw [if_neg hn]; trivial
theorem sf_fnD {n ar : Nat} {body : SD} {vb : VS} (h : SoundS (some 0) [] [] body vb O') : SoundF true (dFc n ar body) (vFnD n ar vb) := fun loc st ds vs w G hl hr nd hw hs => by
  cases loc with
  | none => cases hl
  | some p =>
    obtain ⟨i, j⟩ := p
    unfold vFnD
    by_cases hn : vs.length + 1 = ar
    · rw [if_pos hn]
      obtain ⟨F, r⟩ := rep_args hr nd hw (n - ar)
      have H := h (some (i, j)) st _ _ w _ r.shift fun i hi => nomatch hi
      show PostF _ st (canon st.length (dFn n ar body (.obj i :: ds) st)) _
      rw [outD_eq, if_pos (by rw [List.length_cons, hr.len]; exact hn)]
      exact post_fin hs hw H
    · rw [if_neg hn]; trivial
theorem sf_no (f : FnD) (dr : Bool) : SoundF dr f (fun _ _ => .no) := fun _ _ _ _ _ _ _ _ _ _ _ => trivial
/-! ### calls -/
theorem merge_get {R : List Nat} (hc : closB st R = true) (hl : R.length ≤ s.length) {k : Nat} {o : Ob} (h : s[k]? = some o) : (merge st s R)[upI st.length R k]? = some (o.ren (upI st.length R)) := by
  obtain ⟨hn, hcl⟩ := clos_get hc
  unfold merge
  by_cases hk : k < R.length
  · have e : R[k]? = some R[k] := List.getElem?_eq_getElem hk
    have eu : upI st.length R k = R[k] := by simp only [upI, e]
    obtain ⟨u, hu, _⟩ := hcl R[k] (List.mem_of_getElem? e)
    have hrl := (List.getElem?_eq_some_iff.mp hu).1
    rw [eu, List.getElem?_append_left (by rw [wrB_len]; exact hrl), wrB_get, Nat.zero_add, hu]
    have hm : R.contains R[k] = true := by simp
    simp only [Option.map_some, hm, if_true, nthO, idx_of hn e, h]
  · have e : R[k]? = none := List.getElem?_eq_none (by omega)
    have eu : upI st.length R k = st.length + (k - R.length) := by simp only [upI, e]
    rw [eu, List.getElem?_append_right (by rw [wrB_len]; omega), wrB_len, Nat.add_sub_cancel_left, List.getElem?_map, List.getElem?_drop, show R.length + (k - R.length) = k by omega, h]
    rfl
theorem merge_same {R : List Nat} (hc : closB st R = true) {k : Nat} (hk : k < st.length) (h : k ∈ R → s[idx R k]? = (sel st R)[idx R k]?) : (merge st s R)[k]? = st[k]? := by
  obtain ⟨hn, hcl⟩ := clos_get hc
  unfold merge
  rw [List.getElem?_append_left (by rw [wrB_len]; exact hk), wrB_get, Nat.zero_add]
  by_cases hm : k ∈ R
  · have hm' : R.contains k = true := by simpa using hm
    obtain ⟨o, ho, hs⟩ := hcl k hm
    rw [ho]
    simp only [Option.map_some, hm', if_true, nthO, h hm, sel_get (idx_get hm) ho]
    rw [Ob.ren_ren _ _ o fun i hi => up_idx (hs i hi)]
  · have hm' : R.contains k = false := by simpa using hm
    cases st[k]? <;> simp [hm]
theorem refs_sel {R : List Nat} : (objsL ((sel st R).map Ob.vals).flatten).length = sumO st R := by
  have app : ∀ (a b : List D), objsL (a ++ b) = objsL a ++ objsL b := fun a b => by
    induction a with
    | nil => rfl
    | cons x a ih => rw [List.cons_append, objsL, objsL, ih, List.append_assoc]
  have rl : ∀ (f : Nat → Nat), (∀ d : D, (d.ren f).objs.length = d.objs.length) ∧ True := fun f => by
    refine ⟨?_, trivial⟩
    have key : ∀ n, (∀ d : D, sizeOf d < n → (d.ren f).objs.length = d.objs.length) ∧ ∀ ds : List D, sizeOf ds < n → (objsL (renL f ds)).length = (objsL ds).length := by
      intro n
      induction n with
      | zero => exact ⟨fun _ h => by omega, fun _ h => by omega⟩
      | succ n ih =>
        refine ⟨fun d hd => ?_, fun ds hd => ?_⟩
        · cases d with
          | tup xs => simp only [D.ren, D.objs]; exact ih.2 xs (by simp at hd; omega)
          | _ => rfl
        · cases ds with
          | nil => rfl
          | cons x xs =>
            simp at hd
            simp only [renL, objsL, List.length_append, ih.1 x (by omega), ih.2 xs (by omega)]
    exact fun d => (key (sizeOf d + 1)).1 d (by omega)
  have rls : ∀ (f : Nat → Nat) (ds : List D), (objsL (renL f ds)).length = (objsL ds).length := fun f ds => by
    induction ds with
    | nil => rfl
    | cons d ds ih => simp only [renL, objsL, List.length_append, ih, (rl f).1 d]
  have ro : ∀ (f : Nat → Nat) (o : Ob), (objsL (o.ren f).vals).length = o.objs.length := fun f o => by
    cases o with
    | lst xs => exact rls f xs
    | fls xs => exact rls f xs
    | dK kvs => show (objsL ((kvs.map fun p => (p.1, p.2.ren f)).map (·.2))).length = _; rw [(ren_keys f kvs).2]; exact rls f _
    | dT kvs => show (objsL ((kvs.map fun p => (p.1, p.2.ren f)).map (·.2))).length = _; rw [(ren_keys f kvs).2]; exact rls f _
  unfold sel sumO
  generalize idx R = f
  induction R with
  | nil => rfl
  | cons r R ih =>
    simp only [List.map_cons, List.flatten_cons, app, List.length_append, List.sum_cons]
    rw [ih, ro]
theorem clos_sel {R : List Nat} (hc : closB st R = true) : closB (sel st R) (List.range (sel st R).length) = true := by
  obtain ⟨hn, hcl⟩ := clos_get hc
  have hl : (sel st R).length = R.length := by simp [sel]
  unfold Gv.closB
  rw [Bool.and_eq_true, hl]
  constructor
  · have : ∀ {R : List Nat}, R.Nodup → nodB R = true := fun {R} h => by
      induction R with
      | nil => rfl
      | cons x R ih =>
        rw [List.nodup_cons] at h
        simp [nodB, ih h.2, h.1]
    exact this List.nodup_range
  · rw [List.all_eq_true]
    intro k hk
    have hk' := List.mem_range.mp hk
    obtain ⟨o, ho, hs⟩ := hcl R[k] (List.getElem_mem hk')
    rw [sel_get (List.getElem?_eq_getElem hk') ho]
    refine subB_of fun y hy => ?_
    have key : ∀ (ds : List D), (∀ i ∈ objsL ds, i ∈ R) → ∀ y ∈ objsL (renL (idx R) ds), y < R.length := by
      have key2 : ∀ n, (∀ d : D, sizeOf d < n → (∀ i ∈ d.objs, i ∈ R) → ∀ y ∈ (d.ren (idx R)).objs, y < R.length) ∧ ∀ ds : List D, sizeOf ds < n → (∀ i ∈ objsL ds, i ∈ R) → ∀ y ∈ objsL (renL (idx R) ds), y < R.length := by
        intro n
        induction n with
        | zero => exact ⟨fun _ h => by omega, fun _ h => by omega⟩
        | succ n ih =>
          refine ⟨fun d hd q y hy => ?_, fun ds hd q y hy => ?_⟩
          · cases d with
            | tup xs => simp only [D.ren, D.objs] at hy q; exact ih.2 xs (by simp at hd; omega) q y hy
            | obj i =>
              simp only [D.ren, D.objs, List.mem_singleton] at hy q
              rw [hy]
              exact (List.getElem?_eq_some_iff.mp (idx_get (q i rfl))).1
            | _ => simp [D.ren, D.objs] at hy
          · cases ds with
            | nil => simp [renL, objsL] at hy
            | cons x xs =>
              simp at hd
              simp only [renL, objsL, List.mem_append] at hy q
              rcases hy with hy | hy
              · exact ih.1 x (by omega) (fun i hi => q i (.inl hi)) y hy
              · exact ih.2 xs (by omega) (fun i hi => q i (.inr hi)) y hy
      exact fun ds => (key2 (sizeOf ds + 1)).2 ds (by omega)
    refine List.mem_range.mpr ?_
    cases o with
    | lst xs => exact key xs hs y hy
    | fls xs => exact key xs hs y hy
    | dK kvs => refine key (kvs.map fun p : Key × D => p.2) (fun i hi => hs i hi) y ?_; rw [← (ren_keys (idx R) kvs).2]; exact hy
    | dT kvs => refine key (kvs.map fun p : List Key × D => p.2) (fun i hi => hs i hi) y ?_; rw [← (ren_keys (idx R) kvs).2]; exact hy
/-- a call on what its arguments reach -/
theorem call_ok {dr : Bool} {f : FnD} {vf : VF} (hf : SoundF dr f vf) {loc2 : Loc} (h2 : loc2.isSome = dr) (h3 : ∀ p, loc2 = some p → loc = some p) (hr : Rps st ds vs G) (nd : ∀ k ∈ G, NotDr loc k) (hw : Wd loc st w) (hc : okC vs = true) {wc : Wo} (hwc : dr = true → wc = w) :
    match vf vs wc with
    | .ok x w' => ∃ d st' G', callX f (dargs loc2 ds) st = .ok d st' ∧ Rp st' d x G' ∧ (∀ k ∈ G', NotDr loc k) ∧ (∀ k ∈ G', st.length ≤ k ∨ k ∈ G) ∧ Ext loc st st' ∧ Wd loc st' (if dr then w' else w)
    | .er x w' => ∃ ex st', callX f (dargs loc2 ds) st = .er ex st' ∧ Rx ex x ∧ Ext loc st st' ∧ Wd loc st' (if dr then w' else w)
    | .no => True := by
  have hlen := okC_len hr hc
  -- what is reached
  have hsz : ∃ k, SzA st [] (objsL (dargs loc2 ds)) k ∧ k ≤ G.length + 2 := by
    cases loc2 with
    | none => exact ⟨G.length, hr.sz, by omega⟩
    | some p =>
      obtain ⟨i, j⟩ := p
      obtain ⟨hij, e1, e2⟩ := hw i j (h3 _ rfl)
      have hj : SzA st [] [j] 1 := SzA.exp (a := 0) (b := 0) e2 rfl (by simp [Ob.objs, Ob.vals, objsL_ints]; exact .nil) .nil
      have : SzA st [] [i] 2 := SzA.exp (a := 1) (b := 0) e1 rfl (by simpa [Ob.objs, Ob.vals, objsL, D.objs] using hj) .nil
      refine ⟨2 + G.length, ?_, by omega⟩
      have := this.app hr.sz
      exact this
  obtain ⟨k0, hsz, hk0⟩ := hsz
  have RR := reach_ok 1000000 (objsL (dargs loc2 ds)) [] k0 hsz (by omega) (fun _ h => nomatch h) List.nodup_nil (fun _ h => nomatch h)
  have hcs := RR.closB
  have hms := RR.mutB
  obtain ⟨hnd, hcl⟩ := clos_get hcs
  have hGR : ∀ k ∈ G, k ∈ reachF st 1000000 (objsL (dargs loc2 ds)) [] := by
    generalize reachF st 1000000 (objsL (dargs loc2 ds)) [] = R at RR hcs hnd hcl
    have td : ∀ y ∈ objsL ds, y ∈ R := fun y hy => RR.td y (by
      cases loc2 with
      | none => exact hy
      | some p => exact List.mem_append_right _ hy)
    have key : ∀ {ds vs G}, Rps st ds vs G → (∀ y ∈ objsL ds, y ∈ R) → ∀ k ∈ G, k ∈ R := fun {ds vs G} h => by
      induction h with
      | nil => simp
      | non r ih => intro q; exact ih (by simpa [objsL, D.objs] using q)
      | bl b r ih => intro q; exact ih (by simpa [objsL, D.objs] using q)
      | int b r ih => intro q; exact ih (by simpa [objsL, D.objs] using q)
      | str b r ih => intro q; exact ih (by simpa [objsL, D.objs] using q)
      | tup h r ih1 ih2 =>
        intro q k hk
        simp only [objsL, D.objs, List.mem_append] at q
        exact (List.mem_append.mp hk).elim (ih1 (fun y hy => q y (.inl hy)) k) (ih2 (fun y hy => q y (.inr hy)) k)
      | lst hk' h r ih1 ih2 =>
        intro q k hk
        simp only [objsL, D.objs, List.singleton_append, List.mem_cons] at q
        have hkR := q _ (.inl rfl)
        obtain ⟨o, a, b⟩ := hcl _ hkR
        rw [hk'] at a
        cases a
        rcases List.mem_cons.mp hk with rfl | hk
        · exact hkR
        · exact (List.mem_append.mp hk).elim (ih1 (fun y hy => b y hy) k) (ih2 (fun y hy => q y (.inr hy)) k)
      | dK hk' _ h r ih1 ih2 =>
        intro q k hk
        simp only [objsL, D.objs, List.singleton_append, List.mem_cons] at q
        have hkR := q _ (.inl rfl)
        obtain ⟨o, a, b⟩ := hcl _ hkR
        rw [hk'] at a
        cases a
        rcases List.mem_cons.mp hk with rfl | hk
        · exact hkR
        · exact (List.mem_append.mp hk).elim (ih1 (fun y hy => b y hy) k) (ih2 (fun y hy => q y (.inr hy)) k)
      | dT hk' _ h r ih1 ih2 =>
        intro q k hk
        simp only [objsL, D.objs, List.singleton_append, List.mem_cons] at q
        have hkR := q _ (.inl rfl)
        obtain ⟨o, a, b⟩ := hcl _ hkR
        rw [hk'] at a
        cases a
        rcases List.mem_cons.mp hk with rfl | hk
        · exact hkR
        · exact (List.mem_append.mp hk).elim (ih1 (fun y hy => b y hy) k) (ih2 (fun y hy => q y (.inr hy)) k)
    exact key hr td
  -- only these and the drawer
  have hRG : ∀ k ∈ reachF st 1000000 (objsL (dargs loc2 ds)) [], k ∈ G ∨ ∃ i j, loc2 = some (i, j) ∧ (k = i ∨ k = j) := RR.P (fun k => k ∈ G ∨ ∃ i j, loc2 = some (i, j) ∧ (k = i ∨ k = j)) (fun _ h => nomatch h) (fun x hx => by
    cases loc2 with
    | none => exact .inl (hr.objs x hx)
    | some p =>
      obtain ⟨i, j⟩ := p
      rcases List.mem_cons.mp hx with rfl | hx
      · exact .inr ⟨_, j, rfl, .inl rfl⟩
      · exact .inl (hr.objs x hx)) (fun x o hx ho y hy => by
    rcases hx with hx | ⟨i, j, e, rfl | rfl⟩
    · exact .inl (hr.under x hx o ho y hy)
    · obtain ⟨_, e1, _⟩ := hw x j (h3 _ e)
      rw [ho] at e1
      cases e1
      simp [Ob.objs, Ob.vals, objsL, D.objs] at hy
      exact .inr ⟨x, j, e, .inr hy⟩
    · obtain ⟨_, _, e1⟩ := hw i x (h3 _ e)
      rw [ho] at e1
      cases e1
      simp [Ob.objs, Ob.vals, objsL_ints] at hy)
  have hsum := RR.sum
  have htd := RR.td
  generalize hR : reachF st 1000000 (objsL (dargs loc2 ds)) [] = R at RR hcs hms hnd hcl hGR hRG hsum htd
  have hdr : ∀ i j, loc2 = some (i, j) → i ∈ R ∧ j ∈ R := fun i j e => by
    have hi : i ∈ R := htd i (by rw [e]; exact List.mem_cons_self)
    obtain ⟨o, a, b⟩ := hcl i hi
    obtain ⟨_, e1, _⟩ := hw i j (h3 _ e)
    rw [a] at e1
    cases e1
    exact ⟨hi, b j (by simp [Ob.objs, Ob.vals, objsL, D.objs])⟩
  -- the called def's own world
  let loc' : Loc := loc2.map fun p => (idx R p.1, idx R p.2)
  have hl' : loc'.isSome = dr := by rw [← h2]; cases loc2 <;> rfl
  have hr' : Rps (sel st R) (renL (idx R) ds) vs (G.map (idx R)) := hr.ren _ fun k hk o ho => sel_get (idx_get (hGR k hk)) ho
  have nd' : ∀ k ∈ G.map (idx R), NotDr loc' k := fun k hk i j q => by
    obtain ⟨k', hk', rfl⟩ := List.mem_map.mp hk
    cases h : loc2 with
    | none => simp only [loc', h] at q; cases q
    | some p =>
      obtain ⟨a, b⟩ := p
      simp only [loc', h] at q
      cases q
      have := nd k' hk' a b (h3 _ h)
      exact ⟨fun z => this.1 (idx_inj (hGR k' hk') (hdr a b h).1 z), fun z => this.2 (idx_inj (hGR k' hk') (hdr a b h).2 z)⟩
  have hw' : Wd loc' (sel st R) wc := fun i j q => by
    cases h : loc2 with
    | none => simp only [loc', h] at q; cases q
    | some p =>
      obtain ⟨a, b⟩ := p
      simp only [loc', h] at q
      cases q
      have : wc = w := hwc (by rw [← h2, h]; rfl)
      subst this
      obtain ⟨x1, x2, x3⟩ := hw a b (h3 _ h)
      refine ⟨fun z => x1 (idx_inj (hdr a b h).1 (hdr a b h).2 z), ?_, ?_⟩
      · rw [sel_get (idx_get (hdr a b h).1) x2]; simp [Ob.ren, renL, D.ren]
      · rw [sel_get (idx_get (hdr a b h).2) x3]; simp [Ob.ren, renL_ints]
  have hs' : StOk (sel st R) := ⟨clos_sel hcs, by rw [refs_sel]; simp [sumO] at hsum; simp only [sumO]; omega⟩
  have H := hf loc' (sel st R) (renL (idx R) ds) vs wc _ hl' hr' nd' hw' hs'
  have ea : renL (idx R) (dargs loc2 ds) = dargs loc' (renL (idx R) ds) := by
    cases h : loc2 with
    | none => simp [loc', h, dargs]
    | some p => obtain ⟨a, b⟩ := p; simp [loc', h, dargs, renL, D.ren]
  have hcond : (closB st R && mutB st R && subB (objsL (dargs loc2 ds)) R) = true := by rw [hcs, hms, subB_of htd]; rfl
  have hsl : (sel st R).length = R.length := by simp [sel]
  have ext : ∀ {s' : Sto}, Ext loc' (sel st R) s' → Ext loc st (merge st s' R) := fun {s'} e => by
    refine ⟨by unfold merge; rw [List.length_append, wrB_len]; omega, fun k hk q => merge_same hcs hk fun hm => e.same _ ?_ fun i j z => ?_⟩
    · rw [hsl]; exact (List.getElem?_eq_some_iff.mp (idx_get hm)).1
    · cases h : loc2 with
      | none => simp only [loc', h] at z; cases z
      | some p =>
        obtain ⟨a, b⟩ := p
        simp only [loc', h] at z
        cases z
        exact fun y => q a b (h3 _ h) (idx_inj hm (hdr a b h).1 y)
  have wd : ∀ {s' : Sto} {w' : Wo}, Ext loc' (sel st R) s' → Wd loc' s' w' → Wd loc (merge st s' R) (if dr then w' else w) := fun {s' w'} e q i j z => by
    have hle : R.length ≤ s'.length := by rw [← hsl]; exact e.le
    cases h : loc2 with
    | none =>
      have : dr = false := by rw [← h2, h]; rfl
      subst this
      simp only [Bool.false_eq_true, if_false]
      obtain ⟨x1, x2, x3⟩ := hw i j z
      have l := hw.lt z
      have ni : i ∉ R := fun hi => (hRG i hi).elim (fun hg => (nd i hg i j z).1 rfl) fun ⟨a, b, q, _⟩ => by rw [h] at q; cases q
      have nj : j ∉ R := fun hi => (hRG j hi).elim (fun hg => (nd j hg i j z).2 rfl) fun ⟨a, b, q, _⟩ => by rw [h] at q; cases q
      exact ⟨x1, by rw [merge_same hcs l.1 fun hm => absurd hm ni]; exact x2, by rw [merge_same hcs l.2 fun hm => absurd hm nj]; exact x3⟩
    | some p =>
      obtain ⟨a, b⟩ := p
      have e1 := h3 _ h
      rw [z] at e1
      cases e1
      have : dr = true := by rw [← h2, h]; rfl
      subst this
      simp only [if_true]
      have q' := q (idx R i) (idx R j) (by simp only [loc', h, Option.map_some])
      refine ⟨(hw i j z).1, ?_, ?_⟩
      · have := merge_get hcs hle q'.2.1
        rw [up_idx (hdr i j h).1] at this
        rw [this]
        simp [Ob.ren, renL, D.ren, up_idx (hdr i j h).2]
      · have := merge_get hcs hle q'.2.2
        rw [up_idx (hdr i j h).2] at this
        rw [this]
        simp [Ob.ren, renL_ints]
  have call : callX f (dargs loc2 ds) st = match f (dargs loc' (renL (idx R) ds)) (sel st R) with
    | .ok x s => .ok (x.ren (upI st.length R)) (merge st s R)
    | .er e s => .er ⟨e.cls, e.code.ren (upI st.length R), e.place.ren (upI st.length R)⟩ (merge st s R)
    | .no => .no := by
    unfold callX
    rw [hR]
    dsimp only
    rw [if_pos hcond, ea]
    try (cases f (dargs loc' (renL (idx R) ds)) (sel st R) <;> rfl)
  cases hv : vf vs wc with
  | no => trivial
  | er x w' =>
    rw [hv] at H
    obtain ⟨ex, s', e1, rx, e2, q2⟩ := H
    obtain ⟨r1, r2, _⟩ := rx_ren rx (upI st.length R)
    dsimp only
    rw [call, e1]
    exact ⟨ex, _, by simp only [r1, r2], rx, ext e2, wd e2 q2⟩
  | ok x w' =>
    rw [hv] at H
    obtain ⟨d, s', G', e1, rp, n2, e2, q2⟩ := H
    have hle : R.length ≤ s'.length := by rw [← hsl]; exact e2.le
    dsimp only
    rw [call, e1]
    -- where they come from
    have from' : ∀ k ∈ G', (k < R.length ∧ upI st.length R k ∈ G) ∨ (R.length ≤ k ∧ upI st.length R k = st.length + (k - R.length)) := fun k hk => by
      by_cases hkl : k < R.length
      · refine .inl ⟨hkl, ?_⟩
        have e : R[k]? = some R[k] := List.getElem?_eq_getElem hkl
        have eu : upI st.length R k = R[k] := by simp only [upI, e]
        rw [eu]
        rcases hRG R[k] (List.mem_of_getElem? e) with h | ⟨a, b, h, h'⟩
        · exact h
        · have n3 := n2 k hk (idx R a) (idx R b) (by simp only [loc', h, Option.map_some])
          rcases h' with h' | h'
          · exact absurd (by rw [← h']; exact (idx_of hnd e).symm) n3.1
          · exact absurd (by rw [← h']; exact (idx_of hnd e).symm) n3.2
      · refine .inr ⟨by omega, ?_⟩
        have e : R[k]? = none := List.getElem?_eq_none (by omega)
        simp only [upI, e]
    refine ⟨_, _, G'.map (upI st.length R), rfl, Rp.ren rp _ fun k hk o ho => merge_get hcs hle ho, fun k hk => ?_, fun k hk => ?_, ext e2, wd e2 q2⟩
    · obtain ⟨k', hk', rfl⟩ := List.mem_map.mp hk
      rcases from' k' hk' with ⟨_, h⟩ | ⟨_, h⟩
      · exact nd _ h
      · rw [h]; exact hw.fresh (by omega)
    · obtain ⟨k', hk', rfl⟩ := List.mem_map.mp hk
      rcases from' k' hk' with ⟨_, h⟩ | ⟨_, h⟩
      · exact .inr h
      · rw [h]; exact .inl (by omega)
theorem post_call {dr : Bool} {f : FnD} {vf : VF} (hf : SoundF dr f vf) {loc2 : Loc} (h2 : loc2.isSome = dr) (h3 : ∀ p, loc2 = some p → loc = some p) (hr : Rps s1 ds vs G) (px : Fp loc F st al G) (e : Ext loc st s1) (hw : Wd loc s1 w) :
    PostR (RpF false st.length) loc F st al (callX f (dargs loc2 ds) s1) (if okC vs = true then (if dr then vf vs w else keepW w (vf vs wZ)) else .no) := by
  by_cases hc : okC vs = true
  · rw [if_pos hc]
    cases dr with
    | true =>
      have H := call_ok hf h2 h3 hr px.1 hw hc (fun _ => rfl)
      simp only [if_true]
      cases hv : vf vs w with
      | no => trivial
      | er x w' =>
        rw [hv] at H
        obtain ⟨ex, s', e1, rx, e2, q2⟩ := H
        exact ⟨ex, s', e1, rx, e.trans e2, q2⟩
      | ok x w' =>
        rw [hv] at H
        obtain ⟨d, s', G', e1, rp, n2, al2, e2, q2⟩ := H
        have fp : Fp loc F st al G' := ⟨n2, fun k hk => (al2 k hk).elim (fun h => .inl (Nat.le_trans e.le h)) fun h => px.2 k h⟩
        exact ⟨d, s', G', e1, ⟨rp, fun q => nomatch q⟩, fp, e.trans e2, q2⟩
    | false =>
      have H := call_ok hf h2 h3 hr px.1 hw hc (wc := wZ) (fun h => nomatch h)
      simp only [Bool.false_eq_true, if_false]
      cases hv : vf vs wZ with
      | no => trivial
      | er x w' =>
        rw [hv] at H
        obtain ⟨ex, s', e1, rx, e2, q2⟩ := H
        exact ⟨ex, s', e1, rx, e.trans e2, q2⟩
      | ok x w' =>
        rw [hv] at H
        obtain ⟨d, s', G', e1, rp, n2, al2, e2, q2⟩ := H
        have fp : Fp loc F st al G' := ⟨n2, fun k hk => (al2 k hk).elim (fun h => .inl (Nat.le_trans e.le h)) fun h => px.2 k h⟩
        exact ⟨d, s', G', e1, ⟨rp, fun q => nomatch q⟩, fp, e.trans e2, q2⟩
  · rw [if_neg hc]; trivial
theorem se_x {f : FnD} {vf : VF} (hf : SoundF false f vf) {aa : AD} {vaa : VA} (ha : SoundA dl aa vaa al) : SoundE dl (dX f aa) (vX vf vaa) al false := fun loc st en ve w F r =>
  (ha loc st en ve w F r).bind fun ds s1 vs w1 G hx px e1 q1 => post_call (loc2 := none) hf rfl (fun _ h => nomatch h) hx px e1 q1
theorem se_xd {f : FnD} {vf : VF} {l : Nat} (hf : SoundF true f vf) {aa : AD} {vaa : VA} (ha : SoundA (some l) aa vaa al) : SoundE (some l) (dX f (dCons (dV l) aa)) (vXd vf vaa) al false := fun loc st en ve w F r => by
  obtain ⟨i, j, hl, hen, _⟩ := r.ds l rfl
  have hdv : ∀ s, dV l en s = .ok (.obj i) s := fun s => by unfold dV; rw [hen]
  have e0 : dX f (dCons (dV l) aa) en st = (aa en st).bind fun ds s1 => callX f (dargs loc ds) s1 := by
    simp only [dX, dCons, hdv, Re.bind_ok, dargs, hl]
    cases aa en st <;> rfl
  rw [e0]
  exact (ha loc st en ve w F r).bind fun ds s1 vs w1 G hx px e1 q1 => post_call (loc2 := loc) (dr := true) hf (by rw [hl]; rfl) (fun _ h => h) hx px e1 q1
end
end Gv
namespace Gv
open PySem PySem.Spec L2

/-! ### a slot is forgotten -/
def sClr (i : Nat) (d : SD) : SD := fun en st => match d en st with
  | .nx en' s => .nx (en'.set i none) s
  | .bk en' s => .no
  | .ct en' s => .no
  | r => r
theorem RE.clr {K : PySem.W.Frag} {as : List Addr} {H : Hp} {σ : St} {en : En} (r : RE K as H σ en) (i : Nat) : RE K as H σ (en.set i none) := ⟨by simpa using r.len, fun j d h => by
  by_cases e : i = j
  · subst e
    by_cases hl : i < en.length
    · rw [List.getElem?_set_self hl] at h; cases h
    · rw [List.getElem?_eq_none (by rw [List.length_set]; omega)] at h; cases h
  · rw [List.getElem?_set_ne e] at h
    exact r.at' j d h⟩
theorem gs_clr {X : Cx} {T : Nat → Addr} {W : WX} {s : Stmt} {d : SD} (i : Nat) (h : PS X s (tS X.K T W d)) : PS X s (tS X.K T W (sClr i d)) := by
  refine ps_mono h fun D σ H ⟨en, st, as, rs, re, q⟩ => ⟨en, st, as, rs, re, ?_⟩
  unfold sClr at q
  cases e : d en st with
  | nx en' s' =>
    rw [e] at q
    exact fun σ' H' as' a b c => q σ' H' as' a b (c.clr i)
  | rt => rw [e] at q; exact q
  | bk => rw [e] at q; exact q.elim
  | ct => rw [e] at q; exact q.elim
  | er => rw [e] at q; exact q
  | no => rw [e] at q; exact q
/-! ### draws, to the number -/
def tailW (m : Int) (cells : List Int) (p : Nat) (g s : Int) : Int × Wo := if 0 < g then (g % m, ⟨cells, p, g / m, s⟩) else (((s * 48271 + 17) % 2147483647 / 11) % m, ⟨cells, p, g, (s * 48271 + 17) % 2147483647⟩)
def absI (i : Int) : Int := if i < 0 then -i else i
def drawW (m : Int) (w : Wo) : Int × Wo := match w.cells[w.p]? with
  | some c => if w.g = 0 then (if absI c < 1000000000000000000 then (absI c % m, ⟨w.cells, w.p + 1, 0, w.s⟩) else tailW m w.cells (w.p + 1) (absI c) w.s) else tailW m w.cells w.p w.g w.s
  | none => tailW m w.cells w.p w.g w.s
theorem tailW_lt {m : Int} (hm : 0 < m) (cells : List Int) (p : Nat) (g s : Int) : 0 ≤ (tailW m cells p g s).1 ∧ (tailW m cells p g s).1 < m := by
  have hm3 : m ≠ 0 := by omega
  unfold tailW
  split
  · exact ⟨Int.emod_nonneg _ hm3, Int.emod_lt_of_pos _ hm⟩
  · exact ⟨Int.emod_nonneg _ hm3, Int.emod_lt_of_pos _ hm⟩
theorem drawW_lt {m : Int} (hm : 0 < m) (w : Wo) : 0 ≤ (drawW m w).1 ∧ (drawW m w).1 < m := by
  have hm3 : m ≠ 0 := by omega
  unfold drawW
  split
  · split
    · split
      · exact ⟨Int.emod_nonneg _ hm3, Int.emod_lt_of_pos _ hm⟩
      · exact tailW_lt hm _ _ _ _
    · exact tailW_lt hm _ _ _ _
  · exact tailW_lt hm _ _ _ _
def okM (m : Int) : Bool := decide (0 < m) && decide (m < 1073741824)
def gDraw (m : Int) (w : Wo) : VR Vl := if okM m = true then .ok (.int (drawW m w).1) (drawW m w).2 else .no
/-- a draw: some number below m -/
theorem draw_any {m : Int} (hm : 0 < m) (h2 : m < 1073741824) (w : Wo) : ∃ r w', gDraw m w = .ok (.int r) w' ∧ 0 ≤ r ∧ r < m := by
  have h : okM m = true := by simp [okM, hm, h2]
  exact ⟨_, _, if_pos h, drawW_lt hm w⟩
/-- the same, a whole number -/
theorem draw_nat {m : Nat} (hm : 0 < m) (h2 : m < 1073741824) (w : Wo) : ∃ (r : Nat) (w' : Wo), gDraw m w = .ok (.int r) w' ∧ r < m := by
  obtain ⟨r, w', e, h0, h1⟩ := draw_any (m := m) (by omega) (by omega) w
  obtain ⟨n, rfl⟩ := Int.eq_ofNat_of_zero_le h0
  exact ⟨n, w', e, by omega⟩
def miniW (w : Wo) : Sto := mini w.p w.g w.s w.cells
theorem tail_raw' {m : Int} (hm : 0 < m) (hm2 : m < 1073741824) (p : Nat) (g s : Int) (cells : List Int) (x : Option D) :
    tk1 [some (.obj 0), some (.int m), x, none] (mini p g s cells) = .rt (.int (tailW m cells p g s).1) (miniW (tailW m cells p g s).2) := by
  by_cases h1 : 0 < g
  · simp [dFn, sSeq, sIf, sSub, sSet, sRet, sRetN, sEx, sSkip, sUn, sPar, sPar3, sBrk, sCt, uN, uT2, uT3, uT4, bAnd, bOr, bNot, bCmp, bChain, bTru, bYes, truD, dAnd, dOr, dNot, dOp, dUn, dV, dC, dCB, dCons, dNil, dTup, dLst, dIf, dChain, dNewK, dNewT, dM, isL, fIx, fInt1, fIntC, fInt, fLt, fLe, fGt, fGe, fSub, fDiv, fMod, fMul, fAdd, fXor, fAnd, fOr, fShl, fShr, fPow, fNeg, fEq, fNe, fAbs, fLen, fMax2, fMin2, fAppend, fExtend, fPop, setV, tk1, mini, miniW, tailW, L2.atI, L2.ixN, h1, hm, hm2]
  · simp [dFn, sSeq, sIf, sSub, sSet, sRet, sRetN, sEx, sSkip, sUn, sPar, sPar3, sBrk, sCt, uN, uT2, uT3, uT4, bAnd, bOr, bNot, bCmp, bChain, bTru, bYes, truD, dAnd, dOr, dNot, dOp, dUn, dV, dC, dCB, dCons, dNil, dTup, dLst, dIf, dChain, dNewK, dNewT, dM, isL, fIx, fInt1, fIntC, fInt, fLt, fLe, fGt, fGe, fSub, fDiv, fMod, fMul, fAdd, fXor, fAnd, fOr, fShl, fShr, fPow, fNeg, fEq, fNe, fAbs, fLen, fMax2, fMin2, fAppend, fExtend, fPop, setV, tk1, cmul_r, mini, miniW, tailW, L2.atI, L2.ixN, h1, hm, hm2]
theorem raw_of' {m : Int} {p p' : Nat} {g s g' s' : Int} {cells : List Int} (hm : 0 < m) (hm2 : m < 1073741824) (e : tk0 [some (.obj 0), some (.int m), none, none] (mini p g s cells) = .nx [some (.obj 0), some (.int m), none, none] (mini p' g' s' cells)) :
    take_raw [.obj 0, .int m] (mini p g s cells) = .ok (.int (tailW m cells p' g' s').1) (miniW (tailW m cells p' g' s').2) := by
  have e2 := tail_raw' hm hm2 p' g' s' cells none
  simp only [take_raw, dFn, List.length_cons, List.length_nil, if_true, List.map_cons, List.map_nil, List.cons_append, List.nil_append, List.replicate, sSeq, e, e2]
theorem take_run' {m : Int} (hm : 0 < m) (hm2 : m < 1073741824) (w : Wo) : take_raw [.obj 0, .int m] (miniW w) = .ok (.int (drawW m w).1) (miniW (drawW m w).2) := by
  obtain ⟨cells, p, g, s⟩ := w
  have hm3 : m ≠ 0 := by omega
  have ea : ∀ y : Int, (if y < 0 then D.int (-y) else D.int y) = D.int (absI y) := fun y => by unfold absI; split <;> rfl
  have ea2 : ∀ y : Int, (if y < 0 then -y else y) = absI y := fun y => rfl
  unfold drawW
  dsimp only
  by_cases h1 : g = 0
  · subst h1
    by_cases h2 : p < cells.length
    · rw [List.getElem?_eq_getElem h2]
      dsimp only
      rw [if_pos rfl]
      by_cases h3 : absI cells[p] < 1000000000000000000
      · rw [if_pos h3]
        simp [dFn, sSeq, sIf, sSub, sSet, sRet, sRetN, sEx, sSkip, sUn, sPar, sPar3, sBrk, sCt, uN, uT2, uT3, uT4, bAnd, bOr, bNot, bCmp, bChain, bTru, bYes, truD, dAnd, dOr, dNot, dOp, dUn, dV, dC, dCB, dCons, dNil, dTup, dLst, dIf, dChain, dNewK, dNewT, dM, isL, fIx, fInt1, fIntC, fInt, fLt, fLe, fGt, fGe, fSub, fDiv, fMod, fMul, fAdd, fXor, fAnd, fOr, fShl, fShr, fPow, fNeg, fEq, fNe, fAbs, fLen, fMax2, fMin2, fAppend, fExtend, fPop, setV, take_raw, tk0, miniW, mini, h2, hm, hm2, cpow18]
        simp [L2.atI, L2.ixN, h2, ea, ea2, h3, hm, hm3]
      · rw [if_neg h3]
        refine raw_of' hm hm2 ?_
        simp [dFn, sSeq, sIf, sSub, sSet, sRet, sRetN, sEx, sSkip, sUn, sPar, sPar3, sBrk, sCt, uN, uT2, uT3, uT4, bAnd, bOr, bNot, bCmp, bChain, bTru, bYes, truD, dAnd, dOr, dNot, dOp, dUn, dV, dC, dCB, dCons, dNil, dTup, dLst, dIf, dChain, dNewK, dNewT, dM, isL, fIx, fInt1, fIntC, fInt, fLt, fLe, fGt, fGe, fSub, fDiv, fMod, fMul, fAdd, fXor, fAnd, fOr, fShl, fShr, fPow, fNeg, fEq, fNe, fAbs, fLen, fMax2, fMin2, fAppend, fExtend, fPop, setV, tk0, mini, h2, hm, hm2, cpow18]
        simp [L2.atI, L2.ixN, h2, ea, ea2, h3, hm, hm3]
    · rw [List.getElem?_eq_none (by omega)]
      refine raw_of' hm hm2 ?_
      simp [dFn, sSeq, sIf, sSub, sSet, sRet, sRetN, sEx, sSkip, sUn, sPar, sPar3, sBrk, sCt, uN, uT2, uT3, uT4, bAnd, bOr, bNot, bCmp, bChain, bTru, bYes, truD, dAnd, dOr, dNot, dOp, dUn, dV, dC, dCB, dCons, dNil, dTup, dLst, dIf, dChain, dNewK, dNewT, dM, isL, fIx, fInt1, fIntC, fInt, fLt, fLe, fGt, fGe, fSub, fDiv, fMod, fMul, fAdd, fXor, fAnd, fOr, fShl, fShr, fPow, fNeg, fEq, fNe, fAbs, fLen, fMax2, fMin2, fAppend, fExtend, fPop, setV, tk0, mini, h2, hm, hm2, cpow18, L2.atI, L2.ixN]
  · have : (match cells[p]? with
      | some c => if g = 0 then (if absI c < 1000000000000000000 then (absI c % m, (⟨cells, p + 1, 0, s⟩ : Wo)) else tailW m cells (p + 1) (absI c) s) else tailW m cells p g s
      | none => tailW m cells p g s) = tailW m cells p g s := by
      split
      · rw [if_neg h1]
      · rfl
    rw [this]
    refine raw_of' hm hm2 ?_
    simp [dFn, sSeq, sIf, sSub, sSet, sRet, sRetN, sEx, sSkip, sUn, sPar, sPar3, sBrk, sCt, uN, uT2, uT3, uT4, bAnd, bOr, bNot, bCmp, bChain, bTru, bYes, truD, dAnd, dOr, dNot, dOp, dUn, dV, dC, dCB, dCons, dNil, dTup, dLst, dIf, dChain, dNewK, dNewT, dM, isL, fIx, fInt1, fIntC, fInt, fLt, fLe, fGt, fGe, fSub, fDiv, fMod, fMul, fAdd, fXor, fAnd, fOr, fShl, fShr, fPow, fNeg, fEq, fNe, fAbs, fLen, fMax2, fMin2, fAppend, fExtend, fPop, setV, tk0, mini, h1, L2.atI, L2.ixN]
theorem take_cl' {m : Int} (hm : 0 < m) (hm2 : m < 1073741824) (w : Wo) : b_take [.obj 0, .int m] (miniW w) = .ok (.int (drawW m w).1) (miniW (drawW m w).2) := by
  show canon 2 (take_raw _ _) = _
  rw [take_run' hm hm2, miniW, canon_mini]
theorem draw_cells (m : Int) (w : Wo) : (drawW m w).2.cells = w.cells := by
  have : ∀ p g s, (tailW m w.cells p g s).2.cells = w.cells := fun p g s => by unfold tailW; split <;> rfl
  unfold drawW
  split
  · split
    · split
      · rfl
      · exact this _ _ _
    · exact this _ _ _
  · exact this _ _ _
theorem draw' {st : Sto} {i j : Nat} {m : Int} {w : Wo} (h : Wd (some (i, j)) st w) (hm : 0 < m) (hm2 : m < 1073741824) : ∃ o, callX b_take [.obj i, .int m] st = .ok (.int (drawW m w).1) (st.set i o) ∧ Wd (some (i, j)) (st.set i o) (drawW m w).2 := by
  obtain ⟨hij, h1, h2⟩ := h i j rfl
  have hi := (List.getElem?_eq_some_iff.mp h1).1
  have hj := (List.getElem?_eq_some_iff.mp h2).1
  have e := take_cl' hm hm2 w
  have hc := draw_cells m w
  generalize drawW m w = q at e hc
  obtain ⟨r, cells', p', g', s'⟩ := q
  dsimp only at e hc ⊢
  subst hc
  refine ⟨.lst [.obj j, .int p', .int g', .int s'], ?_, fun a b z => by cases z; exact ⟨hij, List.getElem?_set_self hi, by rw [List.getElem?_set_ne hij]; exact h2⟩⟩
  unfold callX
  have eR : objsL [.obj i, .int m] = [i] := rfl
  rw [eR, reach_ds hij h1 h2]
  dsimp only
  have hd := idx_pair hij
  have hji : (i == j) = false := by simpa using hij
  have c1 : (closB st [i, j] && mutB st [i, j] && subB [i] [i, j]) = true := by
    simp [closB, nodB, mutB, subB, h1, h2, Ob.objs, Ob.vals, objsL, D.objs, objsL_ints, Ob.muB, hji, hij]
  have c2 : Gv.sel st [i, j] = miniW w := by
    simp [Gv.sel, nthO, h1, h2, Ob.ren, renL, D.ren, renL_ints, hd.2, mini, miniW]
  have c3 : renL (idx [i, j]) [.obj i, .int m] = [.obj 0, .int m] := by
    simp [renL, D.ren, hd.1]
  rw [if_pos c1, c2, c3, e]
  dsimp only
  rw [show miniW ⟨w.cells, p', g', s'⟩ = [.lst [.obj 1, .int p', .int g', .int s'], .lst (w.cells.map .int)] from rfl, merge2 hij hi hj]
  have e3 : (Ob.lst (w.cells.map D.int)).ren (upI st.length [i, j]) = .lst (w.cells.map .int) := by simp [Ob.ren, renL_ints]
  have e4 : (Ob.lst [.obj 1, .int p', .int g', .int s']).ren (upI st.length [i, j]) = .lst [.obj j, .int p', .int g', .int s'] := by simp [Ob.ren, renL, D.ren, upI]
  rw [e3, e4]
  congr 1
  apply List.ext_getElem?
  intro k
  by_cases hk : j = k
  · subst hk
    rw [List.getElem?_set_self (by rw [List.length_set]; exact hj), List.getElem?_set_ne hij, h2]
  · rw [List.getElem?_set_ne hk]
def asI (x : Vl) (f : Int → VR Vl) : VR Vl := match x with
  | .int m => f m
  | _ => .no
@[simp] theorem asI_int (i : Int) (f : Int → VR Vl) : asI (.int i) f = f i := rfl
def vDraw (a : VE) : VE := fun ve w => (a ve w).bind fun x w1 => asI x fun m => gDraw m w1
theorem se_take {l : Nat} {e : ED} {v : VE} {al : List Nat} {fr : Bool} (h : SoundE (some l) e v al fr) : SoundE (some l) (dX b_take (dCons (dV l) (dCons e dNil))) (vDraw v) [] true := fun loc st en ve w F r => by
  obtain ⟨i, j, hl, hen, _⟩ := r.ds l rfl
  subst hl
  have hdv : ∀ s, dV l en s = .ok (.obj i) s := fun s => by unfold dV; rw [hen]
  have e0 : dX b_take (dCons (dV l) (dCons e dNil)) en st = (e en st).bind fun d s1 => callX b_take [.obj i, d] s1 := by
    simp only [dX, dCons, hdv, Re.bind_ok, dNil]
    cases e en st <;> rfl
  rw [e0]
  refine (h _ st en ve w F r).bind fun d s1 x w1 G hx px e1 q1 => ?_
  cases x with
  | int m =>
    obtain ⟨rfl, _⟩ := hx.1.int_inv
    simp only [asI_int]
    by_cases hm : okM m = true
    · have hm' := hm
      simp only [okM, Bool.and_eq_true, decide_eq_true_eq] at hm'
      obtain ⟨o, e2, q2⟩ := draw' q1 hm'.1 hm'.2
      unfold gDraw
      rw [if_pos hm]
      exact ⟨_, _, [], e2, ⟨.int _ .nil, fun _ k h => nomatch h⟩, Fp.nil, e1.trans ⟨by simp, fun k _ q => List.getElem?_set_ne fun z => q i j rfl z.symm⟩, q2⟩
    · unfold gDraw
      rw [if_neg hm]; trivial
  | _ => trivial
/-! ### {k: v} -/
def vD1 (o : Vl) (a b : VE) : VE := fun ve w => (a ve w).bind fun x w1 => (b ve w1).bind fun y w2 => vre (setVl o x y) w2
abbrev vD1T := vD1 (.dT [])
abbrev vD1K := vD1 (.dK [])
section
variable {dl : Option Nat} {a b : ED} {va vb : VE} {al1 al2 : List Nat} {f1 f2 : Bool}
theorem post_d1 {o : Vl} {ob : Ob} (ho : ∀ (st : Sto) (k : Nat), st[k]? = some ob → Rp st (.obj k) o [k]) (hnl : (∀ xs, ob ≠ .lst xs) ∧ ∀ xs, ob ≠ .fls xs) (ha : SoundE dl a va al1 f1) (hb : SoundE dl b vb al2 f2) :
    SoundE dl (fun en st => (a en (st ++ [ob])).bind fun x s1 => (b en s1).bind fun y s2 => putD1 st.length x y s2) (vD1 o va vb) al2 true := fun loc st en ve w F r => by
  have e0 : Ext loc st (st ++ [ob]) := Ext.app _
  have q0 := r.wd.app [ob]
  refine ((ha loc (st ++ [ob]) en ve w F (r.ext e0 q0))).bind' e0 fun dx s1 x w1 Gx hx px e1 e01 q1 => ?_
  have H := hb loc s1 en ve w1 F (r.ext e01 q1)
  cases hv : vb ve w1 with
  | no => trivial
  | er x w' =>
    rw [hv] at H
    obtain ⟨ex, s, e, b, c, f⟩ := H
    rw [e]
    exact ⟨ex, s, rfl, b, e01.trans c, f⟩
  | ok y w2 =>
    rw [hv] at H
    obtain ⟨dy, s2, Gy, e, hy, py, e12, q2⟩ := H
    rw [e]
    simp only [VR.bind_ok, Re.bind_ok]
    have nd : NotDr loc st.length := r.wd.fresh (Nat.le_refl _)
    have hl1 : st.length < s1.length := Nat.lt_of_lt_of_le (by simp) e1.le
    have hn : s2[st.length]? = some ob := by
      rw [e12.same _ hl1 fun i j q => (nd i j q).1, e1.same _ (by simp) fun i j q => (nd i j q).1]
      simp
    have hnG : st.length ∉ Gy := fun z => by
      rcases py.2 _ z with h | ⟨i, _, h⟩
      · omega
      · have := r.lt h; omega
    cases hs : setVl o x y with
    | none => trivial
    | some o' =>
      obtain ⟨ob', C, h1, h2, h3⟩ := setVl_ok (E := []) (ho s2 st.length hn) (hx.1.ext px.1 e12) hy.1 (fun h => nomatch h) hnG hs
      have hp : putD1 st.length dx dy s2 = .ok (.obj st.length) (s2.set st.length ob') := by
        unfold putD1
        simp only [setV, hn] at h1
        have inj : ∀ {o2 : Ob}, s2.set st.length o2 = s2.set st.length ob' → o2 = ob' := fun {o2} h => by
          have := congrArg (fun l : Sto => l[st.length]?) h
          simp only [List.getElem?_set_self (Nat.lt_of_lt_of_le hl1 e12.le)] at this
          exact Option.some.inj this
        rw [hn]
        cases ob with
        | lst xs => exact (hnl.1 xs rfl).elim
        | fls xs => exact (hnl.2 xs rfl).elim
        | dK kvs =>
          simp only [Option.map_eq_some_iff] at h1
          obtain ⟨o2, e2, e3⟩ := h1
          simp only [e2, e3]
        | dT kvs =>
          simp only [Option.map_eq_some_iff] at h1
          obtain ⟨o2, e2, e3⟩ := h1
          simp only [e2, e3]
      rw [hp]
      have ne : ∀ {k}, k ≠ st.length → (s2.set st.length ob')[k]? = s2[k]? := fun h => List.getElem?_set_ne fun z => h z.symm
      refine ⟨.obj st.length, s2.set st.length ob', st.length :: C, rfl, ⟨h2, fun _ k h => by cases h; exact Nat.le_refl _⟩, ⟨fun k hk => ?_, fun k hk => ?_⟩, ⟨?_, fun k hk q => ?_⟩, fun i j q => ⟨(q2 i j q).1, by rw [ne fun z => (nd i j q).1 z.symm]; exact (q2 i j q).2.1, by rw [ne fun z => (nd i j q).2 z.symm]; exact (q2 i j q).2.2⟩⟩
      · rcases List.mem_cons.mp hk with rfl | hk
        · exact nd
        · exact py.1 k ((h3 k hk).resolve_left fun h => nomatch h)
      · rcases List.mem_cons.mp hk with rfl | hk
        · exact .inl (Nat.le_refl _)
        · exact (py.2 k ((h3 k hk).resolve_left fun h => nomatch h)).imp (fun h => by omega) id
      · have := e12.le; simp; omega
      · rw [ne (by omega), e12.same k (by omega) q, e01.same k hk q]
theorem se_d1T (ha : SoundE dl a va al1 f1) (hb : SoundE dl b vb al2 f2) : SoundE dl (dD1T a b) (vD1T va vb) al2 true := post_d1 (fun st k h => Rp.dT (kds := []) (kvs := []) (G := []) h rfl .nil) ⟨fun _ h => (nomatch h), fun _ h => (nomatch h)⟩ ha hb
theorem se_d1K (ha : SoundE dl a va al1 f1) (hb : SoundE dl b vb al2 f2) : SoundE dl (dD1K a b) (vD1K va vb) al2 true := post_d1 (fun st k h => Rp.dK (kds := []) (kvs := []) (G := []) h rfl .nil) ⟨fun _ h => (nomatch h), fun _ h => (nomatch h)⟩ ha hb
end
/-! ### ranges as lists -/
def vrg (a b : Int) : List Vl := vrng a (b - a).toNat
def vLR1 (a : VE) : VE := fun ve w => (a ve w).bind fun x w1 => asI x fun n => if rgB 0 n = true then .ok (.lst (vrg 0 n)) w1 else .no
def vTR1 (a : VE) : VE := fun ve w => (a ve w).bind fun x w1 => asI x fun n => if rgB 0 n = true then .ok (.tup (vrg 0 n)) w1 else .no
def vLR2 (a b : VE) : VE := fun ve w => (a ve w).bind fun x w1 => (b ve w1).bind fun y w2 => asI x fun m => asI y fun n => if rgB m n = true then .ok (.lst (vrg m n)) w2 else .no
def vTR2 (a b : VE) : VE := fun ve w => (a ve w).bind fun x w1 => (b ve w1).bind fun y w2 => asI x fun m => asI y fun n => if rgB m n = true then .ok (.tup (vrg m n)) w2 else .no
/-- no list, no dict in it -/
def vFl (a : VE) : VE := fun ve w => (a ve w).bind fun x w1 => if x.flat = true then .ok x w1 else .no
section
variable {dl : Option Nat} {a b : ED} {va vb : VE} {al1 al2 : List Nat} {f1 f2 : Bool}
theorem rgD_rp (st : Sto) (a b : Int) : Rps st (rgD a b) (vrg a b) [] := by
  unfold rgD vrg vrng
  generalize List.range (b - a).toNat = l
  induction l with
  | nil => exact .nil
  | cons x l ih => exact .int _ ih
theorem se_fl (ha : SoundE dl a va al1 f1) : SoundE dl a (vFl va) [] f1 := fun loc st en ve w F r => by
  have h := ha loc st en ve w F r
  unfold vFl
  cases hv : va ve w with
  | no => trivial
  | er x w' => rw [hv] at h; exact h
  | ok x w' =>
    rw [hv] at h
    obtain ⟨d, s, G, e, b, c, f, g⟩ := h
    simp only [VR.bind_ok]
    by_cases hf : x.flat = true
    · rw [if_pos hf]
      have := b.1.flat hf
      subst this
      exact ⟨d, s, [], e, b, Fp.nil, f, g⟩
    · rw [if_neg hf]; trivial
theorem se_lr1 (ha : SoundE dl a va al1 f1) : SoundE dl (dLR1 a) (vLR1 va) [] true := fun loc st en ve w F r =>
  (ha loc st en ve w F r).bind fun dx s1 x w1 Gx hx px e1 q1 => by
    cases x with
    | int n =>
      obtain ⟨rfl, _⟩ := hx.1.int_inv
      simp only [asI_int]
      by_cases h : rgB 0 n = true
      · simp only [if_pos h]
        exact ⟨_, _, [s1.length], rfl, ⟨new_lst (rgD_rp s1 0 n), fun _ k h => by cases h; exact e1.le⟩, ⟨fun k hk => by rw [List.mem_singleton.mp hk]; exact q1.fresh (Nat.le_refl _), fun k hk => by rw [List.mem_singleton.mp hk]; exact .inl e1.le⟩, e1.trans (Ext.app _), q1.app _⟩
      · simp only [if_neg h]; trivial
    | _ => trivial
theorem se_tr1 (ha : SoundE dl a va al1 f1) : SoundE dl (dTR1 a) (vTR1 va) [] true := fun loc st en ve w F r =>
  (ha loc st en ve w F r).bind fun dx s1 x w1 Gx hx px e1 q1 => by
    cases x with
    | int n =>
      obtain ⟨rfl, _⟩ := hx.1.int_inv
      simp only [asI_int]
      by_cases h : rgB 0 n = true
      · simp only [if_pos h]
        exact ⟨_, _, [], rfl, ⟨Rp.tup (rgD_rp s1 0 n), fun _ k h => nomatch h⟩, Fp.nil, e1, q1⟩
      · simp only [if_neg h]; trivial
    | _ => trivial
theorem se_lr2 (ha : SoundE dl a va al1 f1) (hb : SoundE dl b vb al2 f2) : SoundE dl (dLR2 a b) (vLR2 va vb) [] true := fun loc st en ve w F r =>
  (ha loc st en ve w F r).bind fun dx s1 x w1 Gx hx px e1 q1 => (hb loc s1 en ve w1 F (r.ext e1 q1)).bind' e1 fun dy s2 y w2 Gy hy py e12 e2 q2 => by
    cases x with
    | int m =>
      cases y with
      | int n =>
        obtain ⟨rfl, _⟩ := hx.1.int_inv
        obtain ⟨rfl, _⟩ := hy.1.int_inv
        simp only [asI_int]
        by_cases h : rgB m n = true
        · simp only [if_pos h]
          exact ⟨_, _, [s2.length], rfl, ⟨new_lst (rgD_rp s2 m n), fun _ k h => by cases h; exact e2.le⟩, ⟨fun k hk => by rw [List.mem_singleton.mp hk]; exact q2.fresh (Nat.le_refl _), fun k hk => by rw [List.mem_singleton.mp hk]; exact .inl e2.le⟩, e2.trans (Ext.app _), q2.app _⟩
        · simp only [if_neg h]; trivial
      | _ => trivial
    | _ => trivial
theorem se_tr2 (ha : SoundE dl a va al1 f1) (hb : SoundE dl b vb al2 f2) : SoundE dl (dTR2 a b) (vTR2 va vb) [] true := fun loc st en ve w F r =>
  (ha loc st en ve w F r).bind fun dx s1 x w1 Gx hx px e1 q1 => (hb loc s1 en ve w1 F (r.ext e1 q1)).bind' e1 fun dy s2 y w2 Gy hy py e12 e2 q2 => by
    cases x with
    | int m =>
      cases y with
      | int n =>
        obtain ⟨rfl, _⟩ := hx.1.int_inv
        obtain ⟨rfl, _⟩ := hy.1.int_inv
        simp only [asI_int]
        by_cases h : rgB m n = true
        · simp only [if_pos h]
          exact ⟨_, _, [], rfl, ⟨Rp.tup (rgD_rp s2 m n), fun _ k h => nomatch h⟩, Fp.nil, e2, q2⟩
        · simp only [if_neg h]; trivial
      | _ => trivial
    | _ => trivial
end
/-! ### the law -/
theorem law_fin {n : Nat} {rest : SD} {vrest : VS} {O' : List Nat} (hS : SoundS (some 1) [] [] rest vrest O') (hn : 2 ≤ n) (hv : ∀ w, ∃ w', vrest (List.replicate n none) w = .rt (.bl true) w') (ns : List Int) :
    ∃ s, dFc n 1 (sSeq (sClr 0 (sSet 1 (dCall b_begin (dCons (dV 0) dNil)))) rest) [.obj 0] [.fls (ns.map .int)] = .ok (.bl true) s := by
  obtain ⟨S, e, ls, hl⟩ := begin_law ns (en := [some (.obj 0)] ++ List.replicate (n - 1) none) rfl 1
  obtain ⟨p, g, s, cells, hij, h1, h2⟩ := ls.dr.ex
  obtain ⟨w', ew⟩ := hv ⟨cells, p, g, s⟩
  let en1 : En := (([some (D.obj 0)] ++ List.replicate (n - 1) none).set 1 (some (.obj 1))).set 0 none
  have hlen : en1.length = n := by simp [en1]; omega
  have r : Rep (some (1, 2)) (some 1) S en1 (List.replicate n none) ⟨cells, p, g, s⟩ (fun _ => []) := by
    refine ⟨by simp [hlen], fun i v hv => ?_, fun _ _ => rfl, fun i j z => by cases z; exact ⟨hij, h1, h2⟩, fun i k hk => (nomatch hk), fun l hl => ?_, fun i hi hd => ?_⟩
    · have := List.mem_of_getElem? hv
      rw [List.mem_replicate] at this
      exact nomatch this.2
    · cases hl
      refine ⟨1, 2, rfl, ?_, by rw [List.getElem?_replicate, if_pos (by omega)]⟩
      show (([some (D.obj 0)] ++ List.replicate (n - 1) none).set 1 (some (.obj 1)) |>.set 0 none)[1]? = _
      rw [List.getElem?_set_ne (by decide), List.getElem?_set_self (by rw [List.length_append, List.length_replicate]; exact Nat.lt_of_lt_of_le (by decide : 1 < 2) (by simp; omega))]
    · have hi1 : i ≠ 1 := fun z => hd (by rw [z])
      have hin : i < n := by
        have := (List.getElem?_eq_some_iff.mp hi).1
        simpa using this
      by_cases h0 : i = 0
      · subst h0
        exact List.getElem?_set_self (by simp)
      · show (([some (D.obj 0)] ++ List.replicate (n - 1) none).set 1 (some (.obj 1)) |>.set 0 none)[i]? = _
        rw [List.getElem?_set_ne (fun z => h0 z.symm), List.getElem?_set_ne (fun z => hi1 z.symm)]
        have : (([some (D.obj 0)] ++ List.replicate (n - 1) none) : En)[i]? = (List.replicate (n - 1) (none : Option D))[i - 1]? := List.getElem?_append_right (by simp; omega)
        rw [this, List.getElem?_replicate]
        rw [if_pos (by omega)]
  have H := hS (some (1, 2)) S en1 _ _ _ r fun i hi => nomatch hi
  rw [ew] at H
  obtain ⟨d, st', G, e2, rp, nd, fr, wd⟩ := H
  obtain ⟨rfl, rfl⟩ := rp.bl_inv
  obtain ⟨x1, x2, x3⟩ := wd 1 2 rfl
  have ls' : LS ns st' := ⟨by rw [fr.ext.same 0 (by omega) fun i j z => by cases z; decide]; exact ls.scr, ⟨w'.p, w'.g, w'.s, w'.cells, x1, x2, x3⟩⟩
  obtain ⟨s', e3⟩ := ls'.fin
  refine ⟨s', ?_⟩
  show canon 1 (dFn n 1 _ [.obj 0] [.fls (ns.map .int)]) = _
  rw [outD_eq, if_pos (show [D.obj 0].length = 1 from rfl)]
  have e4 : sSeq (sClr 0 (sSet 1 (dCall b_begin (dCons (dV 0) dNil)))) rest ([D.obj 0].map some ++ List.replicate (n - 1) none) [.fls (ns.map .int)] = .rt (.bl true) st' := by
    unfold sSeq sClr
    have e5 : sSet 1 (dCall b_begin (dCons (dV 0) dNil)) ([D.obj 0].map some ++ List.replicate (n - 1) none) [.fls (ns.map .int)] = .nx (([some (D.obj 0)] ++ List.replicate (n - 1) none).set 1 (some (.obj 1))) S := e
    rw [e5]
    exact e2
  rw [e4]
  exact e3
end Gv
namespace Gv
open PySem PySem.Spec L2

/-! ### sorted(set(list of whole numbers)) -/
def gSS : List Vl → Option Vl
  | [d] => ((vlst d).bind vints).bind fun zs => if zs.length < 64 then some (.lst ((usort zs).map .int)) else none
  | _ => none
theorem ints_rps (st : Sto) : ∀ zs : List Int, Rps st (zs.map .int) (zs.map .int) []
  | [] => .nil
  | z :: zs => by
    have := Rps.cons (rint z st).1 (ints_rps st zs)
    simpa using this
theorem ok_ss : CbOk fSS gSS false true := .one (one_of rfl fun _ _ _ => rfl) fun st d v z G0 r e => by
  simp only [gSS, Option.bind_eq_some_iff] at e
  obtain ⟨zs, ⟨xs, e1, e2⟩, e⟩ := e
  split at e
  · rename_i h
    cases e
    obtain ⟨es, E, a, b, c⟩ := lst_ok r e1
    exact ⟨_, [.lst ((usort zs).map .int)], _, by simp only [fSS, a, Option.bind_some, vints_ok b e2]; exact if_pos h, new_lst (ints_rps st (usort zs)), fun k h => (List.mem_cons.mp h).elim (fun h => .inl (by omega)) (fun h => nomatch h), fun _ k h => by cases h; exact Nat.le_refl _⟩
  · cases e
end Gv
namespace Gv
open PySem PySem.Spec L2
/-! ### slices with a step, of a tuple -/
def gSt (x : Vl) (i j s : Option Int) : Option Vl := match x, s with
  | .tup xs, some k => if stOk xs.length i j k = true then some (.tup (pickL xs i j k)) else none
  | _, _ => none
def vSt (a : VE) (l h s : VO) : VE := fun ve w => (a ve w).bind fun x w1 => (l ve w1).bind fun i w2 => (h ve w2).bind fun j w3 => (s ve w3).bind fun k w4 => vre (gSt x i j k) w4
theorem Rps.pickF {st : Sto} {es : List D} {us : List Vl} {E : List Nat} (h : Rps st es us E) (a k : Int) : ∀ ms : List Nat, ∃ A, Rps st (pickF es a k ms) (pickF us a k ms) A ∧ ∀ x ∈ A, x ∈ E
  | [] => ⟨[], .nil, fun _ h => nomatch h⟩
  | m :: ms => by
    obtain ⟨A, ha, hs⟩ := Rps.pickF h a k ms
    unfold Gv.pickF at ha ⊢
    rw [List.filterMap_cons, List.filterMap_cons]
    cases e : us[(a + Int.ofNat m * k).toNat]? with
    | none =>
      have : es[(a + Int.ofNat m * k).toNat]? = none := by
        rw [List.getElem?_eq_none_iff] at e ⊢
        rw [h.len]
        exact e
      rw [this]
      exact ⟨A, ha, hs⟩
    | some v =>
      obtain ⟨d, B, hd, rd, hB⟩ := h.get e
      rw [hd]
      exact ⟨B ++ A, Rps.cons rd ha, fun x hx => (List.mem_append.mp hx).elim (hB x) (hs x)⟩
theorem se_st {dl : Option Nat} {a : ED} {va : VE} {al1 : List Nat} {f1 : Bool} {l h s : OD} {vl vh vs : VO} (ha : SoundE dl a va al1 f1) (hl : SoundO dl l vl) (hh : SoundO dl h vh) (hs : SoundO dl s vs) : SoundE dl (dSt a l h s) (vSt va vl vh vs) al1 true := fun loc st en ve w F r =>
  (ha loc st en ve w F r).bind fun dx s1 x w1 Gx hx px e1 q1 => (hl loc s1 en ve w1 F (r.ext e1 q1)).bind' e1 fun i s2 i' w2 _ hi _ e12 e2 q2 =>
    (hh loc s2 en ve w2 F (r.ext e2 q2)).bind' e2 fun j s3 j' w3 _ hj _ e23 e3 q3 =>
      (hs loc s3 en ve w3 F (r.ext e3 q3)).bind' e3 fun k s4 k' w4 _ hk _ e34 e4 q4 => by
      obtain ⟨rfl, _⟩ := hi; obtain ⟨rfl, _⟩ := hj; obtain ⟨rfl, _⟩ := hk
      have h4 := ((hx.1.ext px.1 e12).ext px.1 e23).ext px.1 e34
      cases x with
      | tup us =>
        obtain ⟨es, rfl, hs⟩ := Rp.tup_inv h4
        cases k with
        | none => trivial
        | some k =>
          simp only [gSt, fSt, hs.len]
          by_cases hok : stOk us.length i j k = true
          · rw [if_pos hok, if_pos hok]
            obtain ⟨A, a, b⟩ := hs.pickF (pickA us.length i j k) k (List.range (pickN us.length i j k))
            refine ⟨.tup (pickL es i j k), s4, A, rfl, ⟨Rp.tup ?_, fun _ k h => nomatch h⟩, px.sub b, e4, q4⟩
            unfold pickL
            rw [hs.len]
            exact a
          · rw [if_neg hok, if_neg hok]; trivial
      | _ => trivial
/-! ### sum of a list or a tuple -/
def gSum2 : List Vl → Option Vl
  | [.tup xs] => (vints xs).map fun ns => .int ns.sum
  | ds => gSum ds
theorem fSum2_of {ds : List D} {st : Sto} {r : D × Sto} (h : fSum ds st = some r) : fSum2 ds st = some r := by
  unfold fSum2
  split
  · simp [fSum, lstOf] at h
  · exact h
theorem ok_sum2 : CbOk fSum2 gSum2 false true := fun st ds vs z G0 r e => by
  unfold gSum2 at e
  split at e
  · rename_i us
    simp only [Option.map_eq_some_iff] at e
    obtain ⟨bs, e2, rfl⟩ := e
    obtain ⟨d, rfl⟩ := r.one
    have r' := Rps.uncons r
    obtain ⟨A, B, rfl, r1, r2⟩ := r'
    obtain ⟨es, rfl, hs⟩ := Rp.tup_inv r1
    exact ⟨.int bs.sum, [], [], by simp only [fSum2, vints_ok hs e2, Option.map_some, List.append_nil], by rw [List.append_nil]; exact (rint _ st).1, (fun _ h => nomatch h), fun _ k h => nomatch h⟩
  · obtain ⟨d, ex, G, h1, h2⟩ := ok_sum st ds vs z G0 r e
    exact ⟨d, ex, G, fSum2_of h1, h2⟩
end Gv
namespace Gv
open PySem PySem.Spec L2

/-! ### whole numbers as values -/
def nv (n : Nat) : Vl := .int n
def natV (xs : List Nat) : List Vl := xs.map nv
/-- a tuple of whole numbers -/
def rowV (xs : List Nat) : Vl := .tup (natV xs)
theorem vGuard : True := trivial
theorem gLt_int (i j : Int) : gLt (.int i) (.int j) = some (.bl (decide (i < j))) := rfl
theorem gLe_int (i j : Int) : gLe (.int i) (.int j) = some (.bl (decide (i ≤ j))) := rfl
theorem gGt_int (i j : Int) : gGt (.int i) (.int j) = some (.bl (decide (j < i))) := rfl
theorem gGe_int (i j : Int) : gGe (.int i) (.int j) = some (.bl (decide (j ≤ i))) := rfl
theorem gEq_int (i j : Int) : gEq (.int i) (.int j) = some (.bl (decide (i = j))) := rfl
theorem gNe_int (i j : Int) : gNe (.int i) (.int j) = some (.bl (!decide (i = j))) := rfl
theorem gEq_nv (a b : Nat) : gEq (nv a) (nv b) = some (.bl (decide (a = b))) := by
  show some (Vl.bl (decide ((a : Int) = b))) = _
  rw [decide_eq_decide.mpr Int.natCast_inj]
theorem gNe_nv (a b : Nat) : gNe (nv a) (nv b) = some (.bl (!decide (a = b))) := by
  show some (Vl.bl (!decide ((a : Int) = b))) = _
  rw [decide_eq_decide.mpr Int.natCast_inj]
theorem gLt_nv (a b : Nat) : gLt (nv a) (nv b) = some (.bl (decide (a < b))) := by
  show some (Vl.bl (decide ((a : Int) < b))) = _
  rw [decide_eq_decide.mpr Int.ofNat_lt]
theorem gLe_nv (a b : Nat) : gLe (nv a) (nv b) = some (.bl (decide (a ≤ b))) := by
  show some (Vl.bl (decide ((a : Int) ≤ b))) = _
  rw [decide_eq_decide.mpr Int.ofNat_le]
theorem gGt_nv (a b : Nat) : gGt (nv a) (nv b) = some (.bl (decide (b < a))) := gLt_nv b a
theorem gGe_nv (a b : Nat) : gGe (nv a) (nv b) = some (.bl (decide (b ≤ a))) := gLe_nv b a
theorem gAdd_nv (a b : Nat) : gAdd (nv a) (nv b) = some (nv (a + b)) := by
  show some (Vl.int ((a : Int) + b)) = _
  rw [← Int.natCast_add]
  rfl
theorem gSub_nv {a b : Nat} (h : b ≤ a) : gSub (nv a) (nv b) = some (nv (a - b)) := by
  show some (Vl.int ((a : Int) - b)) = some (Vl.int ((a - b : Nat) : Int))
  rw [Int.natCast_sub h]
theorem gMul_nv {a b : Nat} (h : a < 18446744073709551616 ∨ b < 18446744073709551616) : gMul (nv a) (nv b) = some (nv (a * b)) := by
  have h1 : cMul (a : Int) b = true := by simpa [cMul] using h
  show (if cMul (a : Int) b = true then some (Vl.int ((a : Int) * b)) else none) = _
  rw [if_pos h1, ← Int.natCast_mul]
  rfl
theorem gDiv_nv {a b : Nat} (h : 0 < b) (h2 : b < 1073741824) : gDiv (nv a) (nv b) = some (nv (a / b)) := by
  have h1 : (decide ((0 : Int) < b) && decide ((b : Int) < 1073741824)) = true := by simp; omega
  show (if (decide ((0 : Int) < b) && decide ((b : Int) < 1073741824)) = true then some (Vl.int ((a : Int) / b)) else none) = _
  rw [if_pos h1, ← Int.natCast_ediv]
  rfl
theorem gMod_nv {a b : Nat} (h : 0 < b) : gMod (nv a) (nv b) = some (nv (a % b)) := by
  have h1 : decide ((0 : Int) < b) = true := by simp; omega
  show (if decide ((0 : Int) < b) = true then some (Vl.int ((a : Int) % b)) else none) = _
  rw [if_pos h1, ← Int.natCast_emod]
  rfl
theorem gSub_int (i j : Int) : gSub (.int i) (.int j) = some (.int (i - j)) := rfl
theorem gDiv_int {i j : Int} (h : 0 < j) (h2 : j < 1073741824) : gDiv (.int i) (.int j) = some (.int (i / j)) := by
  have : (decide (0 < j) && decide (j < 1073741824)) = true := by simp [h, h2]
  exact if_pos this
theorem gMod_int {i j : Int} (h : 0 < j) : gMod (.int i) (.int j) = some (.int (i % j)) := if_pos (by simpa using h)
theorem gXor_nat (a b : Nat) : gXor (.int a) (.int b) = some (.int (a ^^^ b : Nat)) := by
  show some (Vl.int (Builtin.bitXor (a : Int) b)) = _
  rw [Bits.bitXor_pp (Int.natCast_nonneg a) (Int.natCast_nonneg b), Int.toNat_natCast, Int.toNat_natCast]
theorem gXor_nv (a b : Nat) : gXor (nv a) (nv b) = some (nv (a ^^^ b)) := gXor_nat a b
theorem vints_nat (xs : List Nat) : vints (natV xs) = some (xs.map fun (x : Nat) => (x : Int)) := by
  induction xs with
  | nil => rfl
  | cons x xs ih =>
    show (vints (natV xs)).map _ = _
    rw [ih]; rfl
theorem vints_ints (xs : List Int) : vints (xs.map .int) = some xs := by
  induction xs with
  | nil => rfl
  | cons x xs ih => show (vints (xs.map .int)).map _ = _; rw [ih]; rfl
theorem contains_nat (xs : List Nat) (x : Nat) : (xs.map fun (x : Nat) => (x : Int)).contains (x : Int) = xs.contains x := by
  rw [Bool.eq_iff_iff]
  simp only [List.contains_iff_mem, List.mem_map]
  constructor
  · rintro ⟨y, h, e⟩
    rwa [show x = y by omega]
  · intro h
    exact ⟨x, h, rfl⟩
theorem map_nat_inj (xs ys : List Nat) : decide ((xs.map fun (x : Nat) => (x : Int)) = ys.map fun (x : Nat) => (x : Int)) = decide (xs = ys) := by
  rw [Bool.eq_iff_iff, decide_eq_true_iff, decide_eq_true_iff]
  exact ⟨fun h => List.map_inj_right (fun a b e => by omega) |>.mp h, fun h => by rw [h]⟩
theorem inV_nat (neg : Bool) (x : Nat) (xs : List Nat) : inV neg (.int x) (natV xs) = some (.bl (if neg then !xs.contains x else xs.contains x)) := by
  unfold inV
  rw [vints_nat]
  show some (Vl.bl _) = _
  rw [contains_nat]
theorem gIn_lst (neg : Bool) (x : Nat) (xs : List Nat) : gIn neg (.int x) (.lst (natV xs)) = some (.bl (if neg then !xs.contains x else xs.contains x)) := inV_nat neg x xs
theorem gIn_tup (neg : Bool) (x : Nat) (xs : List Nat) : gIn neg (.int x) (.tup (natV xs)) = some (.bl (if neg then !xs.contains x else xs.contains x)) := inV_nat neg x xs
theorem gEqD_row (neg : Bool) (xs ys : List Nat) : gEqD neg (rowV xs) (rowV ys) = some (.bl (if neg then !decide (xs = ys) else decide (xs = ys))) := by
  unfold gEqD
  simp only [rowV, itup, vints_nat]
  rw [map_nat_inj]
theorem gEq_row (xs ys : List Nat) : gEq (rowV xs) (rowV ys) = some (.bl (decide (xs = ys))) := gEqD_row false xs ys
theorem gNe_row (xs ys : List Nat) : gNe (rowV xs) (rowV ys) = some (.bl (!decide (xs = ys))) := gEqD_row true xs ys
theorem natV_get {xs : List Nat} {i x : Nat} (h : xs[i]? = some x) : (natV xs)[i]? = some (nv x) := by simp [natV, h]
theorem natV_len (xs : List Nat) : (natV xs).length = xs.length := by simp [natV]
theorem natV_app (xs ys : List Nat) : natV (xs ++ ys) = natV xs ++ natV ys := by simp [natV]
theorem gIx_lst {xs : List Vl} {i : Nat} {x : Vl} (h : xs[i]? = some x) : gIx (.lst xs) (.int i) = some x := L2.atI_nat h
theorem gIx_tup {xs : List Vl} {i : Nat} {x : Vl} (h : xs[i]? = some x) : gIx (.tup xs) (.int i) = some x := L2.atI_nat h
theorem flatL_nat (xs : List Nat) : flatL (natV xs) = true := by
  induction xs with
  | nil => rfl
  | cons x xs ih => exact ih
theorem flatL_map {α : Type} (e : α → Vl) (h : ∀ a, (e a).flat = true) (xs : List α) : flatL (xs.map e) = true := by
  induction xs with
  | nil => rfl
  | cons x xs ih => rw [List.map_cons, flatL, h x, ih]; rfl
theorem flat_row (xs : List Nat) : (rowV xs).flat = true := flatL_nat xs
theorem okC_flat {vs : List Vl} (h : flatL vs = true) : okC vs = true := by rw [okC, h]; rfl
theorem cntL_flat : ∀ {vs : List Vl}, flatL vs = true → cntL vs = 0 := fun {vs} h => by
  have key : ∀ n, (∀ v : Vl, sizeOf v < n → v.flat = true → cntV v = 0) ∧ ∀ vs : List Vl, sizeOf vs < n → flatL vs = true → cntL vs = 0 := by
    intro n
    induction n with
    | zero => exact ⟨fun _ h => by omega, fun _ h => by omega⟩
    | succ n ih =>
      refine ⟨fun v hs h => ?_, fun vs hs h => ?_⟩
      · cases v with
        | tup xs => rw [cntV]; exact ih.2 xs (by simp at hs; omega) h
        | lst => cases h
        | dK => cases h
        | dT => cases h
        | _ => rfl
      · cases vs with
        | nil => rfl
        | cons x xs =>
          simp at hs
          simp only [flatL, Bool.and_eq_true] at h
          rw [cntL, ih.1 x (by omega) h.1, ih.2 xs (by omega) h.2]
  exact (key (sizeOf vs + 1)).2 vs (by omega) h
/-- a list of flat things is counted once -/
theorem okC_lst {xs : List Vl} (h : flatL xs = true) : okC [.lst xs] = true := by
  rw [okC, Bool.or_eq_true]
  right
  simp [cntL, cntV, cntL_flat h]
theorem okC_lst2 {x : Vl} {xs : List Vl} (hx : x.flat = true) (h : flatL xs = true) : okC [x, .lst xs] = true := by
  have := cntL_flat (vs := [x]) (by simp [flatL, hx])
  simp only [cntL, Nat.add_zero] at this
  rw [okC, Bool.or_eq_true]
  right
  simp [cntL, cntV, cntL_flat h, this]
/-! ### one behind another -/
section
variable {a b body : VS} {ve ve1 ve' : VEnv} {w w1 w' : Wo} {r : VRs} {x : Vl}
theorem q_nx (h : a ve w = .nx ve' w') (h2 : b ve' w' = r) : vSeq a b ve w = r := by unfold vSeq; rw [h]; exact h2
theorem q_rt (h : a ve w = .rt x w') : vSeq a b ve w = .rt x w' := by unfold vSeq; rw [h]
theorem q_set {c i : Nat} {e : VE} (h : e ve w = .ok x w1) (hc : chk c x = true) : vSet c i e ve w = .nx (ve.set i (some x)) w1 := by unfold vSet; rw [h]; exact if_pos hc
theorem q_ret {e : VE} (h : e ve w = .ok x w1) : vRet e ve w = .rt x w1 := by unfold vRet; rw [h]; rfl
theorem q_if1 {c : VB} (h : c ve w = .ok true w1) (h2 : a ve w1 = r) : vIte c a b ve w = r := by unfold vIte; rw [h]; exact h2
theorem q_if0 {c : VB} (h : c ve w = .ok false w1) (h2 : b ve w1 = r) : vIte c a b ve w = r := by unfold vIte; rw [h]; exact h2
theorem q_app {i : Nat} {e : VE} {c : Nat} {xs : List Vl} (hi : ve[i]? = some (some (.lst xs))) (h : e ve w = .ok x w1) (hl : xs.length < 16777216) (hc : chk c x = true) : vApp c i e ve w = .nx (ve.set i (some (.lst (xs ++ [x])))) w1 := by
  unfold vApp
  rw [hi]
  simp only [isLV_lst, if_true, h, VR.toS_ok, appV]
  rw [if_pos ⟨hl, hc⟩]
  rfl
theorem q_fn {n ar : Nat} {vs : List Vl} (hl : vs.length = ar) (h : body (vs.map some ++ List.replicate (n - ar) none) w = .rt x w') (hc : okC [x] = true) : vFn n ar body vs w = .ok x w' := by
  unfold vFn
  rw [if_pos hl, h]
  exact finV_rt hc
theorem q_fnD {n ar : Nat} {vs : List Vl} (hl : vs.length + 1 = ar) (h : body (none :: (vs.map some ++ List.replicate (n - ar) none)) w = .rt x w') (hc : okC [x] = true) : vFnD n ar body vs w = .ok x w' := by
  unfold vFnD
  rw [if_pos hl, h]
  exact finV_rt hc
theorem q_fnE {n ar : Nat} {vs : List Vl} {e : Vx} (hl : vs.length = ar) (h : body (vs.map some ++ List.replicate (n - ar) none) w = .er e w') : vFn n ar body vs w = .er e w' := by
  unfold vFn
  rw [if_pos hl, h]
  rfl
theorem q_x {f : VF} {aa : VA} {vs : List Vl} {w2 : Wo} (h : aa ve w = .ok vs w1) (hc : okC vs = true) (hf : f vs wZ = .ok x w2) : vX f aa ve w = .ok x w1 := by
  unfold vX
  rw [h, VR.bind_ok, if_pos hc, hf]
  rfl
theorem q_xE {f : VF} {aa : VA} {vs : List Vl} {w2 : Wo} {e : Vx} (h : aa ve w = .ok vs w1) (hc : okC vs = true) (hf : f vs wZ = .er e w2) : vX f aa ve w = .er e w1 := by
  unfold vX
  rw [h, VR.bind_ok, if_pos hc, hf]
  rfl
theorem q_xd {f : VF} {aa : VA} {vs : List Vl} (h : aa ve w = .ok vs w1) (hc : okC vs = true) : vXd f aa ve w = f vs w1 := by
  unfold vXd
  rw [h, VR.bind_ok, if_pos hc]
theorem q_cons {e : VE} {aa : VA} {xs : List Vl} (h : e ve w = .ok x w1) (h2 : aa ve w1 = .ok xs w') : vCons e aa ve w = .ok (x :: xs) w' := by unfold vCons; rw [h, VR.bind_ok, h2]; rfl
theorem q_nil : vNil ve w = .ok [] w := rfl
theorem q_op {g : Vl → Vl → Option Vl} {e f : VE} {y z : Vl} (h : e ve w = .ok x w1) (h2 : f ve w1 = .ok y w') (hg : g x y = some z) : vOp g e f ve w = .ok z w' := by unfold vOp; rw [h, VR.bind_ok, h2, VR.bind_ok, hg]; rfl
theorem q_cb {g : List Vl → Option Vl} {aa : VA} {vs : List Vl} (h : aa ve w = .ok vs w1) (hg : g vs = some x) : vCB g aa ve w = .ok x w1 := by unfold vCB; rw [h, VR.bind_ok, hg]; rfl
theorem q_cmp {g : Vl → Vl → Option Vl} {e f : VE} {y : Vl} {k : Bool} (h : e ve w = .ok x w1) (h2 : f ve w1 = .ok y w') (hg : g x y = some (.bl k)) : vCmp g e f ve w = .ok k w' := by unfold vCmp; rw [h, VR.bind_ok, h2, VR.bind_ok, hg]; rfl
theorem q_and1 {p q : VB} {k : Bool} (h : p ve w = .ok true w1) (h2 : q ve w1 = .ok k w') : vBAnd p q ve w = .ok k w' := by unfold vBAnd; rw [h]; exact h2
theorem q_and0 {p q : VB} (h : p ve w = .ok false w1) : vBAnd p q ve w = .ok false w1 := by unfold vBAnd; rw [h]; rfl
theorem q_or0 {p q : VB} {k : Bool} (h : p ve w = .ok false w1) (h2 : q ve w1 = .ok k w') : vBOr p q ve w = .ok k w' := by unfold vBOr; rw [h]; exact h2
theorem q_or1 {p q : VB} (h : p ve w = .ok true w1) : vBOr p q ve w = .ok true w1 := by unfold vBOr; rw [h]; rfl
theorem q_tru {e : VE} {k : Bool} (h : e ve w = .ok x w1) (hk : truV x = some k) : vTru e ve w = .ok k w1 := by unfold vTru; rw [h, VR.bind_ok, hk]
theorem q_not {p : VB} {k : Bool} (h : p ve w = .ok k w1) : vBNot p ve w = .ok (!k) w1 := by unfold vBNot; rw [h]; rfl
theorem q_bchain {f g : Vl → Vl → Option Vl} {p q r : VE} {y z : Vl} {w2 w3 : Wo} {k : Bool} (h1 : p ve w = .ok x w1) (h2 : q ve w1 = .ok y w2) (hf : f x y = some (.bl true)) (h3 : r ve w2 = .ok z w3) (hg : g y z = some (.bl k)) : vBChain f g p q r ve w = .ok k w3 := by
  unfold vBChain
  rw [h1, VR.bind_ok, h2, VR.bind_ok, hf, blV_some, VR.bind_ok, if_pos rfl, h3, VR.bind_ok, hg, blV_some]
theorem q_bchain0 {f g : Vl → Vl → Option Vl} {p q r : VE} {y : Vl} {w2 : Wo} (h1 : p ve w = .ok x w1) (h2 : q ve w1 = .ok y w2) (hf : f x y = some (.bl false)) : vBChain f g p q r ve w = .ok false w2 := by
  unfold vBChain
  rw [h1, VR.bind_ok, h2, VR.bind_ok, hf, blV_some, VR.bind_ok, if_neg Bool.false_ne_true]
theorem q_draw {e : VE} {m : Nat} (h : e ve w = .ok (.int m) w1) (hm : 0 < m) (h2 : m < 1073741824) : ∃ (r : Nat) (w' : Wo), vDraw e ve w = .ok (.int r) w' ∧ r < m := by
  obtain ⟨r, w', e1, hr⟩ := draw_nat hm h2 w1
  exact ⟨r, w', by unfold vDraw; rw [h]; exact e1, hr⟩
end
/-! ### loops -/
def TurnV (P : VEnv → Wo → Prop) (R : VRs → Prop) : VRs → Prop
  | .nx ve w => P ve w
  | .ct ve w => P ve w
  | .bk ve w => R (.nx ve w)
  | r => R r
theorem vForL_rule {u : VU} {body : VS} {xs : List Vl} (P : Nat → VEnv → Wo → Prop) (R : VRs → Prop) {ve : VEnv} {w : Wo} (h0 : P 0 ve w)
    (hs : ∀ k x ve w, xs[k]? = some x → P k ve w → ∃ ve1 r, u x ve = some ve1 ∧ body ve1 w = r ∧ TurnV (P (k + 1)) R r) (he : ∀ ve w, P xs.length ve w → R (.nx ve w)) : R (vForL u body xs ve w) := by
  have key : ∀ (n k : Nat) (ve : VEnv) (w : Wo), xs.length - k = n → k ≤ xs.length → P k ve w → R (vForL u body (xs.drop k) ve w) := by
    intro n
    induction n with
    | zero =>
      intro k ve w hn hk hp
      have : k = xs.length := by omega
      subst this
      rw [List.drop_length]
      exact he ve w hp
    | succ n ih =>
      intro k ve w hn hk hp
      have hlt : k < xs.length := by omega
      obtain ⟨ve1, r, e1, e2, ht⟩ := hs k _ ve w (List.getElem?_eq_getElem hlt) hp
      rw [List.drop_eq_getElem_cons hlt, vForL, e1]
      dsimp only
      rw [e2]
      cases r with
      | nx a b => exact ih (k + 1) a b (by omega) hlt ht
      | ct a b => exact ih (k + 1) a b (by omega) hlt ht
      | bk a b => exact ht
      | rt a b => exact ht
      | er a b => exact ht
      | no => exact ht
  have := key _ 0 ve w rfl (Nat.zero_le _) h0
  rwa [List.drop_zero] at this
/-- a loop that carries b, seen in the slots by S -/
theorem vForL_fold {α β : Type} {u : VU} {body : VS} (e : α → Vl) (f : β → α → β) (S : β → VEnv → Prop) : ∀ (xs : List α) (b : β) (ve : VEnv) (w : Wo), S b ve →
    (∀ a ∈ xs, ∀ b ve w, S b ve → ∃ ve1 ve2, u (e a) ve = some ve1 ∧ body ve1 w = .nx ve2 w ∧ S (f b a) ve2) → ∃ ve', vForL u body (xs.map e) ve w = .nx ve' w ∧ S (xs.foldl f b) ve'
  | [], b, ve, w, h, _ => ⟨ve, rfl, h⟩
  | x :: xs, b, ve, w, h, hs => by
    obtain ⟨ve1, ve2, e1, e2, h2⟩ := hs x List.mem_cons_self b ve w h
    obtain ⟨ve', e3, h3⟩ := vForL_fold e f S xs (f b x) ve2 w h2 fun a ha => hs a (List.mem_cons_of_mem _ ha)
    exact ⟨ve', by rw [List.map_cons, vForL, e1]; dsimp only; rw [e2]; exact e3, h3⟩
theorem vForL_ix {α : Type} {u : VU} {body : VS} {ve : VEnv} {w : Wo} (e : α → Vl) (xs : List α) (S : Nat → VEnv → Prop) (h0 : S 0 ve)
    (hs : ∀ i a ve, xs[i]? = some a → S i ve → ∃ ve1 ve2, u (e a) ve = some ve1 ∧ body ve1 w = .nx ve2 w ∧ S (i + 1) ve2) : ∃ ve', vForL u body (xs.map e) ve w = .nx ve' w ∧ S xs.length ve' := by
  refine vForL_rule (xs := xs.map e) (fun i ve w' => S i ve ∧ w' = w) (fun r => ∃ ve', r = .nx ve' w ∧ S xs.length ve') ⟨h0, rfl⟩ ?_ ?_
  · rintro i x ve w' hx ⟨hS, rfl⟩
    rw [List.getElem?_map] at hx
    cases ea : xs[i]? with
    | none => rw [ea] at hx; cases hx
    | some a =>
      rw [ea] at hx
      cases hx
      obtain ⟨ve1, ve2, e1, e2, h⟩ := hs i a ve ea hS
      exact ⟨ve1, _, e1, e2, h, rfl⟩
  · rintro ve w' ⟨hS, rfl⟩
    rw [List.length_map] at hS
    exact ⟨ve, rfl, hS⟩
/-- over range(n) -/
theorem vForL_rg {u : VU} {body : VS} {ve : VEnv} {w : Wo} (n : Nat) (S : Nat → VEnv → Prop) (h0 : S 0 ve)
    (hs : ∀ i ve, i < n → S i ve → ∃ ve1 ve2, u (nv i) ve = some ve1 ∧ body ve1 w = .nx ve2 w ∧ S (i + 1) ve2) : ∃ ve', vForL u body ((List.range n).map nv) ve w = .nx ve' w ∧ S n ve' := by
  have := vForL_ix (u := u) (body := body) (ve := ve) (w := w) nv (List.range n) S h0 (fun i a ve ha hS => by
    have hi : i < n := by
      have := (List.getElem?_eq_some_iff.mp ha).1
      simpa using this
    rw [List.getElem?_range hi] at ha
    cases ha
    exact hs i ve hi hS)
  rwa [List.length_range] at this
theorem q_for {i : VI} {u : VU} {body : VS} {ve : VEnv} {w w1 : Wo} {xs : List Vl} {r : VRs} (hi : i ve w = .ok xs w1) (h : vForL u body xs ve w1 = r) : vFor i u body ve w = r := by unfold vFor; rw [hi]; exact h
theorem vWhile_rule {c : VB} {body : VS} {ve : VEnv} {w : Wo} (P : Nat → VEnv → Wo → Prop) (R : VRs → Prop) (m : Nat) (hm : m < 1000000) (h0 : P m ve w)
    (hs : ∀ m ve w, P m ve w → ∃ b w1, c ve w = .ok b w1 ∧ (b = false → R (.nx ve w1)) ∧ (b = true → ∃ r, body ve w1 = r ∧ TurnV (fun ve2 w2 => ∃ m', m' < m ∧ P m' ve2 w2) R r)) : R (vWhile c body ve w) := by
  have key : ∀ (n m : Nat) (ve : VEnv) (w : Wo), m < n → P m ve w → R (vWhileF c body n ve w) := by
    intro n
    induction n with
    | zero => intro m ve w h; omega
    | succ n ih =>
      intro m ve w h hp
      obtain ⟨b, w1, hc, h0, h1⟩ := hs m ve w hp
      rw [vWhileF, hc]
      cases b with
      | false => exact h0 rfl
      | true =>
        obtain ⟨r, eb, h1⟩ := h1 rfl
        simp only [VR.toS_ok, if_true, eb]
        cases r with
        | nx => obtain ⟨m', hm, hp⟩ := h1; exact ih m' _ _ (by omega) hp
        | ct => obtain ⟨m', hm, hp⟩ := h1; exact ih m' _ _ (by omega) hp
        | bk => exact h1
        | rt => exact h1
        | er => exact h1
        | no => exact h1
  exact key 1000000 m ve w hm h0
/-! ### comprehensions -/
theorem vcompL_map {α : Type} {u : VU} {c : VB} {elt : VE} {ve : VEnv} {w : Wo} (e g : α → Vl) : ∀ (xs : List α), (∀ a ∈ xs, ∃ ve1, u (e a) ve = some ve1 ∧ c ve1 w = .ok true w ∧ elt ve1 w = .ok (g a) w) → vcompL u c elt ve (xs.map e) w = .ok (xs.map g) w
  | [], _ => rfl
  | x :: xs, h => by
    obtain ⟨ve1, e1, e2, e3⟩ := h x List.mem_cons_self
    rw [List.map_cons, vcompL, e1]
    dsimp only
    rw [e2, VR.bind_ok, if_pos rfl, e3, VR.bind_ok, vcompL_map e g xs fun a ha => h a (List.mem_cons_of_mem _ ha)]
    rfl
theorem vcompL_filter {α : Type} {u : VU} {c : VB} {elt : VE} {ve : VEnv} {w : Wo} (e g : α → Vl) (p : α → Bool) : ∀ (xs : List α), (∀ a ∈ xs, ∃ ve1, u (e a) ve = some ve1 ∧ c ve1 w = .ok (p a) w ∧ (p a = true → elt ve1 w = .ok (g a) w)) → vcompL u c elt ve (xs.map e) w = .ok ((xs.filter p).map g) w
  | [], _ => rfl
  | x :: xs, h => by
    obtain ⟨ve1, e1, e2, e3⟩ := h x List.mem_cons_self
    have ih := vcompL_filter (u := u) (c := c) (elt := elt) (ve := ve) (w := w) e g p xs fun a ha => h a (List.mem_cons_of_mem _ ha)
    rw [List.map_cons, vcompL, e1]
    dsimp only
    rw [e2, VR.bind_ok]
    cases hp : p x with
    | true => rw [if_pos rfl, e3 hp, VR.bind_ok, ih, List.filter_cons_of_pos hp]; rfl
    | false => rw [if_neg Bool.false_ne_true, ih, List.filter_cons_of_neg (by rw [hp]; exact Bool.false_ne_true)]
/-- each element drawn anew: what is known of each -/
theorem vcompL_any {β : Type} {u : VU} {c : VB} {elt : VE} {ve : VEnv} (enc : β → Vl) (Q : β → Prop) : ∀ (xs : List Vl) (w : Wo), (∀ x ∈ xs, ∀ w, ∃ ve1 b w', u x ve = some ve1 ∧ c ve1 w = .ok true w ∧ elt ve1 w = .ok (enc b) w' ∧ Q b) →
    ∃ (bs : List β) (w' : Wo), vcompL u c elt ve xs w = .ok (bs.map enc) w' ∧ bs.length = xs.length ∧ ∀ b ∈ bs, Q b
  | [], w, _ => ⟨[], w, rfl, rfl, fun _ h => nomatch h⟩
  | x :: xs, w, h => by
    obtain ⟨ve1, b, w1, e1, e2, e3, hb⟩ := h x List.mem_cons_self w
    obtain ⟨bs, w', e4, hl, hq⟩ := vcompL_any enc Q xs w1 fun a ha => h a (List.mem_cons_of_mem _ ha)
    refine ⟨b :: bs, w', ?_, by simp [hl], fun y hy => (List.mem_cons.mp hy).elim (fun e => e ▸ hb) (hq y)⟩
    rw [vcompL, e1]
    dsimp only
    rw [e2, VR.bind_ok, if_pos rfl, e3, VR.bind_ok, e4]
    rfl
theorem q_lc {own : List Nat} {i : VI} {u : VU} {c : VB} {elt : VE} {ve : VEnv} {w w1 w2 : Wo} {xs ys : List Vl} (hi : i ve w = .ok xs w1) (h : vcompL u c elt (wipeV ve own) xs w1 = .ok ys w2) (hl : xs.length < 16777216) : vLC own i u c elt ve w = .ok (.lst ys) w2 := by
  unfold vLC
  rw [hi, VR.bind_ok, if_pos hl, h]
  rfl
/-- range(n) -/
theorem i_rg1 {aa : VA} {ve : VEnv} {w w1 : Wo} {n : Nat} (h : aa ve w = .ok [.int n] w1) (hn : n ≤ 1000000000) : vIRg1 aa ve w = .ok ((List.range n).map nv) w1 := by
  have hb : bnd (n : Int) = true := by simp [bnd]; omega
  unfold vIRg1
  rw [h, VR.bind_ok]
  simp only [int1_eq, if_pos hb, vrng, Int.toNat_natCast, Int.zero_add]
  rfl
theorem i_rg2 {aa : VA} {ve : VEnv} {w w1 : Wo} {m n : Nat} (h : aa ve w = .ok [.int m, .int n] w1) (hm : m ≤ 1000000000) (hn : n ≤ 1000000000) : vIRg2 aa ve w = .ok ((List.range (n - m)).map fun k => nv (m + k)) w1 := by
  have hb : (bnd (m : Int) && bnd (n : Int)) = true := by simp [bnd]; omega
  unfold vIRg2
  rw [h, VR.bind_ok]
  simp only [int2_eq, if_pos hb, vrng]
  have e : ((n : Int) - (m : Int)).toNat = n - m := by omega
  rw [e]
  congr 1
theorem i_lst {a : VE} {ve : VEnv} {w w1 : Wo} {xs : List Vl} (h : a ve w = .ok (.lst xs) w1) : vISeq a ve w = .ok xs w1 := by unfold vISeq; rw [h]; rfl
theorem i_tup {a : VE} {ve : VEnv} {w w1 : Wo} {xs : List Vl} (h : a ve w = .ok (.tup xs) w1) : vISeq a ve w = .ok xs w1 := by unfold vISeq; rw [h]; rfl
/-! ### checks by running -/
mutual
def beqV : Vl → Vl → Bool
  | .non, .non => true
  | .bl a, .bl b => a == b
  | .int a, .int b => a == b
  | .str a, .str b => decide (a = b)
  | .tup a, .tup b => beqVs a b
  | .lst a, .lst b => beqVs a b
  | _, _ => false
def beqVs : List Vl → List Vl → Bool
  | [], [] => true
  | a :: as, b :: bs => beqV a b && beqVs as bs
  | _, _ => false
end
theorem beqV_eq : ∀ (n : Nat), (∀ x y : Vl, sizeOf x < n → beqV x y = true → x = y) ∧ ∀ x y : List Vl, sizeOf x < n → beqVs x y = true → x = y := by
  intro n
  induction n with
  | zero => exact ⟨fun _ _ h => by omega, fun _ _ h => by omega⟩
  | succ n ih =>
    refine ⟨fun x y hs h => ?_, fun x y hs h => ?_⟩
    · cases x <;> cases y <;> simp only [beqV, Bool.false_eq_true] at h
      · rfl
      · rw [beq_iff_eq.mp h]
      · rw [beq_iff_eq.mp h]
      · rw [of_decide_eq_true h]
      · rw [ih.2 _ _ (by simp at hs; omega) h]
      · rw [ih.2 _ _ (by simp at hs; omega) h]
    · cases x <;> cases y <;> simp only [beqVs, Bool.false_eq_true, Bool.and_eq_true] at h
      · rfl
      · simp at hs
        rw [ih.1 _ _ (by omega) h.1, ih.2 _ _ (by omega) h.2]
/-- the run ends in that value -/
def isV (r : VR Vl) (x : Vl) : Bool := match r with
  | .ok y _ => beqV y x
  | _ => false
theorem isV_eq {r : VR Vl} {x : Vl} (h : isV r x = true) : ∃ w, r = .ok x w := by
  cases r with
  | ok y w => exact ⟨w, by rw [(beqV_eq (sizeOf y + 1)).1 y x (by omega) h]⟩
  | er => cases h
  | no => cases h
def isE (r : VR Vl) (c : Nat) (x y : Vl) : Bool := match r with
  | .er e _ => e.cls == c && beqV e.code x && beqV e.place y
  | _ => false
theorem isE_eq {r : VR Vl} {c : Nat} {x y : Vl} (h : isE r c x y = true) : ∃ w, r = .er ⟨c, x, y⟩ w := by
  cases r with
  | er e w =>
    obtain ⟨c', x', y'⟩ := e
    simp only [isE, Bool.and_eq_true, beq_iff_eq] at h
    refine ⟨w, ?_⟩
    rw [h.1.1, (beqV_eq (sizeOf x' + 1)).1 x' x (by omega) h.1.2, (beqV_eq (sizeOf y' + 1)).1 y' y (by omega) h.2]
  | ok => cases h
  | no => cases h
/-! ### dicts -/
theorem find_mapV {κ : Type} [DecidableEq κ] (k k' : κ) (v : Vl) : ∀ kvs : List (κ × Vl), (kvs.any fun kv => decide (kv.1 = k)) = true → ((kvs.map fun kv => if kv.1 = k then (kv.1, v) else kv).find? fun kv => decide (kv.1 = k')).map (·.2) = if k' = k then some v else (kvs.find? fun kv => decide (kv.1 = k')).map (·.2)
  | [], h => by simp at h
  | (a, b) :: r, h => by
    by_cases ha : a = k
    · subst ha
      by_cases hk : a = k'
      · subst hk; simp
      · have hk' : ¬ k' = a := fun z => hk z.symm
        simp only [List.map_cons, if_true, List.find?_cons, hk, decide_false, if_neg hk']
        by_cases hr : (r.any fun kv => decide (kv.1 = a)) = true
        · rw [find_mapV a k' v r hr, if_neg hk']
        · have : (r.map fun kv => if kv.1 = a then (kv.1, v) else kv) = r := by
            conv => rhs; rw [← List.map_id r]
            apply List.map_congr_left
            intro x hx
            have : ¬ x.1 = a := fun z => hr (List.any_eq_true.mpr ⟨x, hx, by simpa using z⟩)
            simp [this]
          rw [this]
    · have hr : (r.any fun kv => decide (kv.1 = k)) = true := by simpa [ha] using h
      simp only [List.map_cons, if_neg ha, List.find?_cons]
      by_cases hk : a = k'
      · subst hk
        have : ¬ a = k := ha
        simp [this]
      · simp only [hk, decide_false]
        exact find_mapV k k' v r hr
theorem valV_put {κ : Type} [DecidableEq κ] (kvs : List (κ × Vl)) (k k' : κ) (v : Vl) : valV (putV kvs k v) k' = if k' = k then some v else valV kvs k' := by
  unfold putV
  by_cases h : (kvs.any fun kv => decide (kv.1 = k)) = true
  · rw [if_pos h]
    exact find_mapV k k' v kvs h
  · rw [if_neg h]
    unfold valV
    rw [List.find?_append]
    by_cases hk : k' = k
    · subst hk
      have : (kvs.find? fun kv => decide (kv.1 = k')) = none := List.find?_eq_none.mpr fun x hx => by
        intro z
        exact h (List.any_eq_true.mpr ⟨x, hx, z⟩)
      rw [this]
      simp
    · have hk' : ¬ k = k' := fun z => hk z.symm
      rw [if_neg hk]
      simp [hk']
theorem putV_len {κ : Type} [DecidableEq κ] (kvs : List (κ × Vl)) (k : κ) (v : Vl) : (putV kvs k v).length ≤ kvs.length + 1 := by
  unfold putV
  split
  · simp
  · simp
/-- a key of whole numbers -/
def kyN (xs : List Nat) : List Key := xs.map fun (x : Nat) => (Sum.inl (x : Int) : Key)
theorem vkeys_row (xs : List Nat) : vkeys (natV xs) = some (kyN xs) := by
  induction xs with
  | nil => rfl
  | cons x xs ih =>
    have e : vkeys (natV (x :: xs)) = match vkey (nv x), vkeys (natV xs) with
      | some k, some ks => some (k :: ks)
      | _, _ => none := rfl
    rw [e, ih]
    rfl
theorem kyN_inj {xs ys : List Nat} : kyN xs = kyN ys ↔ xs = ys := by
  constructor
  · intro h
    exact (List.map_inj_right (fun a b e => by injection e with e; omega)).mp h
  · intro h; rw [h]
theorem gIx_dT {kvs : List (List Key × Vl)} {xs : List Nat} {v : Vl} (h : valV kvs (kyN xs) = some v) : gIx (.dT kvs) (rowV xs) = some v := by
  show ((vkeys (natV xs)).map fun js => valV kvs js).bind id = _
  rw [vkeys_row, Option.map_some, h]
  rfl
theorem gIn_dT (neg : Bool) (kvs : List (List Key × Vl)) (xs : List Nat) : gIn neg (rowV xs) (.dT kvs) = some (.bl (if neg then !(valV kvs (kyN xs)).isSome else (valV kvs (kyN xs)).isSome)) := by
  show (((vkeys (natV xs)).map fun js => valV kvs js).map _) = _
  rw [vkeys_row]
  rfl
theorem set_dT {kvs : List (List Key × Vl)} {xs : List Nat} {v : Vl} (hl : kvs.length < 16777216) : setVl (.dT kvs) (rowV xs) v = some (.dT (putV kvs (kyN xs) v)) := by
  show (if kvs.length < 16777216 then (vkeys (natV xs)).map fun js => Vl.dT (putV kvs js v) else none) = _
  rw [if_pos hl, vkeys_row]
  rfl
theorem q_sub {i c : Nat} {z e : VE} {ve : VEnv} {w w1 w2 : Wo} {o k x o' : Vl} (h : e ve w = .ok x w1) (hi : ve[i]? = some (some o)) (hz : z ve w1 = .ok k w2) (hc : chk c x = true) (hs : setVl o k x = some o') : vSub c i z e ve w = .nx (ve.set i (some o')) w2 := by
  unfold vSub
  rw [h, VR.toS_ok, hi, isVal_some, if_pos rfl, hz, VR.toS_ok]
  simp only [subV, hc, if_true, hs, nxV_some]
/-! ### the least that is missing -/
def v_mex : VF := vFn 2 1 (vSeq (vSet 0 1 (vC (.int 0))) (vSeq (vWhile (vCmp (gIn false) (vV 1) (vV 0)) (vSet 2 1 (vOp gAdd (vV 1) (vC (.int 1))))) (vRet (vV 1))))
theorem mex_v {xs : List Nat} (hl : xs.length < 999999) (w : Wo) : v_mex [.lst (natV xs)] w = .ok (nv (mex xs)) w := by
  refine q_fn rfl (q_nx (q_set (x := nv 0) rfl rfl) (q_nx (ve' := [some (.lst (natV xs)), some (nv (mex xs))]) ?_ (q_ret rfl))) rfl
  refine vWhile_rule (fun m ve w' => ∃ n : Nat, n ≤ mex xs ∧ m = mex xs - n ∧ ve = [some (.lst (natV xs)), some (nv n)] ∧ w' = w) (fun r => r = .nx [some (.lst (natV xs)), some (nv (mex xs))] w) (mex xs) (by have := mex_le xs; omega) ⟨0, Nat.zero_le _, rfl, rfl, rfl⟩ ?_
  rintro m ve w' ⟨n, hn, rfl, rfl, rfl⟩
  refine ⟨xs.contains n, w', q_cmp rfl rfl (gIn_lst false n xs), fun hb => ?_, fun hb => ?_⟩
  · have : n ∉ xs := by simpa using hb
    rw [show n = mex xs from (mex_unique this fun m hm => mex_below xs m (by omega)).symm]
  · have hin : n ∈ xs := by simpa using hb
    have hlt : n < mex xs := by
      by_cases e : n = mex xs
      · rw [e] at hin; exact absurd hin (mex_notin xs)
      · omega
    exact ⟨_, q_set (x := nv (n + 1)) (q_op rfl rfl rfl) rfl, mex xs - (n + 1), by omega, n + 1, by omega, rfl, rfl, rfl⟩
end Gv
namespace Gv
open PySem PySem.Spec L2

/-! ### plain values -/
mutual
def plV : Vl → Bool
  | .non => true
  | .bl _ => true
  | .int _ => true
  | .str x => PyData.strOk x
  | .tup xs => plVs xs
  | _ => false
def plVs : List Vl → Bool
  | [] => true
  | x :: xs => plV x && plVs xs
end
mutual
def dpV : Vl → Nat
  | .tup xs => dpVs xs + 1
  | _ => 0
def dpVs : List Vl → Nat
  | [] => 0
  | x :: xs => max (dpV x) (dpVs xs)
end
mutual
/-- no truth value in it -/
def nbV : Vl → Bool
  | .bl _ => false
  | .tup xs => nbVs xs
  | _ => true
def nbVs : List Vl → Bool
  | [] => true
  | x :: xs => nbV x && nbVs xs
end
theorem pl_pd : ∀ (n : Nat), (∀ v : Vl, sizeOf v < n → plV v = true → ∃ p, vpd v = some p ∧ p.canLay0 = true ∧ p.depth ≤ dpV v ∧ PyData.eqv p p = true) ∧ ∀ vs : List Vl, sizeOf vs < n → plVs vs = true → ∃ ps, vpds vs = some ps ∧ PyData.canLayAll0 ps = true ∧ PyData.depthAll ps ≤ dpVs vs ∧ PyData.eqvAll ps ps = true := by
  intro n
  induction n with
  | zero => exact ⟨fun _ h => by omega, fun _ h => by omega⟩
  | succ n ih =>
    refine ⟨fun v hs h => ?_, fun vs hs h => ?_⟩
    · cases v with
      | non => exact ⟨_, rfl, by simp [PyData.canLay0], by simp [PyData.depth], by simp [PyData.eqv]⟩
      | bl b => exact ⟨_, rfl, by simp [PyData.canLay0], by simp [PyData.depth], by simp [PyData.eqv]⟩
      | int b => exact ⟨_, rfl, by simp [PyData.canLay0], by simp [PyData.depth], by simp [PyData.eqv]⟩
      | str b => exact ⟨_, rfl, by simpa [PyData.canLay0, plV] using h, by simp [PyData.depth], by simp [PyData.eqv]⟩
      | tup xs =>
        obtain ⟨ps, e, h1, h2, h3⟩ := ih.2 xs (by simp at hs; omega) h
        exact ⟨.tuple ps, by simp [vpd, e], by simpa [PyData.canLay0] using h1, by simp only [PyData.depth, dpV]; omega, by simpa [PyData.eqv] using h3⟩
      | _ => cases h
    · cases vs with
      | nil => exact ⟨[], rfl, by simp [PyData.canLayAll0], by simp [PyData.depthAll], by simp [PyData.eqvAll]⟩
      | cons x xs =>
        simp at hs
        simp only [plVs, Bool.and_eq_true] at h
        obtain ⟨p, e, h1, h2, h3⟩ := ih.1 x (by omega) h.1
        obtain ⟨ps, e', h1', h2', h3'⟩ := ih.2 xs (by omega) h.2
        exact ⟨p :: ps, by rw [vpds, e, e'], by simp [PyData.canLayAll0, h1, h1'], by simp only [PyData.depthAll, dpVs]; omega, by simp [PyData.eqvAll, h3, h3']⟩
theorem eqv_beq : ∀ (n : Nat), (∀ (v u : Vl) (p q : PyData), sizeOf v < n → plV v = true → plV u = true → nbV v = true → nbV u = true → vpd v = some p → vpd u = some q → PyData.eqv p q = beqV v u) ∧
    ∀ (vs us : List Vl) (ps qs : List PyData), sizeOf vs < n → plVs vs = true → plVs us = true → nbVs vs = true → nbVs us = true → vpds vs = some ps → vpds us = some qs → PyData.eqvAll ps qs = beqVs vs us := by
  intro n
  induction n with
  | zero => exact ⟨fun _ _ _ _ h => by omega, fun _ _ _ _ h => by omega⟩
  | succ n ih =>
    refine ⟨fun v u p q hs h1 h2 h3 h4 e1 e2 => ?_, fun vs us ps qs hs h1 h2 h3 h4 e1 e2 => ?_⟩
    · cases v with
      | non =>
        cases e1
        cases u with
        | non => cases e2; simp [PyData.eqv, beqV]
        | int => cases e2; simp [PyData.eqv, beqV]
        | str => cases e2; simp [PyData.eqv, beqV]
        | tup => simp only [vpd, Option.map_eq_some_iff] at e2; obtain ⟨ps, _, rfl⟩ := e2; simp [PyData.eqv, beqV]
        | bl => cases h4
        | _ => cases h2
      | int i =>
        cases e1
        cases u with
        | non => cases e2; simp [PyData.eqv, beqV]
        | int => cases e2; simp [PyData.eqv, beqV]
        | str => cases e2; simp [PyData.eqv, beqV]
        | tup => simp only [vpd, Option.map_eq_some_iff] at e2; obtain ⟨ps, _, rfl⟩ := e2; simp [PyData.eqv, beqV]
        | bl => cases h4
        | _ => cases h2
      | str i =>
        cases e1
        cases u with
        | non => cases e2; simp [PyData.eqv, beqV]
        | int => cases e2; simp [PyData.eqv, beqV]
        | str j => cases e2; simp only [PyData.eqv, beqV]; by_cases z : i = j <;> simp [z]
        | tup => simp only [vpd, Option.map_eq_some_iff] at e2; obtain ⟨ps, _, rfl⟩ := e2; simp [PyData.eqv, beqV]
        | bl => cases h4
        | _ => cases h2
      | tup xs =>
        simp only [vpd, Option.map_eq_some_iff] at e1
        obtain ⟨ps, e1, rfl⟩ := e1
        cases u with
        | non => cases e2; simp [PyData.eqv, beqV]
        | int => cases e2; simp [PyData.eqv, beqV]
        | str => cases e2; simp [PyData.eqv, beqV]
        | tup ys =>
          simp only [vpd, Option.map_eq_some_iff] at e2
          obtain ⟨qs, e2, rfl⟩ := e2
          simp only [PyData.eqv, beqV]
          exact ih.2 xs ys ps qs (by simp at hs; omega) h1 h2 h3 h4 e1 e2
        | bl => cases h4
        | _ => cases h2
      | bl => cases h3
      | _ => cases h1
    · cases vs with
      | nil =>
        cases e1
        cases us with
        | nil => cases e2; simp [PyData.eqvAll, beqVs]
        | cons u us => obtain ⟨q, qs', rfl, _, _⟩ := vpds_cons e2; simp [PyData.eqvAll, beqVs]
      | cons v vs =>
        obtain ⟨p, ps', rfl, a1, a2⟩ := vpds_cons e1
        cases us with
        | nil => cases e2; simp [PyData.eqvAll, beqVs]
        | cons u us =>
          obtain ⟨q, qs', rfl, b1, b2⟩ := vpds_cons e2
          simp at hs
          simp only [plVs, nbVs, Bool.and_eq_true] at h1 h2 h3 h4
          simp only [PyData.eqvAll, beqVs, ih.1 v u p q (by omega) h1.1 h2.1 h3.1 h4.1 a1 b1, ih.2 vs us ps' qs' (by omega) h1.2 h2.2 h3.2 h4.2 a2 b2]
theorem beqV_refl : ∀ (n : Nat), (∀ v : Vl, sizeOf v < n → plV v = true → beqV v v = true) ∧ ∀ vs : List Vl, sizeOf vs < n → plVs vs = true → beqVs vs vs = true := by
  intro n
  induction n with
  | zero => exact ⟨fun _ h => by omega, fun _ h => by omega⟩
  | succ n ih =>
    refine ⟨fun v hs h => ?_, fun vs hs h => ?_⟩
    · cases v with
      | tup xs => simp only [beqV]; exact ih.2 xs (by simp at hs; omega) h
      | lst => cases h
      | dK => cases h
      | dT => cases h
      | _ => simp [beqV]
    · cases vs with
      | nil => rfl
      | cons x xs =>
        simp at hs
        simp only [plVs, Bool.and_eq_true] at h
        simp only [beqVs, ih.1 x (by omega) h.1, ih.2 xs (by omega) h.2, Bool.and_self]
theorem vpdS_pl {v : Vl} (h : plV v = true) : vpdS v = vpd v := by cases v <;> first | rfl | cases h
theorem shaped_of {p : PyData} (h : p.canLay0 = true) (h2 : p.depth ≤ 64) : SeqAt.shaped p = true := by simp [SeqAt.shaped, h, h2]
/-- a plain value is itself -/
theorem gEqD_self {x : Vl} (neg : Bool) (h : plV x = true) (hd : dpV x ≤ 64) : gEqD neg x x = some (.bl (!neg)) := by
  obtain ⟨p, e, h1, h2, h3⟩ := (pl_pd (sizeOf x + 1)).1 x (by omega) h
  unfold gEqD
  cases hi : itup x with
  | some ns => simp only [decide_true]; cases neg <;> rfl
  | none =>
    simp only [vpdS_pl h, e]
    rw [if_pos ⟨shaped_of h1 (by omega), shaped_of h1 (by omega)⟩, h3]
    cases neg <;> rfl
theorem gEqD_pl {x y : Vl} (neg : Bool) (h : plV x = true) (h' : plV y = true) (hb : nbV x = true) (hb' : nbV y = true) (hd : dpV x ≤ 64) (hd' : dpV y ≤ 64) : gEqD neg x y = some (.bl (if neg then !beqV x y else beqV x y)) := by
  obtain ⟨p, e, h1, h2, h3⟩ := (pl_pd (sizeOf x + 1)).1 x (by omega) h
  obtain ⟨q, e', h1', h2', h3'⟩ := (pl_pd (sizeOf y + 1)).1 y (by omega) h'
  have key := (eqv_beq (sizeOf x + 1)).1 x y p q (by omega) h h' hb hb' e e'
  unfold gEqD
  split
  · rename_i ns ms a b
    -- rows of whole numbers
    have inj : ∀ {v : Vl} {ns : List Int}, itup v = some ns → v = .tup (ns.map .int) := fun {v ns} hv => by
      cases v with
      | tup xs =>
        have : ∀ (xs : List Vl) (ns : List Int), vints xs = some ns → xs = ns.map .int := fun xs => by
          induction xs with
          | nil => intro ns h; cases h; rfl
          | cons x xs ih =>
            intro ns h
            cases x with
            | int i =>
              simp only [vints, Option.map_eq_some_iff] at h
              obtain ⟨bs, h, rfl⟩ := h
              rw [ih bs h]; rfl
            | _ => cases h
        rw [this xs ns hv]
      | _ => cases hv
    have hx := inj a
    have hy := inj b
    have hbq : beqV x y = decide (ns = ms) := by
      rw [Bool.eq_iff_iff, decide_eq_true_iff]
      constructor
      · intro hh
        have := (beqV_eq (sizeOf x + 1)).1 x y (by omega) hh
        rw [hx, hy] at this
        injection this with this
        exact (List.map_inj_right (fun a b e => by injection e)).mp this
      · intro hh
        rw [hy, ← hh, ← hx]
        exact (beqV_refl (sizeOf x + 1)).1 x (by omega) h
    rw [hbq]
  · simp only [vpdS_pl h, vpdS_pl h', e, e']
    rw [if_pos ⟨shaped_of h1 (by omega), shaped_of h1' (by omega)⟩, key]
theorem gEq_self {x : Vl} (h : plV x = true) (hd : dpV x ≤ 64) : gEq x x = some (.bl true) := by
  cases x with
  | int i => show some (Vl.bl (decide (i = i))) = _; rw [decide_eq_true rfl]
  | str i => show some (Vl.bl (decide (i = i))) = _; rw [decide_eq_true rfl]
  | bl i => show some (Vl.bl (decide (i = i))) = _; rw [decide_eq_true rfl]
  | tup xs => exact gEqD_self false h hd
  | non => exact gEqD_self false h hd
  | _ => cases h
theorem gNe_self {x : Vl} (h : plV x = true) (hd : dpV x ≤ 64) : gNe x x = some (.bl false) := by
  cases x with
  | int i => show some (Vl.bl (!decide (i = i))) = _; rw [decide_eq_true rfl]; rfl
  | str i => show some (Vl.bl (!decide (i = i))) = _; rw [decide_eq_true rfl]; rfl
  | bl i => show some (Vl.bl (!decide (i = i))) = _; rw [decide_eq_true rfl]; rfl
  | tup xs => exact gEqD_self true h hd
  | non => exact gEqD_self true h hd
  | _ => cases h
theorem gEq_str (a b : Str) : gEq (.str a) (.str b) = some (.bl (decide (a = b))) := rfl
theorem gNe_str (a b : Str) : gNe (.str a) (.str b) = some (.bl (!decide (a = b))) := rfl
theorem plVs_map {α : Type} (e : α → Vl) (xs : List α) (h : ∀ a ∈ xs, plV (e a) = true) : plVs (xs.map e) = true := by
  induction xs with
  | nil => rfl
  | cons x xs ih => rw [List.map_cons, plVs, h x List.mem_cons_self, ih fun a ha => h a (List.mem_cons_of_mem _ ha)]; rfl
theorem dpVs_map {α : Type} (e : α → Vl) (n : Nat) (xs : List α) (h : ∀ a ∈ xs, dpV (e a) ≤ n) : dpVs (xs.map e) ≤ n := by
  induction xs with
  | nil => exact Nat.zero_le _
  | cons x xs ih =>
    have h1 := h x List.mem_cons_self
    have h2 := ih fun a ha => h a (List.mem_cons_of_mem _ ha)
    rw [List.map_cons, dpVs]
    omega
theorem nbVs_map {α : Type} (e : α → Vl) (xs : List α) (h : ∀ a ∈ xs, nbV (e a) = true) : nbVs (xs.map e) = true := by
  induction xs with
  | nil => rfl
  | cons x xs ih => rw [List.map_cons, nbVs, h x List.mem_cons_self, ih fun a ha => h a (List.mem_cons_of_mem _ ha)]; rfl
theorem pl_row (xs : List Nat) : plV (rowV xs) = true := plVs_map nv xs fun _ _ => rfl
theorem nb_row (xs : List Nat) : nbV (rowV xs) = true := nbVs_map nv xs fun _ _ => rfl
theorem dp_row (xs : List Nat) : dpV (rowV xs) ≤ 1 := by
  have := dpVs_map nv 0 xs fun _ _ => Nat.le_refl _
  show dpVs (natV xs) + 1 ≤ 1
  unfold natV
  omega
theorem pl_rows {α : Type} (f : α → List Nat) (xs : List α) : plV (.tup (xs.map fun a => rowV (f a))) = true := plVs_map (fun a => rowV (f a)) xs fun a _ => pl_row (f a)
theorem nb_rows {α : Type} (f : α → List Nat) (xs : List α) : nbV (.tup (xs.map fun a => rowV (f a))) = true := nbVs_map (fun a => rowV (f a)) xs fun a _ => nb_row (f a)
theorem dp_rows {α : Type} (f : α → List Nat) (xs : List α) : dpV (.tup (xs.map fun a => rowV (f a))) ≤ 2 := by
  have := dpVs_map (fun a => rowV (f a)) 1 xs fun a _ => dp_row (f a)
  show dpVs _ + 1 ≤ 2
  omega
/-! ### menu[draw] -/
def v_pick : VF := vFnD 2 2 (vRet (vOp gIx (vV 1) (vDraw (vCB gLen (vCons (vV 1) vNil)))))
theorem flatL_get {xs : List Vl} (h : flatL xs = true) {i : Nat} {x : Vl} (e : xs[i]? = some x) : x.flat = true := by
  induction xs generalizing i with
  | nil => simp at e
  | cons y ys ih =>
    simp only [flatL, Bool.and_eq_true] at h
    cases i with
    | zero => cases e; exact h.1
    | succ i => exact ih h.2 (by simpa using e)
theorem pick_v {v : Vl} {xs : List Vl} (hv : v = .lst xs ∨ v = .tup xs) (hl : 0 < xs.length) (h2 : xs.length < 1073741824) (hf : flatL xs = true) (w : Wo) : ∃ (r : Nat) (x : Vl) (w' : Wo), v_pick [v] w = .ok x w' ∧ xs[r]? = some x := by
  have hd : ∃ (r : Nat) (w' : Wo), vDraw (vCB gLen (vCons (vV 1) vNil)) [none, some v] w = .ok (.int r) w' ∧ r < xs.length := by
    refine q_draw (w1 := w) ?_ hl h2
    rcases hv with rfl | rfl
    · exact q_cb (q_cons rfl q_nil) rfl
    · exact q_cb (q_cons rfl q_nil) rfl
  obtain ⟨r, w', e, hr⟩ := hd
  refine ⟨r, xs[r], w', q_fnD rfl (q_ret (q_op (x := v) (y := .int r) rfl e ?_)) (okC_flat ?_), List.getElem?_eq_getElem hr⟩
  · rcases hv with rfl | rfl
    · exact gIx_lst (List.getElem?_eq_getElem hr)
    · exact gIx_tup (List.getElem?_eq_getElem hr)
  · simp only [flatL, Bool.and_true]
    exact flatL_get hf (List.getElem?_eq_getElem hr)
end Gv
namespace Gv
open PySem PySem.Spec L2

/-! ### sorting rows of whole numbers -/
def leL : List Nat → List Nat → Bool
  | [], _ => true
  | _ :: _, [] => false
  | a :: as, b :: bs => if a = b then leL as bs else Nat.blt a b
theorem leL_total : ∀ a b : List Nat, (leL a b || leL b a) = true
  | [], b => by simp [leL]
  | a :: as, [] => by simp [leL]
  | a :: as, b :: bs => by
    simp only [leL]
    by_cases h : a = b
    · subst h
      simpa using leL_total as bs
    · have h' : ¬ b = a := fun z => h z.symm
      simp only [if_neg h, if_neg h', Bool.or_eq_true, Nat.blt_eq]
      omega
theorem leL_trans : ∀ a b c : List Nat, leL a b = true → leL b c = true → leL a c = true
  | [], _, _, _, _ => by simp [leL]
  | a :: as, [], _, h, _ => by simp [leL] at h
  | a :: as, b :: bs, [], _, h => by simp [leL] at h
  | a :: as, b :: bs, c :: cs, h1, h2 => by
    simp only [leL] at h1 h2 ⊢
    by_cases e1 : a = b
    · subst e1
      rw [if_pos rfl] at h1
      by_cases e2 : a = c
      · subst e2
        rw [if_pos rfl] at h2 ⊢
        exact leL_trans as bs cs h1 h2
      · rw [if_neg e2] at h2 ⊢; exact h2
    · rw [if_neg e1] at h1
      by_cases e2 : b = c
      · subst e2; rw [if_neg e1]; exact h1
      · rw [if_neg e2] at h2
        simp only [Nat.blt_eq] at h1 h2
        rw [if_neg (by omega), Nat.blt_eq]
        omega
def inz (r : List Nat) : List Int := r.map fun (x : Nat) => (x : Int)
theorem vpds_nat (r : List Nat) : vpds (natV r) = some ((inz r).map PyData.int) := by
  induction r with
  | nil => rfl
  | cons x r ih =>
    have e : vpds (natV (x :: r)) = match vpd (nv x), vpds (natV r) with
      | some p, some ps => some (p :: ps)
      | _, _ => none := rfl
    rw [e, ih]
    rfl
theorem vpd_row (r : List Nat) : vpd (rowV r) = some (.tuple ((inz r).map PyData.int)) := by
  show (vpds (natV r)).map _ = _
  rw [vpds_nat]
  rfl
theorem vpdG_row (r : List Nat) : vpdG (rowV r) = .tuple ((inz r).map PyData.int) := by rw [vpdG, vpd_row]; rfl
theorem inz_cons (a : Nat) (as : List Nat) : inz (a :: as) = (a : Int) :: inz as := rfl
theorem lt_iff : ∀ a b : List Nat, ¬ inz b < inz a ↔ leL a b = true
  | [], b => by simp [leL, inz]
  | a :: as, [] => by simp [leL, inz]
  | a :: as, b :: bs => by
    have ih := lt_iff as bs
    rw [inz_cons, inz_cons, List.cons_lt_cons_iff, leL]
    by_cases h : a = b
    · subst h
      rw [if_pos rfl, ← ih]
      constructor
      · intro h1 h2; exact h1 (.inr ⟨rfl, h2⟩)
      · rintro h1 (h2 | ⟨_, h2⟩)
        · omega
        · exact h1 h2
    · rw [if_neg h, Nat.blt_eq]
      constructor
      · intro h1
        have : ¬ (b : Int) < a := fun z => h1 (.inl z)
        omega
      · rintro h1 (h2 | ⟨h2, _⟩)
        · omega
        · omega
theorem lt_ints (a b : List Nat) : (!decide (inz b < inz a)) = leL a b := by
  rw [Bool.eq_iff_iff, ← lt_iff]
  simp
theorem dlt_row (a b : List Nat) : PySem.W.dataLt (.tuple ((inz a).map PyData.int)) (.tuple ((inz b).map PyData.int)) = decide (inz a < inz b) := by
  rw [PySem.W.dataLt_tuple]
  exact PySem.W.dataLt_ints _ _
theorem dle_row (a b : List Nat) : PySem.W.dataLe false vpdG (rowV a) (rowV b) = leL a b := by
  rw [PySem.W.dataLe_eq]
  show (!PySem.W.dataLt (vpdG (rowV b)) (vpdG (rowV a))) = _
  rw [vpdG_row, vpdG_row, dlt_row, lt_ints]
theorem sortOk_rowsV {rows : List (List Nat)} (hne : ∀ r ∈ rows, r ≠ []) (hl : rows.length ≤ 16777216) : vsortOk (rows.map rowV) = true := by
  have h1 : (rows.map rowV).all (fun d => (vpd d).isSome) = true := by
    rw [List.all_eq_true]
    intro d hd
    obtain ⟨r, _, rfl⟩ := List.mem_map.mp hd
    rw [vpd_row]
    rfl
  have h2 : ((rows.map rowV).all fun a => (rows.map rowV).all fun b => PySem.W.alike (vpdG a) (vpdG b)) = true := by
    rw [List.all_eq_true]
    intro d hd
    rw [List.all_eq_true]
    intro d' hd'
    obtain ⟨r, _, rfl⟩ := List.mem_map.mp hd
    obtain ⟨r', _, rfl⟩ := List.mem_map.mp hd'
    rw [vpdG_row, vpdG_row]
    simp only [PySem.W.alike]
    exact PySem.W.alike_ints _ _
  have h3 : (rows.map rowV).all (fun d => tupB (vpdG d)) = true := by
    rw [List.all_eq_true]
    intro d hd
    obtain ⟨r, hr, rfl⟩ := List.mem_map.mp hd
    rw [vpdG_row]
    cases r with
    | nil => exact absurd rfl (hne [] hr)
    | cons a r => rfl
  have h4 : (rows.map rowV).all (fun d => decide ((vpdG d).depth ≤ 60)) = true := by
    rw [List.all_eq_true]
    intro d hd
    obtain ⟨r, hr, rfl⟩ := List.mem_map.mp hd
    rw [vpdG_row, PyData.depth, PySem.W.depth_ints]
    decide
  simp only [vsortOk, h1, h2, h3, h4, Bool.true_or, Bool.and_self, List.length_map, hl, decide_true]
theorem sorted_rowsV {rows : List (List Nat)} (hne : ∀ r ∈ rows, r ≠ []) (hl : rows.length ≤ 16777216) :
    gSorted [.lst (rows.map rowV)] = some (.lst ((rows.mergeSort leL).map rowV)) := by
  have e : vsort (rows.map rowV) = (rows.mergeSort leL).map rowV := by
    rw [vsort_ms, List.map_mergeSort (r := leL) (s := PySem.W.dataLe false vpdG) (f := rowV) (l := rows) fun a _ b _ => (dle_row a b).symm]
  show (if vsortOk (rows.map rowV) = true then some (Vl.lst (vsort (rows.map rowV))) else none) = _
  rw [if_pos (sortOk_rowsV hne hl), e]
/-! ### pairs (number, row) -/
def pairV (p : Nat × List Nat) : Vl := .tup [nv p.1, rowV p.2]
def leP (p q : Nat × List Nat) : Bool := leL (p.1 :: p.2) (q.1 :: q.2)
theorem vpd_pair (p : Nat × List Nat) : vpd (pairV p) = some (.tuple [.int p.1, .tuple ((inz p.2).map PyData.int)]) := by
  have e : vpd (pairV p) = (vpds [nv p.1, rowV p.2]).map .tuple := rfl
  rw [e, vpds, vpds, vpd_row]
  rfl
theorem vpdG_pair (p : Nat × List Nat) : vpdG (pairV p) = .tuple [.int p.1, .tuple ((inz p.2).map PyData.int)] := by rw [vpdG, vpd_pair]; rfl
theorem eqvAll_ints : ∀ a b : List Nat, PyData.eqvAll ((inz a).map PyData.int) ((inz b).map PyData.int) = decide (a = b)
  | [], [] => by simp [inz, PyData.eqvAll]
  | [], b :: bs => by simp [inz, PyData.eqvAll]
  | a :: as, [] => by simp [inz, PyData.eqvAll]
  | a :: as, b :: bs => by
    have ih := eqvAll_ints as bs
    simp only [inz] at ih
    simp only [inz, List.map_cons, PyData.eqvAll, ih, PyData.eqv, List.cons.injEq]
    by_cases h : a = b
    · simp [h]
    · have : ¬ (a : Int) = b := by omega
      simp [h, this]
theorem alike_pair (p q : Nat × List Nat) : PySem.W.alike (vpdG (pairV p)) (vpdG (pairV q)) = true := by
  rw [vpdG_pair, vpdG_pair]
  simp [PySem.W.alike, PySem.W.alikeAll]
  exact PySem.W.alike_ints _ _
theorem dle_pair (p q : Nat × List Nat) : PySem.W.dataLe false vpdG (pairV p) (pairV q) = leP p q := by
  rw [PySem.W.dataLe_eq]
  show (!PySem.W.dataLt (vpdG (pairV q)) (vpdG (pairV p))) = _
  rw [vpdG_pair, vpdG_pair, PySem.W.dataLt_pair (by simp [PySem.W.alike]) (by simp only [PySem.W.alike]; exact PySem.W.alike_ints _ _), dlt_row, PySem.W.dataLt_int]
  simp only [PyData.eqv, eqvAll_ints, leP, leL, beq_iff_eq]
  by_cases h : p.1 = q.1
  · have h1 : (q.1 : Int) = p.1 := by omega
    rw [if_pos h1, if_pos h]
    by_cases h2 : q.2 = p.2
    · rw [decide_eq_true h2, if_pos rfl, h2]
      have := leL_total p.2 p.2
      simpa using this.symm
    · rw [decide_eq_false h2, if_neg Bool.false_ne_true, lt_ints]
  · have h1 : ¬ (q.1 : Int) = p.1 := by omega
    rw [if_neg h1, if_neg h, Bool.eq_iff_iff]
    simp only [Bool.not_eq_true', decide_eq_false_iff_not, Nat.blt_eq]
    omega
theorem sorted_pairsV {ps : List (Nat × List Nat)} (hl : ps.length ≤ 16777216) :
    ∃ S : List (Nat × List Nat), S.Perm ps ∧ S.Pairwise (fun a b => a.1 ≤ b.1) ∧ gSorted [.lst (ps.map pairV)] = some (.lst (S.map pairV)) := by
  refine ⟨ps.mergeSort leP, List.mergeSort_perm _ _, ?_, ?_⟩
  · refine (List.pairwise_mergeSort (le := leP) (fun a b c => leL_trans _ _ _) (fun a b => leL_total _ _) ps).imp ?_
    intro a b h
    simp only [leP, leL] at h
    by_cases e : a.1 = b.1
    · omega
    · rw [if_neg e, Nat.blt_eq] at h; omega
  · have e : vsort (ps.map pairV) = (ps.mergeSort leP).map pairV := by
      rw [vsort_ms, List.map_mergeSort (r := leP) (s := PySem.W.dataLe false vpdG) (f := pairV) (l := ps) fun a _ b _ => (dle_pair a b).symm]
    have h1 : (ps.map pairV).all (fun d => (vpd d).isSome) = true := by
      rw [List.all_eq_true]
      intro d hd
      obtain ⟨r, _, rfl⟩ := List.mem_map.mp hd
      rw [vpd_pair]
      rfl
    have h2 : ((ps.map pairV).all fun a => (ps.map pairV).all fun b => PySem.W.alike (vpdG a) (vpdG b)) = true := by
      rw [List.all_eq_true]
      intro d hd
      rw [List.all_eq_true]
      intro d' hd'
      obtain ⟨r, _, rfl⟩ := List.mem_map.mp hd
      obtain ⟨r', _, rfl⟩ := List.mem_map.mp hd'
      exact alike_pair r r'
    have h3 : (ps.map pairV).all (fun d => tupB (vpdG d)) = true := by
      rw [List.all_eq_true]
      intro d hd
      obtain ⟨r, hr, rfl⟩ := List.mem_map.mp hd
      rw [vpdG_pair]
      rfl
    have h4 : (ps.map pairV).all (fun d => decide ((vpdG d).depth ≤ 60)) = true := by
      rw [List.all_eq_true]
      intro d hd
      obtain ⟨r, hr, rfl⟩ := List.mem_map.mp hd
      rw [vpdG_pair]
      simp [PyData.depth, PyData.depthAll, PySem.W.depth_ints]
    show (if vsortOk (ps.map pairV) = true then some (Vl.lst (vsort (ps.map pairV))) else none) = _
    rw [if_pos (by simp only [vsortOk, h1, h2, h3, h4, Bool.true_or, Bool.and_self, List.length_map, hl, decide_true]), e]
/-! ### sorting whole numbers -/
theorem sorted_natV {xs : List Nat} (hl : xs.length ≤ 16777216) : gSorted [.lst (natV xs)] = some (.lst (natV (xs.mergeSort fun a b => Nat.ble a b))) := by
  have hd : ∀ a b : Nat, PySem.W.dataLe false vpdG (nv a) (nv b) = Nat.ble a b := fun a b => by
    rw [PySem.W.dataLe_eq]
    show (!PySem.W.dataLt (.int b) (.int a)) = _
    rw [PySem.W.dataLt_int, Bool.eq_iff_iff]
    simp only [Bool.not_eq_true', decide_eq_false_iff_not, Nat.ble_eq]
    omega
  have e : vsort (natV xs) = natV (xs.mergeSort fun a b => Nat.ble a b) := by
    rw [vsort_ms, natV, natV, List.map_mergeSort (r := fun a b => Nat.ble a b) (s := PySem.W.dataLe false vpdG) (f := nv) (l := xs) fun a _ b _ => (hd a b).symm]
  have h1 : (natV xs).all (fun d => (vpd d).isSome) = true := by
    rw [List.all_eq_true]
    intro d hd
    obtain ⟨r, _, rfl⟩ := List.mem_map.mp hd
    rfl
  have h2 : ((natV xs).all fun a => (natV xs).all fun b => PySem.W.alike (vpdG a) (vpdG b)) = true := by
    rw [List.all_eq_true]
    intro d hd
    rw [List.all_eq_true]
    intro d' hd'
    obtain ⟨r, _, rfl⟩ := List.mem_map.mp hd
    obtain ⟨r', _, rfl⟩ := List.mem_map.mp hd'
    rfl
  have h3 : (natV xs).all (fun d => othB (vpdG d)) = true := by
    rw [List.all_eq_true]
    intro d hd
    obtain ⟨r, hr, rfl⟩ := List.mem_map.mp hd
    rfl
  have h4 : (natV xs).all (fun d => decide ((vpdG d).depth ≤ 60)) = true := by
    rw [List.all_eq_true]
    intro d hd
    obtain ⟨r, hr, rfl⟩ := List.mem_map.mp hd
    rfl
  show (if vsortOk (natV xs) = true then some (Vl.lst (vsort (natV xs))) else none) = _
  rw [if_pos (by simp only [vsortOk, h1, h2, h3, h4, Bool.or_true, Bool.and_self, natV_len, hl, decide_true]), e]
/-! ### checks by running, of a statement -/
def isNx (r : VRs) (i : Nat) (x : Vl) : Bool := match r with
  | .nx ve _ => match ve[i]? with
    | some (some y) => beqV y x
    | _ => false
  | _ => false
theorem isNx_eq {r : VRs} {i : Nat} {x : Vl} (h : isNx r i x = true) : ∃ ve w, r = .nx ve w ∧ ve[i]? = some (some x) := by
  cases r with
  | nx ve w =>
    refine ⟨ve, w, rfl, ?_⟩
    simp only [isNx] at h
    cases e : ve[i]? with
    | none => rw [e] at h; cases h
    | some o =>
      cases o with
      | none => rw [e] at h; cases h
      | some y => rw [e] at h; rw [(beqV_eq (sizeOf y + 1)).1 y x (by omega) h]
  | _ => cases h
/-! ### a list without repetition below n -/
theorem nodup_len : ∀ (n : Nat) (xs : List Nat), xs.Nodup → (∀ x ∈ xs, x < n) → xs.length ≤ n
  | 0, [], _, _ => Nat.le_refl _
  | 0, x :: _, _, h => absurd (h x List.mem_cons_self) (by omega)
  | n + 1, xs, hn, h => by
    by_cases hm : n ∈ xs
    · have h1 := nodup_len n (xs.erase n) (hn.erase n) fun x hx => by
        have h2 := h x (List.mem_of_mem_erase hx)
        have h3 : x ≠ n := fun e => by subst e; exact (List.Nodup.not_mem_erase hn) hx
        omega
      rw [List.length_erase_of_mem hm] at h1
      omega
    · have h1 := nodup_len n xs hn fun x hx => by
        have h2 := h x hx
        have h3 : x ≠ n := fun e => by subst e; exact hm hx
        omega
      omega
end Gv
namespace Gv
open PySem PySem.Spec L2

section
variable {a b : VS} {ve ve1 ve' : VEnv} {w w1 w' : Wo} {r : VRs} {x y z : Vl}
theorem q_nt {e : VE} {k : Bool} (h : e ve w = .ok (.bl k) w1) : vNot e ve w = .ok (.bl (!k)) w1 := by unfold vNot; rw [h, VR.bind_ok]; rfl
theorem q_chain {f g : Vl → Vl → Option Vl} {p q r : VE} {w2 w3 : Wo} {v : Vl} (h1 : p ve w = .ok x w1) (h2 : q ve w1 = .ok y w2) (hf : f x y = some (.bl true)) (h3 : r ve w2 = .ok z w3) (hg : g y z = some v) : vChain f g p q r ve w = .ok v w3 := by
  unfold vChain
  rw [h1, VR.bind_ok, h2, VR.bind_ok, hf, blV_some, VR.bind_ok, if_pos rfl, h3, VR.bind_ok, hg]
  rfl
theorem q_tupA {aa : VA} {xs : List Vl} (h : aa ve w = .ok xs w1) (hl : xs.length ≤ 16777216) : vTup aa ve w = .ok (.tup xs) w1 := by unfold vTup; rw [h, VR.bind_ok]; exact if_pos hl
theorem q_lstA {aa : VA} {xs : List Vl} (h : aa ve w = .ok xs w1) (hl : xs.length ≤ 16777216) : vLst aa ve w = .ok (.lst xs) w1 := by unfold vLst; rw [h, VR.bind_ok]; exact if_pos hl
theorem q_ife1 {c : VB} {e f : VE} (h : c ve w = .ok true w1) (h2 : e ve w1 = .ok x w') : vIf c e f ve w = .ok x w' := by unfold vIf; rw [h, VR.bind_ok, if_pos rfl]; exact h2
theorem q_ife0 {c : VB} {e f : VE} (h : c ve w = .ok false w1) (h2 : f ve w1 = .ok x w') : vIf c e f ve w = .ok x w' := by unfold vIf; rw [h, VR.bind_ok, if_neg Bool.false_ne_true]; exact h2
theorem q_ex {e : VE} (h : e ve w = .ok x w1) : vEx e ve w = .nx ve w1 := by unfold vEx; rw [h]; rfl
theorem q_vand1 {e f : VE} (h : e ve w = .ok (.bl true) w1) (h2 : f ve w1 = .ok x w') : vAnd e f ve w = .ok x w' := by unfold vAnd; rw [h, VR.bind_ok, asB_bl, VR.bind_ok, if_pos rfl]; exact h2
theorem q_vand0 {e f : VE} (h : e ve w = .ok (.bl false) w1) : vAnd e f ve w = .ok (.bl false) w1 := by unfold vAnd; rw [h, VR.bind_ok, asB_bl, VR.bind_ok, if_neg Bool.false_ne_true]
theorem q_try1 {c i : Nat} {f : Vx → Vl} (h : a ve w = .rt x w') : vTry c i f a ve w = .rt x w' := by unfold vTry; rw [h]
theorem q_tryE {c i : Nat} {e : Vx} (h : a ve w = .er e w') (hc : e.cls = c) (hi : i < ve.length) : vTry c i Vx.code a ve w = .rt e.code w' := by unfold vTry; rw [h]; exact if_pos ⟨hc, hi⟩
theorem q_rs1 {c : Nat} {e : VE} (h : e ve w = .ok x w1) (hf : x.flat = true) : vRs1 c (vCons e vNil) ve w = .er ⟨c, x, .int 0⟩ w1 := by unfold vRs1; rw [q_cons h q_nil]; exact if_pos hf
theorem q_sr {e : Vx} (h : a ve w = .er e w') : vSeq a b ve w = .er e w' := by unfold vSeq; rw [h]
theorem q_un {g : Vl → Option Vl} {e : VE} (h : e ve w = .ok x w1) (hg : g x = some y) : vUn g e ve w = .ok y w1 := by unfold vUn; rw [h, VR.bind_ok, hg]; rfl
theorem q_vw {i : Nat} (h : ve[i]? = some (some x)) : vV i ve w = .ok x w := by unfold vV; rw [h]
end
theorem vbls_map {α : Type} (f : α → Bool) (xs : List α) : vbls (xs.map fun a => .bl (f a)) = some (xs.map f) := by
  induction xs with
  | nil => rfl
  | cons x xs ih => show (vbls (xs.map fun a => .bl (f a))).map _ = _; rw [ih]; rfl
theorem gAny_map {α : Type} (f : α → Bool) (xs : List α) : gAny [.lst (xs.map fun a => .bl (f a))] = some (.bl (xs.any f)) := by
  show (vbls (xs.map fun a => .bl (f a))).map _ = _
  rw [vbls_map]
  simp
theorem gAll_map {α : Type} (f : α → Bool) (xs : List α) : gAll [.lst (xs.map fun a => .bl (f a))] = some (.bl (xs.all f)) := by
  show (vbls (xs.map fun a => .bl (f a))).map _ = _
  rw [vbls_map]
  simp
theorem gLen_tup (xs : List Vl) : gLen [.tup xs] = some (nv xs.length) := rfl
theorem gLen_lst (xs : List Vl) : gLen [.lst xs] = some (nv xs.length) := rfl
theorem gLen_row (xs : List Nat) : gLen [rowV xs] = some (nv xs.length) := by show some (nv (natV xs).length) = _; rw [natV_len]
theorem gIx_rowL {xs : List Nat} {x : Nat} (h : xs.getLast? = some x) : gIx (rowV xs) (.int (-1)) = some (nv x) := by
  obtain ⟨ys, rfl⟩ := List.getLast?_eq_some_iff.mp h
  show atI (natV (ys ++ [x])) (-1) = _
  rw [natV_app]
  exact atI_last _ _
/-- a loop that makes a list longer: by g a at the turn of a -/
theorem vForL_flat {α γ : Type} {u : VU} {body : VS} {w : Wo} (e : α → Vl) (g : α → List γ) (E : List γ → VEnv → Prop) (N : Nat) : ∀ (xs : List α) (M : List γ) (ve : VEnv), M.length + xs.length * N < 16777216 → E M ve →
    (∀ a ∈ xs, (g a).length ≤ N) → (∀ a ∈ xs, ∀ M ve, M.length + N < 16777216 → E M ve → ∃ ve1 ve2, u (e a) ve = some ve1 ∧ body ve1 w = .nx ve2 w ∧ E (M ++ g a) ve2) → ∃ ve', vForL u body (xs.map e) ve w = .nx ve' w ∧ E (M ++ xs.flatMap g) ve'
  | [], M, ve, _, h, _, _ => ⟨ve, rfl, by simpa using h⟩
  | x :: xs, M, ve, hM, h, hg, hs => by
    rw [List.length_cons, Nat.succ_mul] at hM
    obtain ⟨ve1, ve2, e1, e2, h2⟩ := hs x List.mem_cons_self M ve (by omega) h
    have := hg x List.mem_cons_self
    obtain ⟨ve', e3, h3⟩ := vForL_flat e g E N xs (M ++ g x) ve2 (by rw [List.length_append]; omega) h2 (fun a ha => hg a (List.mem_cons_of_mem _ ha)) fun a ha => hs a (List.mem_cons_of_mem _ ha)
    refine ⟨ve', ?_, ?_⟩
    · rw [List.map_cons, vForL, e1]
      dsimp only
      rw [e2]
      exact e3
    · rw [List.flatMap_cons, ← List.append_assoc]
      exact h3
theorem flat_len {α γ : Type} (g : α → List γ) (N : Nat) : ∀ (xs : List α), (∀ a ∈ xs, (g a).length ≤ N) → (xs.flatMap g).length ≤ xs.length * N
  | [], _ => by simp
  | x :: xs, h => by
    have h1 := h x List.mem_cons_self
    have h2 := flat_len g N xs fun a ha => h a (List.mem_cons_of_mem _ ha)
    rw [List.flatMap_cons, List.length_append, List.length_cons, Nat.succ_mul]
    omega
end Gv
namespace K11
open PySem PySem.Spec L2 Gv
def topS (i : Nat) : Stmt := PySem.Challenge.pw_playvalues_k11_heaps_and_their_periods.main.body.getD i (.Pass ⟨0, 0, 0, 0⟩)
abbrev st_least_missing : Stmt := topS 4
def least_missing_b1 : SD := sSet 1 (dOp fAdd (dV 1) (dC (.int 1)))
def least_missing_0 : SD := sSet 1 (dC (.int 0))
def least_missing_1 : SD := sWhile (bCmp (fIn false) (dV 1) (dV 0)) least_missing_b1
def least_missing_2 : SD := sRet (dV 1)
def T_least_missing : FnD := dFc 2 1 (sSeq least_missing_0 (sSeq least_missing_1 least_missing_2))
abbrev st_check_takes : Stmt := topS 7
def check_takes_0 : SD := sIf (bOr (bCmp fEq (dCB fLen (dCons (dV 0) dNil)) (dC (.int 0))) (bTru (dGC (dCB fAny (dCons (dLC [1] (iSeq (dV 0)) (uN 1) bYes (dNot (dChain fLe fLe (dC (.int 1)) (dV 1) (dC (.int 40))))) dNil))))) (sRs1 0 (dCons (dC (.str "takes")) dNil)) sSkip
def check_takes_1 : SD := sIf (bTru (dGC (dCB fAny (dCons (dLC [2] (iRg1 (dCons (dOp fSub (dCB fLen (dCons (dV 0) dNil)) (dC (.int 1))) dNil)) (uN 2) bYes (dOp fGe (dOp fIx (dV 0) (dV 2)) (dOp fIx (dV 0) (dOp fAdd (dV 2) (dC (.int 1)))))) dNil)))) (sRs1 0 (dCons (dC (.str "takes")) dNil)) sSkip
def T_check_takes : FnD := dFc 3 1 (sSeq check_takes_0 check_takes_1)
abbrev st_taking_row : Stmt := topS 8
def taking_row_b1 : SD := sEx (dM isL fAppend (dV 2) (dCons (dX T_least_missing (dCons (dLC [4] (iSeq (dV 0)) (uN 4) (bCmp fLe (dV 4) (dV 3)) (dOp fIx (dV 2) (dOp fSub (dV 3) (dV 4)))) dNil)) dNil))
def taking_row_0 : SD := sEx (dX T_check_takes (dCons (dV 0) dNil))
def taking_row_1 : SD := sIf (bNot (bChain fLe fLe (dC (.int 0)) (dV 1) (dC (.int 400)))) (sRs1 0 (dCons (dC (.str "many")) dNil)) sSkip
def taking_row_2 : SD := sSet 2 (dLst dNil)
def taking_row_3 : SD := sFor (iRg1 (dCons (dV 1) dNil)) (uN 3) taking_row_b1
def taking_row_4 : SD := sRet (dCB fTuple (dCons (dV 2) dNil))
def T_taking_row : FnD := dFc 5 2 (sSeq taking_row_0 (sSeq taking_row_1 (sSeq taking_row_2 (sSeq taking_row_3 taking_row_4))))
abbrev st__shortened : Stmt := topS 10
def _shortened_b1 : SD := sSet 1 (dOp fSub (dV 1) (dC (.int 1)))
def _shortened_0 : SD := sWhile (bAnd (bCmp fGt (dV 1) (dC (.int 0))) (bCmp fEq (dOp fIx (dV 0) (dOp fSub (dV 1) (dC (.int 1)))) (dOp fIx (dV 0) (dOp fAdd (dOp fSub (dV 1) (dC (.int 1))) (dV 2))))) _shortened_b1
def _shortened_1 : SD := sRet (dTup (dCons (dV 1) (dCons (dV 2) dNil)))
def T__shortened : FnD := dFc 3 3 (sSeq _shortened_0 _shortened_1)
abbrev st_taking_period : Stmt := topS 9
def taking_period_b1 : SD := sSeq (sSet 4 (dCB fLen (dCons (dV 1) dNil))) (sSeq (sIf (bCmp fGe (dV 4) (dV 3)) (sSeq (sSet 5 (dGC (dCB fTuple (dCons (dSl (dV 1) (oSo (dOp fSub (dV 4) (dV 3))) oNo) dNil)))) (sSeq (sIf (bCmp (fIn false) (dV 5) (dV 2)) (sRet (dX T__shortened (dCons (dV 1) (dCons (dOp fIx (dV 2) (dV 5)) (dCons (dOp fSub (dV 4) (dOp fIx (dV 2) (dV 5))) dNil))))) sSkip) (sSub (dV 2) (dV 5) (dV 4)))) sSkip) (sEx (dM isL fAppend (dV 1) (dCons (dX T_least_missing (dCons (dLC [6] (iSeq (dV 0)) (uN 6) (bCmp fLe (dV 6) (dV 4)) (dOp fIx (dV 1) (dOp fSub (dV 4) (dV 6)))) dNil)) dNil))))
def taking_period_0 : SD := sEx (dX T_check_takes (dCons (dV 0) dNil))
def taking_period_1 : SD := sIf (bCmp fGt (dOp fIx (dV 0) (dUn fNeg (dC (.int 1)))) (dC (.int 10))) (sRs1 0 (dCons (dC (.str "takes")) dNil)) sSkip
def taking_period_2 : SD := sSet 1 (dLst dNil)
def taking_period_3 : SD := sSet 2 dNewT
def taking_period_4 : SD := sSet 3 (dOp fIx (dV 0) (dUn fNeg (dC (.int 1))))
def taking_period_5 : SD := sWhile (bTru (dC (.bl true))) taking_period_b1
def T_taking_period : FnD := dFc 7 1 (sSeq taking_period_0 (sSeq taking_period_1 (sSeq taking_period_2 (sSeq taking_period_3 (sSeq taking_period_4 taking_period_5)))))
abbrev st_takes_period : Stmt := topS 11
def takes_period_0 : SD := sEx (dX T_check_takes (dCons (dV 0) dNil))
def takes_period_1 : SD := sIf (bOr (bCmp fLt (dV 1) (dC (.int 0))) (bOr (bCmp fLt (dV 2) (dC (.int 1))) (bCmp fGt (dOp fAdd (dOp fAdd (dV 1) (dV 2)) (dOp fIx (dV 0) (dUn fNeg (dC (.int 1))))) (dC (.int 400))))) (sRs1 0 (dCons (dC (.str "period")) dNil)) sSkip
def takes_period_2 : SD := sSet 3 (dX T_taking_row (dCons (dV 0) (dCons (dOp fAdd (dOp fAdd (dV 1) (dV 2)) (dOp fIx (dV 0) (dUn fNeg (dC (.int 1))))) dNil)))
def takes_period_3 : SD := sRet (dGC (dCB fAll (dCons (dLC [4] (iRg2 (dCons (dV 1) (dCons (dOp fAdd (dV 1) (dOp fIx (dV 0) (dUn fNeg (dC (.int 1))))) dNil))) (uN 4) bYes (dOp fEq (dOp fIx (dV 3) (dV 4)) (dOp fIx (dV 3) (dOp fAdd (dV 4) (dV 2))))) dNil)))
def T_takes_period : FnD := dFc 5 3 (sSeq takes_period_0 (sSeq takes_period_1 (sSeq takes_period_2 takes_period_3)))
abbrev st__law_begin : Stmt := topS 13
def _law_begin_b1 : SD := sSet 1 (dOp fMod (dOp fAdd (dOp fAdd (dOp fMul (dV 1) (dC (.int 16807))) (dOp fMod (dCB fInt1 (dCons (dV 2) dNil)) (dC (.int 2147483629)))) (dC (.int 5))) (dC (.int 2147483647)))
def _law_begin_0 : SD := sSet 1 (dC (.int 7))
def _law_begin_1 : SD := sFor (iSeq (dV 0)) (uN 2) _law_begin_b1
def _law_begin_2 : SD := sRet (dLst (dCons (dCB fList (dCons (dV 0) dNil)) (dCons (dC (.int 0)) (dCons (dC (.int 0)) (dCons (dV 1) dNil)))))
def T__law_begin : FnD := dFc 3 1 (sSeq _law_begin_0 (sSeq _law_begin_1 _law_begin_2))
abbrev st__law_take : Stmt := topS 14
def _law_take_0 : SD := sIf (bAnd (bCmp fEq (dOp fIx (dV 0) (dC (.int 2))) (dC (.int 0))) (bCmp fLt (dOp fIx (dV 0) (dC (.int 1))) (dCB fLen (dCons (dOp fIx (dV 0) (dC (.int 0))) dNil)))) (sSeq (sSub (dV 0) (dC (.int 2)) (dCB fAbs (dCons (dCB fInt1 (dCons (dOp fIx (dOp fIx (dV 0) (dC (.int 0))) (dOp fIx (dV 0) (dC (.int 1)))) dNil)) dNil))) (sSeq (sSub (dV 0) (dC (.int 1)) (dOp fAdd (dOp fIx (dV 0) (dC (.int 1))) (dC (.int 1)))) (sIf (bCmp fLt (dOp fIx (dV 0) (dC (.int 2))) (dOp fPow (dC (.int 10)) (dC (.int 18)))) (sSeq (sSet 2 (dCB fInt1 (dCons (dOp fIx (dV 0) (dC (.int 2))) dNil))) (sSeq (sSub (dV 0) (dC (.int 2)) (dC (.int 0))) (sRet (dOp fMod (dV 2) (dV 1))))) sSkip))) sSkip
def _law_take_1 : SD := sIf (bCmp fGt (dOp fIx (dV 0) (dC (.int 2))) (dC (.int 0))) (sSeq (sSet 3 (dOp fMod (dCB fInt1 (dCons (dOp fIx (dV 0) (dC (.int 2))) dNil)) (dV 1))) (sSeq (sSub (dV 0) (dC (.int 2)) (dOp fDiv (dCB fInt1 (dCons (dOp fIx (dV 0) (dC (.int 2))) dNil)) (dV 1))) (sRet (dV 3)))) sSkip
def _law_take_2 : SD := sSub (dV 0) (dC (.int 3)) (dOp fMod (dCB fInt1 (dCons (dOp fAdd (dOp fMul (dOp fIx (dV 0) (dC (.int 3))) (dC (.int 48271))) (dC (.int 17))) dNil)) (dC (.int 2147483647)))
def _law_take_3 : SD := sRet (dOp fMod (dCB fInt1 (dCons (dOp fDiv (dOp fIx (dV 0) (dC (.int 3))) (dC (.int 11))) dNil)) (dV 1))
def T__law_take : FnD := dFc 4 2 (sSeq _law_take_0 (sSeq _law_take_1 (sSeq _law_take_2 _law_take_3)))
abbrev st__law_flag : Stmt := topS 15
def _law_flag_0 : SD := sRet (dIf (bTru (dIsI "bool" (dV 0))) (dV 0) (dC .non))
def T__law_flag : FnD := dFc 1 1 _law_flag_0
abbrev st__law_told : Stmt := topS 16
def _law_told_0 : SD := sTry 0 4 Ex.code (sSeq (sIf (bCmp fEq (dV 0) (dC (.str "row"))) (sRet (dX T_taking_row (dCons (dV 1) (dCons (dV 2) dNil)))) sSkip) (sRet (dIf (bCmp fEq (dV 0) (dC (.str "period"))) (dX T_taking_period (dCons (dV 1) dNil)) (dX T__law_flag (dCons (dX T_takes_period (dCons (dV 1) (dCons (dV 2) (dCons (dV 3) dNil)))) dNil)))))
def T__law_told : FnD := dFc 5 4 _law_told_0
abbrev st__law_row : Stmt := topS 17
def _law_row_b1 : SD := sIf (bCmp (fIn false) (dV 5) (dV 4)) (sSet 5 (dOp fAdd (dV 5) (dC (.int 1)))) sSkip
def _law_row_b2 : SD := sSeq (sSet 4 (dLC [7] (iSeq (dV 0)) (uN 7) (bCmp fLe (dV 7) (dV 3)) (dOp fIx (dV 2) (dOp fSub (dV 3) (dV 7))))) (sSeq (sSet 5 (dC (.int 0))) (sSeq (sFor (iRg1 (dCons (dOp fAdd (dCB fLen (dCons (dV 4) dNil)) (dC (.int 1))) dNil)) (uN 6) _law_row_b1) (sEx (dM isL fAppend (dV 2) (dCons (dV 5) dNil)))))
def _law_row_0 : SD := sSet 2 (dLst dNil)
def _law_row_1 : SD := sFor (iRg1 (dCons (dV 1) dNil)) (uN 3) _law_row_b2
def _law_row_2 : SD := sRet (dV 2)
def T__law_row : FnD := dFc 8 2 (sSeq _law_row_0 (sSeq _law_row_1 _law_row_2))
abbrev st__law_takes : Stmt := topS 18
def _law_takes_0 : SD := sRet (dGC (dCB fTuple (dCons (dGC (dCB fSS (dCons (dLC [2] (iRg1 (dCons (dOp fAdd (dC (.int 1)) (dX T__law_take (dCons (dV 0) (dCons (dC (.int 5)) dNil)))) dNil)) (uN 2) bYes (dOp fAdd (dC (.int 1)) (dX T__law_take (dCons (dV 0) (dCons (dV 1) dNil))))) dNil))) dNil)))
def T__law_takes : FnD := dFc 3 2 _law_takes_0
abbrev st_law : Stmt := topS 19
def law_b1 : SD := sIf (bTru (dGC (dCB fAll (dCons (dLC [15] (iRg2 (dCons (dV 5) (dCons (dOp fSub (dV 7) (dV 8)) dNil))) (uN 15) bYes (dOp fEq (dOp fIx (dV 3) (dV 15)) (dOp fIx (dV 3) (dOp fAdd (dV 15) (dV 8))))) dNil)))) (sRet (dC (.bl false))) sSkip
def law_b2 : SD := sSeq (sSet 10 (dGC (dCB fMax2 (dCons (dC (.int 0)) (dCons (dOp fSub (dOp fAdd (dV 5) (dX T__law_take (dCons (dV 1) (dCons (dC (.int 5)) dNil)))) (dC (.int 2))) dNil))))) (sSeq (sSet 11 (dGC (dCB fMax2 (dCons (dC (.int 1)) (dCons (dOp fSub (dOp fAdd (dV 6) (dX T__law_take (dCons (dV 1) (dCons (dC (.int 5)) dNil)))) (dC (.int 2))) dNil))))) (sIf (bCmp fLe (dOp fAdd (dOp fAdd (dV 10) (dV 11)) (dOp fIx (dV 2) (dUn fNeg (dC (.int 1))))) (dC (.int 400))) (sSeq (sSet 12 (dGC (dCB fAll (dCons (dLC [15] (iRg2 (dCons (dV 10) (dCons (dOp fAdd (dV 10) (dOp fIx (dV 2) (dUn fNeg (dC (.int 1))))) dNil))) (uN 15) bYes (dOp fEq (dOp fIx (dV 3) (dV 15)) (dOp fIx (dV 3) (dOp fAdd (dV 15) (dV 11))))) dNil)))) (sIf (bCmp fNe (dX T__law_told (dCons (dC (.str "judge")) (dCons (dV 2) (dCons (dV 10) (dCons (dV 11) dNil))))) (dV 12)) (sRet (dC (.bl false))) sSkip)) sSkip))
def law_0 : SD := sClr 0 (sSet 1 (dCall T__law_begin (dCons (dV 0) dNil)))
def law_1 : SD := sSet 2 (dX T__law_takes (dCons (dV 1) (dCons (dC (.int 10)) dNil)))
def law_2 : SD := sSet 3 (dX T__law_row (dCons (dV 2) (dCons (dC (.int 400)) dNil)))
def law_3 : SD := sSet 4 (dX T__law_take (dCons (dV 1) (dCons (dC (.int 401)) dNil)))
def law_4 : SD := sIf (bCmp fNe (dX T__law_told (dCons (dC (.str "row")) (dCons (dV 2) (dCons (dV 4) (dCons (dC (.int 0)) dNil))))) (dGC (dCB fTuple (dCons (dSl (dV 3) oNo (oSo (dV 4))) dNil)))) (sRet (dC (.bl false))) sSkip
def law_5 : SD := sUn (uT2 5 6) (dX T__law_told (dCons (dC (.str "period")) (dCons (dV 2) (dCons (dC (.int 0)) (dCons (dC (.int 0)) dNil)))))
def law_6 : SD := sSet 7 (dC (.int 380))
def law_7 : SD := sIf (bTru (dGC (dCB fAny (dCons (dLC [15] (iRg2 (dCons (dV 5) (dCons (dOp fSub (dV 7) (dV 6)) dNil))) (uN 15) bYes (dOp fNe (dOp fIx (dV 3) (dV 15)) (dOp fIx (dV 3) (dOp fAdd (dV 15) (dV 6))))) dNil)))) (sRet (dC (.bl false))) sSkip
def law_8 : SD := sIf (bAnd (bCmp fGt (dV 5) (dC (.int 0))) (bCmp fEq (dOp fIx (dV 3) (dOp fSub (dV 5) (dC (.int 1)))) (dOp fIx (dV 3) (dOp fAdd (dOp fSub (dV 5) (dC (.int 1))) (dV 6))))) (sRet (dC (.bl false))) sSkip
def law_9 : SD := sFor (iRg2 (dCons (dC (.int 1)) (dCons (dV 6) dNil))) (uN 8) law_b1
def law_10 : SD := sFor (iRg1 (dCons (dC (.int 3)) dNil)) (uN 9) law_b2
def law_11 : SD := sIf (bCmp (fIs true) (dX T__law_told (dCons (dC (.str "judge")) (dCons (dV 2) (dCons (dV 5) (dCons (dV 6) dNil))))) (dC (.bl true))) (sRet (dC (.bl false))) sSkip
def law_12 : SD := sSet 13 (dX T__law_takes (dCons (dV 1) (dCons (dC (.int 40)) dNil)))
def law_13 : SD := sIf (bOr (bCmp fNe (dX T__law_told (dCons (dC (.str "row")) (dCons (dV 13) (dCons (dC (.int 80)) (dCons (dC (.int 0)) dNil))))) (dGC (dCB fTuple (dCons (dX T__law_row (dCons (dV 13) (dCons (dC (.int 80)) dNil))) dNil)))) (bAnd (bCmp fGt (dOp fIx (dV 13) (dUn fNeg (dC (.int 1)))) (dC (.int 10))) (bCmp fNe (dX T__law_told (dCons (dC (.str "period")) (dCons (dV 13) (dCons (dC (.int 0)) (dCons (dC (.int 0)) dNil))))) (dC (.str "takes"))))) (sRet (dC (.bl false))) sSkip
def law_14 : SD := sSet 14 (dLst (dCons (dTup dNil) (dCons (dTup (dCons (dC (.int 0)) (dCons (dC (.int 1)) dNil))) (dCons (dTup (dCons (dC (.int 2)) (dCons (dC (.int 1)) dNil))) (dCons (dTup (dCons (dC (.int 1)) (dCons (dC (.int 1)) dNil))) (dCons (dTup (dCons (dC (.int 41)) dNil)) dNil))))))
def law_15 : SD := sIf (bOr (bTru (dGC (dCB fAny (dCons (dLC [16] (iSeq (dV 14)) (uN 16) bYes (dOp fNe (dX T__law_told (dCons (dC (.str "row")) (dCons (dV 16) (dCons (dC (.int 5)) (dCons (dC (.int 0)) dNil))))) (dC (.str "takes")))) dNil)))) (bOr (bCmp fNe (dX T__law_told (dCons (dC (.str "row")) (dCons (dV 2) (dCons (dC (.int 401)) (dCons (dC (.int 0)) dNil))))) (dC (.str "many"))) (bCmp fNe (dX T__law_told (dCons (dC (.str "row")) (dCons (dV 2) (dCons (dOp fSub (dC (.int 0)) (dC (.int 1))) (dCons (dC (.int 0)) dNil))))) (dC (.str "many"))))) (sRet (dC (.bl false))) sSkip
def law_16 : SD := sRet (dOp fEq (dLst (dCons (dX T__law_told (dCons (dC (.str "judge")) (dCons (dV 2) (dCons (dOp fSub (dC (.int 0)) (dC (.int 1))) (dCons (dC (.int 1)) dNil))))) (dCons (dX T__law_told (dCons (dC (.str "judge")) (dCons (dV 2) (dCons (dC (.int 0)) (dCons (dC (.int 0)) dNil))))) (dCons (dX T__law_told (dCons (dC (.str "judge")) (dCons (dV 2) (dCons (dC (.int 200)) (dCons (dC (.int 200)) dNil))))) dNil)))) (dOp fMul (dLst (dCons (dC (.str "period")) dNil)) (dC (.int 3))))
def T_law : FnD := dFc 17 1 (sSeq law_0 (sSeq law_1 (sSeq law_2 (sSeq law_3 (sSeq law_4 (sSeq law_5 (sSeq law_6 (sSeq law_7 (sSeq law_8 (sSeq law_9 (sSeq law_10 (sSeq law_11 (sSeq law_12 (sSeq law_13 (sSeq law_14 (sSeq law_15 law_16))))))))))))))))
structure Bn (P : Program) (w : World) (K : PySem.W.Frag) (mg : Str → Option Value) (base : Heap) (T : Nat → Addr) : Prop where
  m_abs : mg "abs" = none
  m_all : mg "all" = none
  m_any : mg "any" = none
  m_bool : mg "bool" = none
  m_int : mg "int" = none
  m_isinstance : mg "isinstance" = none
  m_len : mg "len" = none
  m_list : mg "list" = none
  m_max : mg "max" = none
  m_range : mg "range" = none
  m_set : mg "set" = none
  m_sorted : mg "sorted" = none
  m_tuple : mg "tuple" = none
  c_LONG : ∃ t, mg "LONG" = some (.int 400 t)
  x_RuleError : Exn P w K mg base T 0 "RuleError"
section
variable {P : Program} {w : World} {K : PySem.W.Frag} {mg : Str → Option Value} {base : Heap} {T : Nat → Addr}
theorem S_least_missing : FnScope ["values", "told"] ["values"] (defScope st_least_missing) := ⟨rfl, rfl, rfl, by decide +kernel, rfl, by decide +kernel, by decide +kernel⟩
theorem d_least_missing {f : Addr} {fd : FuncData} (B : Bn P w K mg base T)  (F : Fun K "least_missing" "least_missing" st_least_missing f fd) : GF P w K mg base T 1 f fd ["values"] T_least_missing :=
  (g_fn (k := 0) F S_least_missing (fun cdv A outer s H E hr tk hp =>
      (gs_cons (gs_set (i := 1) S_least_missing.nd rfl (by first | exact .inl rfl | exact .inr rfl) g_int)
      (gs_cons (gs_while hp (gt_cmp (og_in (u65 hr)) (g_v 1) (g_v 0)) (gs_one (gs_set (i := 1) S_least_missing.nd rfl (by first | exact .inl rfl | exact .inr rfl) (g_op og_add (g_v 1) g_int))))
      (gs_one (gs_ret (g_v 1))))))).clean
theorem c_least_missing {f : Addr} {fd : FuncData} (B : Bn P w K mg base T)  (F : Fun K "least_missing" "least_missing" st_least_missing f fd) (g : mg "least_missing" = some (.ref f)) : Cal P w K mg base T 1 "least_missing" ["values"] T_least_missing :=
  ⟨f, fd, d_least_missing B  F, g, F.kp, F.binds fun _ _ _ _ _ _ us hl => match us, hl with | [_], _ => rfl⟩
theorem S_check_takes : FnScope ["takes", "number", "k"] ["takes"] (defScope st_check_takes) := ⟨rfl, rfl, rfl, by decide +kernel, rfl, by decide +kernel, by decide +kernel⟩
theorem d_check_takes {f : Addr} {fd : FuncData} (B : Bn P w K mg base T)  (F : Fun K "check_takes" "check_takes" st_check_takes f fd) : GF P w K mg base T 3 f fd ["takes"] T_check_takes :=
  (g_fn (k := 2) F S_check_takes (fun cdv A outer s H E hr tk hp =>
      (gs_cons (gs_if (gt_w (gw_or (gt_cmp (og_eq hr.units) (g_callB0 cg_len B.m_len bt_len (g_cons (g_v 0) g_nil)) g_int) (gw_or1 (gt_tru (g_callB (cg_any rfl) B.m_any bt_any (g_cons (g_lc rfl S_check_takes.nd (gi_seq (g_v 0)) (own := [("number", 1)]) (blkOk_by (by rfl)) gok_n (fun _ _ _ _ _ => (pg_name (i := 1) S_check_takes.nd rfl (by first | exact .inl rfl | exact .inr rfl))) (fun _ _ _ _ _ => gts_nil) (fun _ _ _ _ _ => (g_not (g_chain og_le og_le g_int (g_v 1) g_int)))) g_nil)))))) (gs_one (g_rs1 B.x_RuleError rfl tk hr (by decide) (g_cons g_str g_nil))) gs_nil)
      (gs_one (gs_if (gt_tru (g_callB (cg_any rfl) B.m_any bt_any (g_cons (g_lc rfl S_check_takes.nd (gi_rg1 (g_cons (g_op og_sub (g_callB0 cg_len B.m_len bt_len (g_cons (g_v 0) g_nil)) g_int) g_nil) B.m_range) (own := [("k", 2)]) (blkOk_by (by rfl)) gok_n (fun _ _ _ _ _ => (pg_name (i := 2) S_check_takes.nd rfl (by first | exact .inl rfl | exact .inr rfl))) (fun _ _ _ _ _ => gts_nil) (fun _ _ _ _ _ => (g_cmp og_ge (g_ix (u1 hr) (g_v 0) (g_v 2)) (g_ix (u1 hr) (g_v 0) (g_op og_add (g_v 2) g_int))))) g_nil))) (gs_one (g_rs1 B.x_RuleError rfl tk hr (by decide) (g_cons g_str g_nil))) gs_nil))))).clean
theorem c_check_takes {f : Addr} {fd : FuncData} (B : Bn P w K mg base T)  (F : Fun K "check_takes" "check_takes" st_check_takes f fd) (g : mg "check_takes" = some (.ref f)) : Cal P w K mg base T 3 "check_takes" ["takes"] T_check_takes :=
  ⟨f, fd, d_check_takes B  F, g, F.kp, F.binds fun _ _ _ _ _ _ us hl => match us, hl with | [_], _ => rfl⟩
theorem S_taking_row : FnScope ["takes", "many", "row", "size", "number"] ["takes", "many"] (defScope st_taking_row) := ⟨rfl, rfl, rfl, by decide +kernel, rfl, by decide +kernel, by decide +kernel⟩
theorem d_taking_row {f : Addr} {fd : FuncData} (B : Bn P w K mg base T) (c_check_takes : Cal P w K mg base T 3 "check_takes" ["takes"] T_check_takes) (c_least_missing : Cal P w K mg base T 1 "least_missing" ["values"] T_least_missing) (F : Fun K "taking_row" "taking_row" st_taking_row f fd) : GF P w K mg base T 4 f fd ["takes", "many"] T_taking_row :=
  (g_fn (k := 3) F S_taking_row (fun cdv A outer s H E hr tk hp =>
      (gs_cons (gs_ex (g_cX c_check_takes hr (by decide) tk (g_cons (g_v 0) g_nil)))
      (gs_cons (gs_if (gt_not (gt_chain og_le og_le g_int (g_v 1) (g_gint B.c_LONG.choose_spec))) (gs_one (g_rs1 B.x_RuleError rfl tk hr (by decide) (g_cons g_str g_nil))) gs_nil)
      (gs_cons (gs_set (i := 2) S_taking_row.nd rfl (by first | exact .inl rfl | exact .inr rfl) (g_lst g_nil))
      (gs_cons (gs_for hp rfl (gi_rg1 (g_cons (g_v 1) g_nil) B.m_range) (pg_name (i := 3) S_taking_row.nd rfl (by first | exact .inl rfl | exact .inr rfl)) gok_n (gs_one (gs_ex (g_m PySem.F.slot_list_append PySem.F.type_list_append mg_append (g_v 2) (g_cons (g_cX c_least_missing hr (by decide) tk (g_cons (g_lc rfl S_taking_row.nd (gi_seq (g_v 0)) (own := [("number", 4)]) (blkOk_by (by rfl)) gok_n (fun _ _ _ _ _ => (pg_name (i := 4) S_taking_row.nd rfl (by first | exact .inl rfl | exact .inr rfl))) (fun _ _ _ _ _ => (gts_one (gt_cmp og_le (g_v 4) (g_v 3)))) (fun _ _ _ _ _ => (g_ix (u1 hr) (g_v 2) (g_op og_sub (g_v 3) (g_v 4))))) g_nil)) g_nil)))))
      (gs_one (gs_ret (g_callT0 cg_tuple B.m_tuple bt_tuple (g_cons (g_v 2) g_nil)))))))))).clean
theorem c_taking_row {f : Addr} {fd : FuncData} (B : Bn P w K mg base T) (c_check_takes : Cal P w K mg base T 3 "check_takes" ["takes"] T_check_takes) (c_least_missing : Cal P w K mg base T 1 "least_missing" ["values"] T_least_missing) (F : Fun K "taking_row" "taking_row" st_taking_row f fd) (g : mg "taking_row" = some (.ref f)) : Cal P w K mg base T 4 "taking_row" ["takes", "many"] T_taking_row :=
  ⟨f, fd, d_taking_row B c_check_takes c_least_missing F, g, F.kp, F.binds fun _ _ _ _ _ _ us hl => match us, hl with | [_, _], _ => rfl⟩
theorem S__shortened : FnScope ["row", "begin", "length"] ["row", "begin", "length"] (defScope st__shortened) := ⟨rfl, rfl, rfl, by decide +kernel, rfl, by decide +kernel, by decide +kernel⟩
theorem d__shortened {f : Addr} {fd : FuncData} (B : Bn P w K mg base T)  (F : Fun K "_shortened" "_shortened" st__shortened f fd) : GF P w K mg base T 1 f fd ["row", "begin", "length"] T__shortened :=
  (g_fn (k := 0) F S__shortened (fun cdv A outer s H E hr tk hp =>
      (gs_cons (gs_while hp (gt_w (gw_and (gt_cmp og_gt (g_v 1) g_int) (gw_and1 (gt_cmp (og_eq hr.units) (g_ix (u1 hr) (g_v 0) (g_op og_sub (g_v 1) g_int)) (g_ix (u1 hr) (g_v 0) (g_op og_add (g_op og_sub (g_v 1) g_int) (g_v 2))))))) (gs_one (gs_set (i := 1) S__shortened.nd rfl (by first | exact .inl rfl | exact .inr rfl) (g_op og_sub (g_v 1) g_int))))
      (gs_one (gs_ret (g_tup (g_cons (g_v 1) (g_cons (g_v 2) g_nil)))))))).clean
theorem c__shortened {f : Addr} {fd : FuncData} (B : Bn P w K mg base T)  (F : Fun K "_shortened" "_shortened" st__shortened f fd) (g : mg "_shortened" = some (.ref f)) : Cal P w K mg base T 1 "_shortened" ["row", "begin", "length"] T__shortened :=
  ⟨f, fd, d__shortened B  F, g, F.kp, F.binds fun _ _ _ _ _ _ us hl => match us, hl with | [_, _, _], _ => rfl⟩
theorem S_taking_period : FnScope ["takes", "row", "seen", "window", "size", "key", "number"] ["takes"] (defScope st_taking_period) := ⟨rfl, rfl, rfl, by decide +kernel, rfl, by decide +kernel, by decide +kernel⟩
theorem d_taking_period {f : Addr} {fd : FuncData} (B : Bn P w K mg base T) (c_check_takes : Cal P w K mg base T 3 "check_takes" ["takes"] T_check_takes) (c__shortened : Cal P w K mg base T 1 "_shortened" ["row", "begin", "length"] T__shortened) (c_least_missing : Cal P w K mg base T 1 "least_missing" ["values"] T_least_missing) (F : Fun K "taking_period" "taking_period" st_taking_period f fd) : GF P w K mg base T 4 f fd ["takes"] T_taking_period :=
  (g_fn (k := 3) F S_taking_period (fun cdv A outer s H E hr tk hp =>
      (gs_cons (gs_ex (g_cX c_check_takes hr (by decide) tk (g_cons (g_v 0) g_nil)))
      (gs_cons (gs_if (gt_cmp og_gt (g_ix (u1 hr) (g_v 0) (g_neg g_int)) g_int) (gs_one (g_rs1 B.x_RuleError rfl tk hr (by decide) (g_cons g_str g_nil))) gs_nil)
      (gs_cons (gs_set (i := 1) S_taking_period.nd rfl (by first | exact .inl rfl | exact .inr rfl) (g_lst g_nil))
      (gs_cons (gs_set (i := 2) S_taking_period.nd rfl (by first | exact .inl rfl | exact .inr rfl) g_newT)
      (gs_cons (gs_set (i := 3) S_taking_period.nd rfl (by first | exact .inl rfl | exact .inr rfl) (g_ix (u1 hr) (g_v 0) (g_neg g_int)))
      (gs_one (gs_while hp (gt_tru g_bl) (gs_cons (gs_set (i := 4) S_taking_period.nd rfl (by first | exact .inl rfl | exact .inr rfl) (g_callB0 cg_len B.m_len bt_len (g_cons (g_v 1) g_nil))) (gs_cons (gs_if (gt_cmp og_ge (g_v 4) (g_v 3)) (gs_cons (gs_set (i := 5) S_taking_period.nd rfl (by first | exact .inl rfl | exact .inr rfl) (g_callT cg_tuple B.m_tuple bt_tuple (g_cons (g_sl (g_v 1) (go_so (g_op og_sub (g_v 4) (g_v 3))) go_no) g_nil))) (gs_cons (gs_if (gt_cmp (og_in (u65 hr)) (g_v 5) (g_v 2)) (gs_one (gs_ret (g_cX c__shortened hr (by decide) tk (g_cons (g_v 1) (g_cons (g_ix (u1 hr) (g_v 2) (g_v 5)) (g_cons (g_op og_sub (g_v 4) (g_ix (u1 hr) (g_v 2) (g_v 5))) g_nil)))))) gs_nil) (gs_one (gs_sub (u1 hr) (g_v 2) (g_v 5) (g_v 4))))) gs_nil) (gs_one (gs_ex (g_m PySem.F.slot_list_append PySem.F.type_list_append mg_append (g_v 1) (g_cons (g_cX c_least_missing hr (by decide) tk (g_cons (g_lc rfl S_taking_period.nd (gi_seq (g_v 0)) (own := [("number", 6)]) (blkOk_by (by rfl)) gok_n (fun _ _ _ _ _ => (pg_name (i := 6) S_taking_period.nd rfl (by first | exact .inl rfl | exact .inr rfl))) (fun _ _ _ _ _ => (gts_one (gt_cmp og_le (g_v 6) (g_v 4)))) (fun _ _ _ _ _ => (g_ix (u1 hr) (g_v 1) (g_op og_sub (g_v 4) (g_v 6))))) g_nil)) g_nil))))))))))))))).clean
theorem c_taking_period {f : Addr} {fd : FuncData} (B : Bn P w K mg base T) (c_check_takes : Cal P w K mg base T 3 "check_takes" ["takes"] T_check_takes) (c__shortened : Cal P w K mg base T 1 "_shortened" ["row", "begin", "length"] T__shortened) (c_least_missing : Cal P w K mg base T 1 "least_missing" ["values"] T_least_missing) (F : Fun K "taking_period" "taking_period" st_taking_period f fd) (g : mg "taking_period" = some (.ref f)) : Cal P w K mg base T 4 "taking_period" ["takes"] T_taking_period :=
  ⟨f, fd, d_taking_period B c_check_takes c__shortened c_least_missing F, g, F.kp, F.binds fun _ _ _ _ _ _ us hl => match us, hl with | [_], _ => rfl⟩
theorem S_takes_period : FnScope ["takes", "begin", "length", "row", "k"] ["takes", "begin", "length"] (defScope st_takes_period) := ⟨rfl, rfl, rfl, by decide +kernel, rfl, by decide +kernel, by decide +kernel⟩
theorem d_takes_period {f : Addr} {fd : FuncData} (B : Bn P w K mg base T) (c_check_takes : Cal P w K mg base T 3 "check_takes" ["takes"] T_check_takes) (c_taking_row : Cal P w K mg base T 4 "taking_row" ["takes", "many"] T_taking_row) (F : Fun K "takes_period" "takes_period" st_takes_period f fd) : GF P w K mg base T 5 f fd ["takes", "begin", "length"] T_takes_period :=
  (g_fn (k := 4) F S_takes_period (fun cdv A outer s H E hr tk hp =>
      (gs_cons (gs_ex (g_cX c_check_takes hr (by decide) tk (g_cons (g_v 0) g_nil)))
      (gs_cons (gs_if (gt_w (gw_or (gt_cmp og_lt (g_v 1) g_int) (gw_or (gt_cmp og_lt (g_v 2) g_int) (gw_or1 (gt_cmp og_gt (g_op og_add (g_op og_add (g_v 1) (g_v 2)) (g_ix (u1 hr) (g_v 0) (g_neg g_int))) (g_gint B.c_LONG.choose_spec)))))) (gs_one (g_rs1 B.x_RuleError rfl tk hr (by decide) (g_cons g_str g_nil))) gs_nil)
      (gs_cons (gs_set (i := 3) S_takes_period.nd rfl (by first | exact .inl rfl | exact .inr rfl) (g_cX c_taking_row hr (by decide) tk (g_cons (g_v 0) (g_cons (g_op og_add (g_op og_add (g_v 1) (g_v 2)) (g_ix (u1 hr) (g_v 0) (g_neg g_int))) g_nil))))
      (gs_one (gs_ret (g_callB (cg_all rfl) B.m_all bt_all (g_cons (g_lc rfl S_takes_period.nd (gi_rg2 (g_cons (g_v 1) (g_cons (g_op og_add (g_v 1) (g_ix (u1 hr) (g_v 0) (g_neg g_int))) g_nil)) B.m_range) (own := [("k", 4)]) (blkOk_by (by rfl)) gok_n (fun _ _ _ _ _ => (pg_name (i := 4) S_takes_period.nd rfl (by first | exact .inl rfl | exact .inr rfl))) (fun _ _ _ _ _ => gts_nil) (fun _ _ _ _ _ => (g_cmp (og_eq hr.units) (g_ix (u1 hr) (g_v 3) (g_v 4)) (g_ix (u1 hr) (g_v 3) (g_op og_add (g_v 4) (g_v 2)))))) g_nil))))))))).clean
theorem c_takes_period {f : Addr} {fd : FuncData} (B : Bn P w K mg base T) (c_check_takes : Cal P w K mg base T 3 "check_takes" ["takes"] T_check_takes) (c_taking_row : Cal P w K mg base T 4 "taking_row" ["takes", "many"] T_taking_row) (F : Fun K "takes_period" "takes_period" st_takes_period f fd) (g : mg "takes_period" = some (.ref f)) : Cal P w K mg base T 5 "takes_period" ["takes", "begin", "length"] T_takes_period :=
  ⟨f, fd, d_takes_period B c_check_takes c_taking_row F, g, F.kp, F.binds fun _ _ _ _ _ _ us hl => match us, hl with | [_, _, _], _ => rfl⟩
theorem S__law_begin : FnScope ["script", "seed", "cell"] ["script"] (defScope st__law_begin) := ⟨rfl, rfl, rfl, by decide +kernel, rfl, by decide +kernel, by decide +kernel⟩
theorem d__law_begin {f : Addr} {fd : FuncData} (B : Bn P w K mg base T)  (F : Fun K "_law_begin" "_law_begin" st__law_begin f fd) : GF P w K mg base T 1 f fd ["script"] T__law_begin :=
  (g_fn (k := 0) F S__law_begin (fun cdv A outer s H E hr tk hp =>
      (gs_cons (gs_set (i := 1) S__law_begin.nd rfl (by first | exact .inl rfl | exact .inr rfl) g_int)
      (gs_cons (gs_for hp rfl (gi_seq (g_v 0)) (pg_name (i := 2) S__law_begin.nd rfl (by first | exact .inl rfl | exact .inr rfl)) gok_n (gs_one (gs_set (i := 1) S__law_begin.nd rfl (by first | exact .inl rfl | exact .inr rfl) (g_op og_mod (g_op og_add (g_op og_add (g_op og_mul (g_v 1) g_int) (g_op og_mod (g_callT0 cg_int B.m_int bt_int (g_cons (g_v 2) g_nil)) g_int)) g_int) g_int))))
      (gs_one (gs_ret (g_lst (g_cons (g_callT0 cg_list B.m_list bt_list (g_cons (g_v 0) g_nil)) (g_cons g_int (g_cons g_int (g_cons (g_v 1) g_nil))))))))))).clean
theorem c__law_begin {f : Addr} {fd : FuncData} (B : Bn P w K mg base T)  (F : Fun K "_law_begin" "_law_begin" st__law_begin f fd) (g : mg "_law_begin" = some (.ref f)) : Cal P w K mg base T 1 "_law_begin" ["script"] T__law_begin :=
  ⟨f, fd, d__law_begin B  F, g, F.kp, F.binds fun _ _ _ _ _ _ us hl => match us, hl with | [_], _ => rfl⟩
theorem S__law_take : FnScope ["d", "many", "small", "digit"] ["d", "many"] (defScope st__law_take) := ⟨rfl, rfl, rfl, by decide +kernel, rfl, by decide +kernel, by decide +kernel⟩
theorem d__law_take {f : Addr} {fd : FuncData} (B : Bn P w K mg base T)  (F : Fun K "_law_take" "_law_take" st__law_take f fd) : GF P w K mg base T 1 f fd ["d", "many"] T__law_take :=
  (g_fn (k := 0) F S__law_take (fun cdv A outer s H E hr tk hp =>
      (gs_cons (gs_if (gt_w (gw_and (gt_cmp (og_eq hr.units) (g_ix (u1 hr) (g_v 0) g_int) g_int) (gw_and1 (gt_cmp og_lt (g_ix (u1 hr) (g_v 0) g_int) (g_callB0 cg_len B.m_len bt_len (g_cons (g_ix (u1 hr) (g_v 0) g_int) g_nil)))))) (gs_cons (gs_sub (u1 hr) (g_v 0) g_int (g_callB0 cg_abs B.m_abs bt_abs (g_cons (g_callT0 cg_int B.m_int bt_int (g_cons (g_ix (u1 hr) (g_ix (u1 hr) (g_v 0) g_int) (g_ix (u1 hr) (g_v 0) g_int)) g_nil)) g_nil))) (gs_cons (gs_sub (u1 hr) (g_v 0) g_int (g_op og_add (g_ix (u1 hr) (g_v 0) g_int) g_int)) (gs_one (gs_if (gt_cmp og_lt (g_ix (u1 hr) (g_v 0) g_int) (g_op og_pow g_int g_int)) (gs_cons (gs_set (i := 2) S__law_take.nd rfl (by first | exact .inl rfl | exact .inr rfl) (g_callT0 cg_int B.m_int bt_int (g_cons (g_ix (u1 hr) (g_v 0) g_int) g_nil))) (gs_cons (gs_sub (u1 hr) (g_v 0) g_int g_int) (gs_one (gs_ret (g_op og_mod (g_v 2) (g_v 1)))))) gs_nil)))) gs_nil)
      (gs_cons (gs_if (gt_cmp og_gt (g_ix (u1 hr) (g_v 0) g_int) g_int) (gs_cons (gs_set (i := 3) S__law_take.nd rfl (by first | exact .inl rfl | exact .inr rfl) (g_op og_mod (g_callT0 cg_int B.m_int bt_int (g_cons (g_ix (u1 hr) (g_v 0) g_int) g_nil)) (g_v 1))) (gs_cons (gs_sub (u1 hr) (g_v 0) g_int (g_op og_div (g_callT0 cg_int B.m_int bt_int (g_cons (g_ix (u1 hr) (g_v 0) g_int) g_nil)) (g_v 1))) (gs_one (gs_ret (g_v 3))))) gs_nil)
      (gs_cons (gs_sub (u1 hr) (g_v 0) g_int (g_op og_mod (g_callT0 cg_int B.m_int bt_int (g_cons (g_op og_add (g_op og_mul (g_ix (u1 hr) (g_v 0) g_int) g_int) g_int) g_nil)) g_int))
      (gs_one (gs_ret (g_op og_mod (g_callT0 cg_int B.m_int bt_int (g_cons (g_op og_div (g_ix (u1 hr) (g_v 0) g_int) g_int) g_nil)) (g_v 1))))))))).clean
theorem c__law_take {f : Addr} {fd : FuncData} (B : Bn P w K mg base T)  (F : Fun K "_law_take" "_law_take" st__law_take f fd) (g : mg "_law_take" = some (.ref f)) : Cal P w K mg base T 1 "_law_take" ["d", "many"] T__law_take :=
  ⟨f, fd, d__law_take B  F, g, F.kp, F.binds fun _ _ _ _ _ _ us hl => match us, hl with | [_, _], _ => rfl⟩
theorem S__law_flag : FnScope ["x"] ["x"] (defScope st__law_flag) := ⟨rfl, rfl, rfl, by decide +kernel, rfl, by decide +kernel, by decide +kernel⟩
theorem d__law_flag {f : Addr} {fd : FuncData} (B : Bn P w K mg base T)  (F : Fun K "_law_flag" "_law_flag" st__law_flag f fd) : GF P w K mg base T 1 f fd ["x"] T__law_flag :=
  (g_fn (k := 0) F S__law_flag (fun cdv A outer s H E hr tk hp =>
      (gs_one (gs_ret (g_if (gt_tru (g_isi (g_v 0) B.m_isinstance B.m_bool bt_bool (by decide))) (g_v 0) g_non))))).clean
theorem c__law_flag {f : Addr} {fd : FuncData} (B : Bn P w K mg base T)  (F : Fun K "_law_flag" "_law_flag" st__law_flag f fd) (g : mg "_law_flag" = some (.ref f)) : Cal P w K mg base T 1 "_law_flag" ["x"] T__law_flag :=
  ⟨f, fd, d__law_flag B  F, g, F.kp, F.binds fun _ _ _ _ _ _ us hl => match us, hl with | [_], _ => rfl⟩
theorem S__law_told : FnScope ["word", "takes", "a", "b", "e"] ["word", "takes", "a", "b"] (defScope st__law_told) := ⟨rfl, rfl, rfl, by decide +kernel, rfl, by decide +kernel, by decide +kernel⟩
theorem d__law_told {f : Addr} {fd : FuncData} (B : Bn P w K mg base T) (c_taking_row : Cal P w K mg base T 4 "taking_row" ["takes", "many"] T_taking_row) (c_taking_period : Cal P w K mg base T 4 "taking_period" ["takes"] T_taking_period) (c_takes_period : Cal P w K mg base T 5 "takes_period" ["takes", "begin", "length"] T_takes_period) (c__law_flag : Cal P w K mg base T 1 "_law_flag" ["x"] T__law_flag) (F : Fun K "_law_told" "_law_told" st__law_told f fd) : GF P w K mg base T 6 f fd ["word", "takes", "a", "b"] T__law_told :=
  (g_fn (k := 5) F S__law_told (fun cdv A outer s H E hr tk hp =>
      (gs_one (g_tryC (i := 4) B.x_RuleError tk S__law_told.nd rfl rfl (fun _ _ _ tk1 hp1 => (gs_cons (gs_if (gt_cmp (og_eq hr.units) (g_v 0) g_str) (gs_one (gs_ret (g_cX c_taking_row hr (by decide) tk1 (g_cons (g_v 1) (g_cons (g_v 2) g_nil))))) gs_nil) (gs_one (gs_ret (g_if (gt_cmp (og_eq hr.units) (g_v 0) g_str) (g_cX c_taking_period hr (by decide) tk1 (g_cons (g_v 1) g_nil)) (g_cX c__law_flag hr (by decide) tk1 (g_cons (g_cX c_takes_period hr (by decide) tk1 (g_cons (g_v 1) (g_cons (g_v 2) (g_cons (g_v 3) g_nil)))) g_nil))))))))))).clean
theorem c__law_told {f : Addr} {fd : FuncData} (B : Bn P w K mg base T) (c_taking_row : Cal P w K mg base T 4 "taking_row" ["takes", "many"] T_taking_row) (c_taking_period : Cal P w K mg base T 4 "taking_period" ["takes"] T_taking_period) (c_takes_period : Cal P w K mg base T 5 "takes_period" ["takes", "begin", "length"] T_takes_period) (c__law_flag : Cal P w K mg base T 1 "_law_flag" ["x"] T__law_flag) (F : Fun K "_law_told" "_law_told" st__law_told f fd) (g : mg "_law_told" = some (.ref f)) : Cal P w K mg base T 6 "_law_told" ["word", "takes", "a", "b"] T__law_told :=
  ⟨f, fd, d__law_told B c_taking_row c_taking_period c_takes_period c__law_flag F, g, F.kp, F.binds fun _ _ _ _ _ _ us hl => match us, hl with | [_, _, _, _], _ => rfl⟩
theorem S__law_row : FnScope ["takes", "many", "row", "size", "met", "value", "turn", "k"] ["takes", "many"] (defScope st__law_row) := ⟨rfl, rfl, rfl, by decide +kernel, rfl, by decide +kernel, by decide +kernel⟩
theorem d__law_row {f : Addr} {fd : FuncData} (B : Bn P w K mg base T)  (F : Fun K "_law_row" "_law_row" st__law_row f fd) : GF P w K mg base T 1 f fd ["takes", "many"] T__law_row :=
  (g_fn (k := 0) F S__law_row (fun cdv A outer s H E hr tk hp =>
      (gs_cons (gs_set (i := 2) S__law_row.nd rfl (by first | exact .inl rfl | exact .inr rfl) (g_lst g_nil))
      (gs_cons (gs_for hp rfl (gi_rg1 (g_cons (g_v 1) g_nil) B.m_range) (pg_name (i := 3) S__law_row.nd rfl (by first | exact .inl rfl | exact .inr rfl)) gok_n (gs_cons (gs_setLc (i := 4) rfl S__law_row.nd rfl rfl (sw_true rfl rfl rfl rfl) (gi_seq (g_v 0)) (own := [("k", 7)]) (blkOk_by (by rfl)) gok_n (fun _ _ _ _ _ => (pg_name (i := 7) S__law_row.nd rfl (by first | exact .inl rfl | exact .inr rfl))) (fun _ _ _ _ _ => (gts_one (gt_cmp og_le (g_v 7) (g_v 3)))) (fun _ _ _ _ _ => (g_ix (u1 hr) (g_v 2) (g_op og_sub (g_v 3) (g_v 7))))) (gs_cons (gs_set (i := 5) S__law_row.nd rfl (by first | exact .inl rfl | exact .inr rfl) g_int) (gs_cons (gs_for hp rfl (gi_rg1 (g_cons (g_op og_add (g_callB0 cg_len B.m_len bt_len (g_cons (g_v 4) g_nil)) g_int) g_nil) B.m_range) (pg_name (i := 6) S__law_row.nd rfl (by first | exact .inl rfl | exact .inr rfl)) gok_n (gs_one (gs_if (gt_cmp (og_in (u65 hr)) (g_v 5) (g_v 4)) (gs_one (gs_set (i := 5) S__law_row.nd rfl (by first | exact .inl rfl | exact .inr rfl) (g_op og_add (g_v 5) g_int))) gs_nil))) (gs_one (gs_ex (g_m PySem.F.slot_list_append PySem.F.type_list_append mg_append (g_v 2) (g_cons (g_v 5) g_nil))))))))
      (gs_one (gs_ret (g_v 2))))))).clean
theorem c__law_row {f : Addr} {fd : FuncData} (B : Bn P w K mg base T)  (F : Fun K "_law_row" "_law_row" st__law_row f fd) (g : mg "_law_row" = some (.ref f)) : Cal P w K mg base T 1 "_law_row" ["takes", "many"] T__law_row :=
  ⟨f, fd, d__law_row B  F, g, F.kp, F.binds fun _ _ _ _ _ _ us hl => match us, hl with | [_, _], _ => rfl⟩
theorem S__law_takes : FnScope ["d", "most", "k"] ["d", "most"] (defScope st__law_takes) := ⟨rfl, rfl, rfl, by decide +kernel, rfl, by decide +kernel, by decide +kernel⟩
theorem d__law_takes {f : Addr} {fd : FuncData} (B : Bn P w K mg base T) (c__law_take : Cal P w K mg base T 1 "_law_take" ["d", "many"] T__law_take) (F : Fun K "_law_takes" "_law_takes" st__law_takes f fd) : GF P w K mg base T 2 f fd ["d", "most"] T__law_takes :=
  (g_fn (k := 1) F S__law_takes (fun cdv A outer s H E hr tk hp =>
      (gs_one (gs_ret (g_callT cg_tuple B.m_tuple bt_tuple (g_cons (g_ss rfl B.m_sorted bt_sorted B.m_set bt_set (g_cons (g_lc rfl S__law_takes.nd (gi_rg1 (g_cons (g_op og_add g_int (g_cX c__law_take hr (by decide) tk (g_cons (g_v 0) (g_cons g_int g_nil)))) g_nil) B.m_range) (own := [("k", 2)]) (blkOk_by (by rfl)) gok_n (fun _ _ _ _ _ => (pg_name (i := 2) S__law_takes.nd rfl (by first | exact .inl rfl | exact .inr rfl))) (fun _ _ _ _ _ => gts_nil) (fun _ _ _ _ _ => (g_op og_add g_int (g_cX c__law_take hr (by decide) takes0 (g_cons (g_v 0) (g_cons (g_v 1) g_nil)))))) g_nil)) g_nil)))))).clean
theorem c__law_takes {f : Addr} {fd : FuncData} (B : Bn P w K mg base T) (c__law_take : Cal P w K mg base T 1 "_law_take" ["d", "many"] T__law_take) (F : Fun K "_law_takes" "_law_takes" st__law_takes f fd) (g : mg "_law_takes" = some (.ref f)) : Cal P w K mg base T 2 "_law_takes" ["d", "most"] T__law_takes :=
  ⟨f, fd, d__law_takes B c__law_take F, g, F.kp, F.binds fun _ _ _ _ _ _ us hl => match us, hl with | [_, _], _ => rfl⟩
theorem S_law : FnScope ["script", "d", "takes", "row", "many", "begin", "length", "far", "less", "turn", "a", "b", "due", "wide", "bad", "k", "x"] ["script"] (defScope st_law) := ⟨rfl, rfl, rfl, by decide +kernel, rfl, by decide +kernel, by decide +kernel⟩
theorem d_law {f : Addr} {fd : FuncData} (B : Bn P w K mg base T) (c__law_begin : Cal P w K mg base T 1 "_law_begin" ["script"] T__law_begin) (c__law_takes : Cal P w K mg base T 2 "_law_takes" ["d", "most"] T__law_takes) (c__law_row : Cal P w K mg base T 1 "_law_row" ["takes", "many"] T__law_row) (c__law_take : Cal P w K mg base T 1 "_law_take" ["d", "many"] T__law_take) (c__law_told : Cal P w K mg base T 6 "_law_told" ["word", "takes", "a", "b"] T__law_told) (F : Fun K "law" "law" st_law f fd) : GF P w K mg base T 7 f fd ["script"] T_law :=
  (g_fn (k := 6) F S_law (fun cdv A outer s H E hr tk hp =>
      (gs_cons (gs_clr 0 (gs_set (i := 1) S_law.nd rfl (by first | exact .inl rfl | exact .inr rfl) (g_cC c__law_begin hr (by decide) tk (g_cons (g_v 0) g_nil))))
      (gs_cons (gs_set (i := 2) S_law.nd rfl (by first | exact .inl rfl | exact .inr rfl) (g_cX c__law_takes hr (by decide) tk (g_cons (g_v 1) (g_cons g_int g_nil))))
      (gs_cons (gs_set (i := 3) S_law.nd rfl (by first | exact .inl rfl | exact .inr rfl) (g_cX c__law_row hr (by decide) tk (g_cons (g_v 2) (g_cons g_int g_nil))))
      (gs_cons (gs_set (i := 4) S_law.nd rfl (by first | exact .inl rfl | exact .inr rfl) (g_cX c__law_take hr (by decide) tk (g_cons (g_v 1) (g_cons g_int g_nil))))
      (gs_cons (gs_if (gt_cmp (og_ne hr.units) (g_cX c__law_told hr (by decide) tk (g_cons g_str (g_cons (g_v 2) (g_cons (g_v 4) (g_cons g_int g_nil))))) (g_callT cg_tuple B.m_tuple bt_tuple (g_cons (g_sl (g_v 3) go_no (go_so (g_v 4))) g_nil))) (gs_one (gs_ret g_bl)) gs_nil)
      (gs_cons (gs_un (g_cX c__law_told hr (by decide) tk (g_cons g_str (g_cons (g_v 2) (g_cons g_int (g_cons g_int g_nil))))) (gg_t2 (i := 5) (j := 6) rfl S_law.nd rfl rfl (by first | exact .inl rfl | exact .inr rfl) (by first | exact .inl rfl | exact .inr rfl) (by first | exact .inr rfl | exact .inl rfl) (by first | exact .inr rfl | exact .inl rfl)) gok_t2)
      (gs_cons (gs_set (i := 7) S_law.nd rfl (by first | exact .inl rfl | exact .inr rfl) g_int)
      (gs_cons (gs_if (gt_tru (g_callB (cg_any rfl) B.m_any bt_any (g_cons (g_lc rfl S_law.nd (gi_rg2 (g_cons (g_v 5) (g_cons (g_op og_sub (g_v 7) (g_v 6)) g_nil)) B.m_range) (own := [("k", 15)]) (blkOk_by (by rfl)) gok_n (fun _ _ _ _ _ => (pg_name (i := 15) S_law.nd rfl (by first | exact .inl rfl | exact .inr rfl))) (fun _ _ _ _ _ => gts_nil) (fun _ _ _ _ _ => (g_cmp (og_ne hr.units) (g_ix (u1 hr) (g_v 3) (g_v 15)) (g_ix (u1 hr) (g_v 3) (g_op og_add (g_v 15) (g_v 6)))))) g_nil))) (gs_one (gs_ret g_bl)) gs_nil)
      (gs_cons (gs_if (gt_w (gw_and (gt_cmp og_gt (g_v 5) g_int) (gw_and1 (gt_cmp (og_eq hr.units) (g_ix (u1 hr) (g_v 3) (g_op og_sub (g_v 5) g_int)) (g_ix (u1 hr) (g_v 3) (g_op og_add (g_op og_sub (g_v 5) g_int) (g_v 6))))))) (gs_one (gs_ret g_bl)) gs_nil)
      (gs_cons (gs_for hp rfl (gi_rg2 (g_cons g_int (g_cons (g_v 6) g_nil)) B.m_range) (pg_name (i := 8) S_law.nd rfl (by first | exact .inl rfl | exact .inr rfl)) gok_n (gs_one (gs_if (gt_tru (g_callB (cg_all rfl) B.m_all bt_all (g_cons (g_lc rfl S_law.nd (gi_rg2 (g_cons (g_v 5) (g_cons (g_op og_sub (g_v 7) (g_v 8)) g_nil)) B.m_range) (own := [("k", 15)]) (blkOk_by (by rfl)) gok_n (fun _ _ _ _ _ => (pg_name (i := 15) S_law.nd rfl (by first | exact .inl rfl | exact .inr rfl))) (fun _ _ _ _ _ => gts_nil) (fun _ _ _ _ _ => (g_cmp (og_eq hr.units) (g_ix (u1 hr) (g_v 3) (g_v 15)) (g_ix (u1 hr) (g_v 3) (g_op og_add (g_v 15) (g_v 8)))))) g_nil))) (gs_one (gs_ret g_bl)) gs_nil)))
      (gs_cons (gs_for hp rfl (gi_rg1 (g_cons g_int g_nil) B.m_range) (pg_name (i := 9) S_law.nd rfl (by first | exact .inl rfl | exact .inr rfl)) gok_n (gs_cons (gs_set (i := 10) S_law.nd rfl (by first | exact .inl rfl | exact .inr rfl) (g_callB (cg_max2 rfl) B.m_max bt_max (g_cons g_int (g_cons (g_op og_sub (g_op og_add (g_v 5) (g_cX c__law_take hr (by decide) tk (g_cons (g_v 1) (g_cons g_int g_nil)))) g_int) g_nil)))) (gs_cons (gs_set (i := 11) S_law.nd rfl (by first | exact .inl rfl | exact .inr rfl) (g_callB (cg_max2 rfl) B.m_max bt_max (g_cons g_int (g_cons (g_op og_sub (g_op og_add (g_v 6) (g_cX c__law_take hr (by decide) tk (g_cons (g_v 1) (g_cons g_int g_nil)))) g_int) g_nil)))) (gs_one (gs_if (gt_cmp og_le (g_op og_add (g_op og_add (g_v 10) (g_v 11)) (g_ix (u1 hr) (g_v 2) (g_neg g_int))) g_int) (gs_cons (gs_set (i := 12) S_law.nd rfl (by first | exact .inl rfl | exact .inr rfl) (g_callB (cg_all rfl) B.m_all bt_all (g_cons (g_lc rfl S_law.nd (gi_rg2 (g_cons (g_v 10) (g_cons (g_op og_add (g_v 10) (g_ix (u1 hr) (g_v 2) (g_neg g_int))) g_nil)) B.m_range) (own := [("k", 15)]) (blkOk_by (by rfl)) gok_n (fun _ _ _ _ _ => (pg_name (i := 15) S_law.nd rfl (by first | exact .inl rfl | exact .inr rfl))) (fun _ _ _ _ _ => gts_nil) (fun _ _ _ _ _ => (g_cmp (og_eq hr.units) (g_ix (u1 hr) (g_v 3) (g_v 15)) (g_ix (u1 hr) (g_v 3) (g_op og_add (g_v 15) (g_v 11)))))) g_nil))) (gs_one (gs_if (gt_cmp (og_ne hr.units) (g_cX c__law_told hr (by decide) tk (g_cons g_str (g_cons (g_v 2) (g_cons (g_v 10) (g_cons (g_v 11) g_nil))))) (g_v 12)) (gs_one (gs_ret g_bl)) gs_nil))) gs_nil)))))
      (gs_cons (gs_if (gt_cmp og_isNot (g_cX c__law_told hr (by decide) tk (g_cons g_str (g_cons (g_v 2) (g_cons (g_v 5) (g_cons (g_v 6) g_nil))))) g_bl) (gs_one (gs_ret g_bl)) gs_nil)
      (gs_cons (gs_set (i := 13) S_law.nd rfl (by first | exact .inl rfl | exact .inr rfl) (g_cX c__law_takes hr (by decide) tk (g_cons (g_v 1) (g_cons g_int g_nil))))
      (gs_cons (gs_if (gt_w (gw_or (gt_cmp (og_ne hr.units) (g_cX c__law_told hr (by decide) tk (g_cons g_str (g_cons (g_v 13) (g_cons g_int (g_cons g_int g_nil))))) (g_callT cg_tuple B.m_tuple bt_tuple (g_cons (g_cX c__law_row hr (by decide) tk (g_cons (g_v 13) (g_cons g_int g_nil))) g_nil))) (gw_or1 (gt_w (gw_and (gt_cmp og_gt (g_ix (u1 hr) (g_v 13) (g_neg g_int)) g_int) (gw_and1 (gt_cmp (og_ne hr.units) (g_cX c__law_told hr (by decide) tk (g_cons g_str (g_cons (g_v 13) (g_cons g_int (g_cons g_int g_nil))))) g_str))))))) (gs_one (gs_ret g_bl)) gs_nil)
      (gs_cons (gs_set (i := 14) S_law.nd rfl (by first | exact .inl rfl | exact .inr rfl) (g_lst (g_cons (g_tup g_nil) (g_cons (g_tup (g_cons g_int (g_cons g_int g_nil))) (g_cons (g_tup (g_cons g_int (g_cons g_int g_nil))) (g_cons (g_tup (g_cons g_int (g_cons g_int g_nil))) (g_cons (g_tup (g_cons g_int g_nil)) g_nil)))))))
      (gs_cons (gs_if (gt_w (gw_or (gt_tru (g_callB (cg_any rfl) B.m_any bt_any (g_cons (g_lc rfl S_law.nd (gi_seq (g_v 14)) (own := [("x", 16)]) (blkOk_by (by rfl)) gok_n (fun _ _ _ _ _ => (pg_name (i := 16) S_law.nd rfl (by first | exact .inl rfl | exact .inr rfl))) (fun _ _ _ _ _ => gts_nil) (fun _ _ _ _ _ => (g_cmp (og_ne hr.units) (g_cX c__law_told hr (by decide) takes0 (g_cons g_str (g_cons (g_v 16) (g_cons g_int (g_cons g_int g_nil))))) g_str))) g_nil))) (gw_or (gt_cmp (og_ne hr.units) (g_cX c__law_told hr (by decide) tk (g_cons g_str (g_cons (g_v 2) (g_cons g_int (g_cons g_int g_nil))))) g_str) (gw_or1 (gt_cmp (og_ne hr.units) (g_cX c__law_told hr (by decide) tk (g_cons g_str (g_cons (g_v 2) (g_cons (g_op og_sub g_int g_int) (g_cons g_int g_nil))))) g_str))))) (gs_one (gs_ret g_bl)) gs_nil)
      (gs_one (gs_ret (g_cmp (og_eq hr.units) (g_lst (g_cons (g_cX c__law_told hr (by decide) tk (g_cons g_str (g_cons (g_v 2) (g_cons (g_op og_sub g_int g_int) (g_cons g_int g_nil))))) (g_cons (g_cX c__law_told hr (by decide) tk (g_cons g_str (g_cons (g_v 2) (g_cons g_int (g_cons g_int g_nil))))) (g_cons (g_cX c__law_told hr (by decide) tk (g_cons g_str (g_cons (g_v 2) (g_cons g_int (g_cons g_int g_nil))))) g_nil)))) (g_op og_mul (g_lst (g_cons g_str g_nil)) g_int)))))))))))))))))))))).clean
theorem c_law {f : Addr} {fd : FuncData} (B : Bn P w K mg base T) (c__law_begin : Cal P w K mg base T 1 "_law_begin" ["script"] T__law_begin) (c__law_takes : Cal P w K mg base T 2 "_law_takes" ["d", "most"] T__law_takes) (c__law_row : Cal P w K mg base T 1 "_law_row" ["takes", "many"] T__law_row) (c__law_take : Cal P w K mg base T 1 "_law_take" ["d", "many"] T__law_take) (c__law_told : Cal P w K mg base T 6 "_law_told" ["word", "takes", "a", "b"] T__law_told) (F : Fun K "law" "law" st_law f fd) (g : mg "law" = some (.ref f)) : Cal P w K mg base T 7 "law" ["script"] T_law :=
  ⟨f, fd, d_law B c__law_begin c__law_takes c__law_row c__law_take c__law_told F, g, F.kp, F.binds fun _ _ _ _ _ _ us hl => match us, hl with | [_], _ => rfl⟩
end
end K11
namespace K11
open PySem PySem.Spec L2 Gv
def v_least_missing_b1 : VS := vSet 2 1 (vOp gAdd (vV 1) (vC (.int 1)))
def v_least_missing_0 : VS := vSet 0 1 (vC (.int 0))
def v_least_missing_1 : VS := vWhile (vCmp (gIn false) (vV 1) (vV 0)) v_least_missing_b1
def v_least_missing_2 : VS := vRet (vV 1)
def V_least_missing : VF := vFn 2 1 (vSeq v_least_missing_0 (vSeq v_least_missing_1 v_least_missing_2))
theorem sv_least_missing : SoundF false T_least_missing V_least_missing := sf_fn (O' := []) ((ss_seq (ss_set (se_int 0) 1 0 (O' := [1]) (by rfl)) (ss_seq (ss_while (OL' := [1]) [1] (sb_cmp (ok_in false) (se_v 1) (se_v 0)) (ss_set (se_op ok_add (se_v 1) (se_int 1)) 1 2 (O' := [1]) (by rfl)) (by rfl) (by rfl)) (ss_ret (se_v 1)))))
def v_check_takes_0 : VS := vIte (vBOr (vCmp gEq (vCB gLen (vCons (vV 0) vNil)) (vC (.int 0))) (vTru (vCB gAny (vCons (vLC [1] (vISeq (vV 0)) (vuN 1) vBYes (vNot (vChain gLe gLe (vC (.int 1)) (vV 1) (vC (.int 40))))) vNil)))) (vRs1 0 (vCons (vC (.str "takes")) vNil)) vSkip
def v_check_takes_1 : VS := vIte (vTru (vCB gAny (vCons (vLC [2] (vIRg1 (vCons (vOp gSub (vCB gLen (vCons (vV 0) vNil)) (vC (.int 1))) vNil)) (vuN 2) vBYes (vOp gGe (vOp gIx (vV 0) (vV 2)) (vOp gIx (vV 0) (vOp gAdd (vV 2) (vC (.int 1)))))) vNil))) (vRs1 0 (vCons (vC (.str "takes")) vNil)) vSkip
def V_check_takes : VF := vFn 3 1 (vSeq v_check_takes_0 v_check_takes_1)
theorem sv_check_takes : SoundF false T_check_takes V_check_takes := sf_fn (O' := []) ((ss_seq (ss_if (O' := []) (sb_or (sb_cmp ok_eq (se_cb ok_len (sa_cons (se_v 0) sa_nil)) (se_int 0)) (sb_tru (se_gc (se_cb ok_any (sa_cons (se_lc (si_seq (se_v 0)) (ud_n 1) sb_yes (se_not (se_chain ok_le ok_le (se_int 1) (se_v 1) (se_int 40))) (by rfl) (by rfl)) sa_nil))))) (ss_rs1 0 (sa_cons (se_str "takes") sa_nil)) ss_skip) (ss_if (O' := []) (sb_tru (se_gc (se_cb ok_any (sa_cons (se_lc (si_rg1 (sa_cons (se_op ok_sub (se_cb ok_len (sa_cons (se_v 0) sa_nil)) (se_int 1)) sa_nil)) (ud_n 2) sb_yes (se_op ok_ge (se_op ok_ix (se_v 0) (se_v 2)) (se_op ok_ix (se_v 0) (se_op ok_add (se_v 2) (se_int 1)))) (by rfl) (by rfl)) sa_nil)))) (ss_rs1 0 (sa_cons (se_str "takes") sa_nil)) ss_skip)))
def v_taking_row_b1 : VS := vApp 0 2 (vX V_least_missing (vCons (vLC [4] (vISeq (vV 0)) (vuN 4) (vCmp gLe (vV 4) (vV 3)) (vFl (vOp gIx (vV 2) (vOp gSub (vV 3) (vV 4))))) vNil))
def v_taking_row_0 : VS := vEx (vX V_check_takes (vCons (vV 0) vNil))
def v_taking_row_1 : VS := vIte (vBNot (vBChain gLe gLe (vC (.int 0)) (vV 1) (vC (.int 400)))) (vRs1 0 (vCons (vC (.str "many")) vNil)) vSkip
def v_taking_row_2 : VS := vSet 0 2 (vLst vNil)
def v_taking_row_3 : VS := vFor (vIRg1 (vCons (vV 1) vNil)) (vuN 3) v_taking_row_b1
def v_taking_row_4 : VS := vRet (vCB gTuple (vCons (vV 2) vNil))
def V_taking_row : VF := vFn 5 2 (vSeq v_taking_row_0 (vSeq v_taking_row_1 (vSeq v_taking_row_2 (vSeq v_taking_row_3 v_taking_row_4))))
theorem sv_taking_row : SoundF false T_taking_row V_taking_row := sf_fn (O' := []) ((ss_seq (ss_ex (se_x sv_check_takes (sa_cons (se_v 0) sa_nil))) (ss_seq (ss_if (O' := []) (sb_not (sb_chain ok_le ok_le (se_int 0) (se_v 1) (se_int 400))) (ss_rs1 0 (sa_cons (se_str "many") sa_nil)) ss_skip) (ss_seq (ss_set (se_lst sa_nil) 2 0 (O' := [2]) (by rfl)) (ss_seq (ss_for (OL' := [2]) [2] (si_rg1 (sa_cons (se_v 1) sa_nil)) (ud_n 3) (ss_app (se_x sv_least_missing (sa_cons (se_lc (si_seq (se_v 0)) (ud_n 4) (sb_cmp ok_le (se_v 4) (se_v 3)) (se_fl (se_op ok_ix (se_v 2) (se_op ok_sub (se_v 3) (se_v 4)))) (by rfl) (by rfl)) sa_nil)) 2 0 (O' := [2]) (by rfl)) (by rfl) (by rfl) (by rfl) (len_n 3)) (ss_ret (se_cb ok_tuple (sa_cons (se_v 2) sa_nil))))))))
def v__shortened_b1 : VS := vSet 0 1 (vOp gSub (vV 1) (vC (.int 1)))
def v__shortened_0 : VS := vWhile (vBAnd (vCmp gGt (vV 1) (vC (.int 0))) (vCmp gEq (vOp gIx (vV 0) (vOp gSub (vV 1) (vC (.int 1)))) (vOp gIx (vV 0) (vOp gAdd (vOp gSub (vV 1) (vC (.int 1))) (vV 2))))) v__shortened_b1
def v__shortened_1 : VS := vRet (vTup (vCons (vV 1) (vCons (vV 2) vNil)))
def V__shortened : VF := vFn 3 3 (vSeq v__shortened_0 v__shortened_1)
theorem sv__shortened : SoundF false T__shortened V__shortened := sf_fn (O' := []) ((ss_seq (ss_while (OL' := []) [] (sb_and (sb_cmp ok_gt (se_v 1) (se_int 0)) (sb_cmp ok_eq (se_op ok_ix (se_v 0) (se_op ok_sub (se_v 1) (se_int 1))) (se_op ok_ix (se_v 0) (se_op ok_add (se_op ok_sub (se_v 1) (se_int 1)) (se_v 2))))) (ss_set (se_op ok_sub (se_v 1) (se_int 1)) 1 0 (O' := []) (by rfl)) (by rfl) (by rfl)) (ss_ret (se_tup (sa_cons (se_v 1) (sa_cons (se_v 2) sa_nil))))))
def v_taking_period_b1 : VS := vSeq (vSet 0 4 (vCB gLen (vCons (vV 1) vNil))) (vSeq (vIte (vCmp gGe (vV 4) (vV 3)) (vSeq (vSet 2 5 (vCB gTuple (vCons (vSl (vV 1) (vOSo (vOp gSub (vV 4) (vV 3))) vONo) vNil))) (vSeq (vIte (vCmp (gIn false) (vV 5) (vV 2)) (vRet (vX V__shortened (vCons (vV 1) (vCons (vFl (vOp gIx (vV 2) (vV 5))) (vCons (vOp gSub (vV 4) (vFl (vOp gIx (vV 2) (vV 5)))) vNil))))) vSkip) (vSub 0 2 (vV 5) (vV 4)))) vSkip) (vApp 0 1 (vX V_least_missing (vCons (vLC [6] (vISeq (vV 0)) (vuN 6) (vCmp gLe (vV 6) (vV 4)) (vFl (vOp gIx (vV 1) (vOp gSub (vV 4) (vV 6))))) vNil))))
def v_taking_period_0 : VS := vEx (vX V_check_takes (vCons (vV 0) vNil))
def v_taking_period_1 : VS := vIte (vCmp gGt (vOp gIx (vV 0) (vUn gNeg (vC (.int 1)))) (vC (.int 10))) (vRs1 0 (vCons (vC (.str "takes")) vNil)) vSkip
def v_taking_period_2 : VS := vSet 0 1 (vLst vNil)
def v_taking_period_3 : VS := vSet 0 2 vNewT
def v_taking_period_4 : VS := vSet 0 3 (vOp gIx (vV 0) (vUn gNeg (vC (.int 1))))
def v_taking_period_5 : VS := vWhile (vTru (vC (.bl true))) v_taking_period_b1
def V_taking_period : VF := vFn 7 1 (vSeq v_taking_period_0 (vSeq v_taking_period_1 (vSeq v_taking_period_2 (vSeq v_taking_period_3 (vSeq v_taking_period_4 v_taking_period_5)))))
theorem sv_taking_period : SoundF false T_taking_period V_taking_period := sf_fn (O' := [1, 2]) ((ss_seq (ss_ex (se_x sv_check_takes (sa_cons (se_v 0) sa_nil))) (ss_seq (ss_if (O' := []) (sb_cmp ok_gt (se_op ok_ix (se_v 0) (se_un ok_neg (se_int 1))) (se_int 10)) (ss_rs1 0 (sa_cons (se_str "takes") sa_nil)) ss_skip) (ss_seq (ss_set (se_lst sa_nil) 1 0 (O' := [1]) (by rfl)) (ss_seq (ss_set se_newT 2 0 (O' := [1, 2]) (by rfl)) (ss_seq (ss_set (se_op ok_ix (se_v 0) (se_un ok_neg (se_int 1))) 3 0 (O' := [1, 2]) (by rfl)) (ss_while (OL' := [1, 2]) [1, 2] (sb_tru (se_bl true)) (ss_seq (ss_set (se_cb ok_len (sa_cons (se_v 1) sa_nil)) 4 0 (O' := [1, 2, 4]) (by rfl)) (ss_seq (ss_if (O' := [1, 2]) (sb_cmp ok_ge (se_v 4) (se_v 3)) (ss_weak (O1 := [1, 2, 5]) (ss_seq (ss_set (se_gc (se_cb ok_tuple (sa_cons (se_sl (se_v 1) (so_so (se_op ok_sub (se_v 4) (se_v 3))) so_no) sa_nil))) 5 2 (O' := [1, 2, 4, 5]) (by rfl)) (ss_seq (ss_if (O' := [1, 2, 4, 5]) (sb_cmp (ok_in false) (se_v 5) (se_v 2)) (ss_ret (se_x sv__shortened (sa_cons (se_v 1) (sa_cons (se_fl (se_op ok_ix (se_v 2) (se_v 5))) (sa_cons (se_op ok_sub (se_v 4) (se_fl (se_op ok_ix (se_v 2) (se_v 5)))) sa_nil))))) ss_skip) (ss_sub (se_v 5) (se_v 4) 2 0 (O' := [1, 2, 5]) (by rfl)))) (by rfl)) (ss_weak (O1 := [1, 2, 4]) ss_skip (by rfl))) (ss_app (se_x sv_least_missing (sa_cons (se_lc (si_seq (se_v 0)) (ud_n 6) (sb_cmp ok_le (se_v 6) (se_v 4)) (se_fl (se_op ok_ix (se_v 1) (se_op ok_sub (se_v 4) (se_v 6)))) (by rfl) (by rfl)) sa_nil)) 1 0 (O' := [1, 2]) (by rfl)))) (by rfl) (by rfl))))))))
def v_takes_period_0 : VS := vEx (vX V_check_takes (vCons (vV 0) vNil))
def v_takes_period_1 : VS := vIte (vBOr (vCmp gLt (vV 1) (vC (.int 0))) (vBOr (vCmp gLt (vV 2) (vC (.int 1))) (vCmp gGt (vOp gAdd (vOp gAdd (vV 1) (vV 2)) (vOp gIx (vV 0) (vUn gNeg (vC (.int 1))))) (vC (.int 400))))) (vRs1 0 (vCons (vC (.str "period")) vNil)) vSkip
def v_takes_period_2 : VS := vSet 0 3 (vX V_taking_row (vCons (vV 0) (vCons (vOp gAdd (vOp gAdd (vV 1) (vV 2)) (vOp gIx (vV 0) (vUn gNeg (vC (.int 1))))) vNil)))
def v_takes_period_3 : VS := vRet (vCB gAll (vCons (vLC [4] (vIRg2 (vCons (vV 1) (vCons (vOp gAdd (vV 1) (vOp gIx (vV 0) (vUn gNeg (vC (.int 1))))) vNil))) (vuN 4) vBYes (vOp gEq (vOp gIx (vV 3) (vV 4)) (vOp gIx (vV 3) (vOp gAdd (vV 4) (vV 2))))) vNil))
def V_takes_period : VF := vFn 5 3 (vSeq v_takes_period_0 (vSeq v_takes_period_1 (vSeq v_takes_period_2 v_takes_period_3)))
theorem sv_takes_period : SoundF false T_takes_period V_takes_period := sf_fn (O' := []) ((ss_seq (ss_ex (se_x sv_check_takes (sa_cons (se_v 0) sa_nil))) (ss_seq (ss_if (O' := []) (sb_or (sb_cmp ok_lt (se_v 1) (se_int 0)) (sb_or (sb_cmp ok_lt (se_v 2) (se_int 1)) (sb_cmp ok_gt (se_op ok_add (se_op ok_add (se_v 1) (se_v 2)) (se_op ok_ix (se_v 0) (se_un ok_neg (se_int 1)))) (se_int 400)))) (ss_rs1 0 (sa_cons (se_str "period") sa_nil)) ss_skip) (ss_seq (ss_set (se_x sv_taking_row (sa_cons (se_v 0) (sa_cons (se_op ok_add (se_op ok_add (se_v 1) (se_v 2)) (se_op ok_ix (se_v 0) (se_un ok_neg (se_int 1)))) sa_nil))) 3 0 (O' := []) (by rfl)) (ss_ret (se_gc (se_cb ok_all (sa_cons (se_lc (si_rg2 (sa_cons (se_v 1) (sa_cons (se_op ok_add (se_v 1) (se_op ok_ix (se_v 0) (se_un ok_neg (se_int 1)))) sa_nil))) (ud_n 4) sb_yes (se_op ok_eq (se_op ok_ix (se_v 3) (se_v 4)) (se_op ok_ix (se_v 3) (se_op ok_add (se_v 4) (se_v 2)))) (by rfl) (by rfl)) sa_nil))))))))
def v__law_flag_0 : VS := vRet (vIf (vTru (vIsI "bool" (vV 0))) (vV 0) (vC .non))
def V__law_flag : VF := vFn 1 1 v__law_flag_0
theorem sv__law_flag : SoundF false T__law_flag V__law_flag := sf_fn (O' := []) ((ss_ret (se_if (sb_tru (se_isi (by decide) (se_v 0))) (se_v 0) se_non)))
def v__law_told_0 : VS := vTry 0 4 Vx.code (vSeq (vIte (vCmp gEq (vV 0) (vC (.str "row"))) (vRet (vX V_taking_row (vCons (vV 1) (vCons (vV 2) vNil)))) vSkip) (vRet (vIf (vCmp gEq (vV 0) (vC (.str "period"))) (vX V_taking_period (vCons (vV 1) vNil)) (vX V__law_flag (vCons (vX V_takes_period (vCons (vV 1) (vCons (vV 2) (vCons (vV 3) vNil)))) vNil)))))
def V__law_told : VF := vFn 5 4 v__law_told_0
theorem sv__law_told : SoundF false T__law_told V__law_told := sf_fn (O' := []) ((ss_try (fun _ _ h st => h.2.1 st) (ss_seq (ss_if (O' := []) (sb_cmp ok_eq (se_v 0) (se_str "row")) (ss_ret (se_x sv_taking_row (sa_cons (se_v 1) (sa_cons (se_v 2) sa_nil)))) ss_skip) (ss_ret (se_if (sb_cmp ok_eq (se_v 0) (se_str "period")) (se_x sv_taking_period (sa_cons (se_v 1) sa_nil)) (se_x sv__law_flag (sa_cons (se_x sv_takes_period (sa_cons (se_v 1) (sa_cons (se_v 2) (sa_cons (se_v 3) sa_nil)))) sa_nil)))))))
def v__law_row_b1 : VS := vIte (vCmp (gIn false) (vV 5) (vV 4)) (vSet 2 5 (vOp gAdd (vV 5) (vC (.int 1)))) vSkip
def v__law_row_b2 : VS := vSeq (vSet 0 4 (vLC [7] (vISeq (vV 0)) (vuN 7) (vCmp gLe (vV 7) (vV 3)) (vFl (vOp gIx (vV 2) (vOp gSub (vV 3) (vV 7)))))) (vSeq (vSet 0 5 (vC (.int 0))) (vSeq (vFor (vIRg1 (vCons (vOp gAdd (vCB gLen (vCons (vV 4) vNil)) (vC (.int 1))) vNil)) (vuN 6) v__law_row_b1) (vApp 0 2 (vV 5))))
def v__law_row_0 : VS := vSet 0 2 (vLst vNil)
def v__law_row_1 : VS := vFor (vIRg1 (vCons (vV 1) vNil)) (vuN 3) v__law_row_b2
def v__law_row_2 : VS := vRet (vV 2)
def V__law_row : VF := vFn 8 2 (vSeq v__law_row_0 (vSeq v__law_row_1 v__law_row_2))
theorem sv__law_row : SoundF false T__law_row V__law_row := sf_fn (O' := []) ((ss_seq (ss_set (se_lst sa_nil) 2 0 (O' := [2]) (by rfl)) (ss_seq (ss_for (OL' := [2, 4]) [2] (si_rg1 (sa_cons (se_v 1) sa_nil)) (ud_n 3) (ss_seq (ss_set (se_lc (si_seq (se_v 0)) (ud_n 7) (sb_cmp ok_le (se_v 7) (se_v 3)) (se_fl (se_op ok_ix (se_v 2) (se_op ok_sub (se_v 3) (se_v 7)))) (by rfl) (by rfl)) 4 0 (O' := [2, 4]) (by rfl)) (ss_seq (ss_set (se_int 0) 5 0 (O' := [2, 4, 5]) (by rfl)) (ss_seq (ss_for (OL' := [2, 4, 5]) [2, 4, 5] (si_rg1 (sa_cons (se_op ok_add (se_cb ok_len (sa_cons (se_v 4) sa_nil)) (se_int 1)) sa_nil)) (ud_n 6) (ss_if (O' := [2, 4, 5]) (sb_cmp (ok_in false) (se_v 5) (se_v 4)) (ss_set (se_op ok_add (se_v 5) (se_int 1)) 5 2 (O' := [2, 4, 5]) (by rfl)) ss_skip) (by rfl) (by rfl) (by rfl) (len_n 6)) (ss_app (se_v 5) 2 0 (O' := [2, 4]) (by rfl))))) (by rfl) (by rfl) (by rfl) (len_n 3)) (ss_ret (se_v 2)))))
def v__law_takes_0 : VS := vRet (vCB gTuple (vCons (vCB gSS (vCons (vLC [2] (vIRg1 (vCons (vOp gAdd (vC (.int 1)) (vDraw (vC (.int 5)))) vNil)) (vuN 2) vBYes (vOp gAdd (vC (.int 1)) (vDraw (vV 1)))) vNil)) vNil))
def V__law_takes : VF := vFnD 3 2 v__law_takes_0
theorem sv__law_takes : SoundF true T__law_takes V__law_takes := sf_fnD (O' := []) ((ss_ret (se_gc (se_cb ok_tuple (sa_cons (se_gc (se_cb ok_ss (sa_cons (se_lc (si_rg1 (sa_cons (se_op ok_add (se_int 1) (se_take (se_int 5))) sa_nil)) (ud_n 2) sb_yes (se_op ok_add (se_int 1) (se_take (se_v 1))) (by rfl) (by rfl)) sa_nil))) sa_nil)))))
def v_law_b1 : VS := vIte (vTru (vCB gAll (vCons (vLC [15] (vIRg2 (vCons (vV 5) (vCons (vOp gSub (vV 7) (vV 8)) vNil))) (vuN 15) vBYes (vOp gEq (vOp gIx (vV 3) (vV 15)) (vOp gIx (vV 3) (vOp gAdd (vV 15) (vV 8))))) vNil))) (vRet (vC (.bl false))) vSkip
def v_law_b2 : VS := vSeq (vSet 0 10 (vCB gMax2 (vCons (vC (.int 0)) (vCons (vOp gSub (vOp gAdd (vV 5) (vDraw (vC (.int 5)))) (vC (.int 2))) vNil)))) (vSeq (vSet 0 11 (vCB gMax2 (vCons (vC (.int 1)) (vCons (vOp gSub (vOp gAdd (vV 6) (vDraw (vC (.int 5)))) (vC (.int 2))) vNil)))) (vIte (vCmp gLe (vOp gAdd (vOp gAdd (vV 10) (vV 11)) (vOp gIx (vV 2) (vUn gNeg (vC (.int 1))))) (vC (.int 400))) (vSeq (vSet 0 12 (vCB gAll (vCons (vLC [15] (vIRg2 (vCons (vV 10) (vCons (vOp gAdd (vV 10) (vOp gIx (vV 2) (vUn gNeg (vC (.int 1))))) vNil))) (vuN 15) vBYes (vOp gEq (vOp gIx (vV 3) (vV 15)) (vOp gIx (vV 3) (vOp gAdd (vV 15) (vV 11))))) vNil))) (vIte (vCmp gNe (vX V__law_told (vCons (vC (.str "judge")) (vCons (vV 2) (vCons (vV 10) (vCons (vV 11) vNil))))) (vV 12)) (vRet (vC (.bl false))) vSkip)) vSkip))
def v_law_1 : VS := vSet 0 2 (vXd V__law_takes (vCons (vC (.int 10)) vNil))
def v_law_2 : VS := vSet 0 3 (vX V__law_row (vCons (vV 2) (vCons (vC (.int 400)) vNil)))
def v_law_3 : VS := vSet 0 4 (vDraw (vC (.int 401)))
def v_law_4 : VS := vIte (vCmp gNe (vX V__law_told (vCons (vC (.str "row")) (vCons (vV 2) (vCons (vV 4) (vCons (vC (.int 0)) vNil))))) (vCB gTuple (vCons (vSl (vV 3) vONo (vOSo (vV 4))) vNil))) (vRet (vC (.bl false))) vSkip
def v_law_5 : VS := vUnp 0 (vuT2 5 6) (vX V__law_told (vCons (vC (.str "period")) (vCons (vV 2) (vCons (vC (.int 0)) (vCons (vC (.int 0)) vNil)))))
def v_law_6 : VS := vSet 0 7 (vC (.int 380))
def v_law_7 : VS := vIte (vTru (vCB gAny (vCons (vLC [15] (vIRg2 (vCons (vV 5) (vCons (vOp gSub (vV 7) (vV 6)) vNil))) (vuN 15) vBYes (vOp gNe (vOp gIx (vV 3) (vV 15)) (vOp gIx (vV 3) (vOp gAdd (vV 15) (vV 6))))) vNil))) (vRet (vC (.bl false))) vSkip
def v_law_8 : VS := vIte (vBAnd (vCmp gGt (vV 5) (vC (.int 0))) (vCmp gEq (vOp gIx (vV 3) (vOp gSub (vV 5) (vC (.int 1)))) (vOp gIx (vV 3) (vOp gAdd (vOp gSub (vV 5) (vC (.int 1))) (vV 6))))) (vRet (vC (.bl false))) vSkip
def v_law_9 : VS := vFor (vIRg2 (vCons (vC (.int 1)) (vCons (vV 6) vNil))) (vuN 8) v_law_b1
def v_law_10 : VS := vFor (vIRg1 (vCons (vC (.int 3)) vNil)) (vuN 9) v_law_b2
def v_law_11 : VS := vIte (vCmp (gIs true) (vX V__law_told (vCons (vC (.str "judge")) (vCons (vV 2) (vCons (vV 5) (vCons (vV 6) vNil))))) (vC (.bl true))) (vRet (vC (.bl false))) vSkip
def v_law_12 : VS := vSet 0 13 (vXd V__law_takes (vCons (vC (.int 40)) vNil))
def v_law_13 : VS := vIte (vBOr (vCmp gNe (vX V__law_told (vCons (vC (.str "row")) (vCons (vV 13) (vCons (vC (.int 80)) (vCons (vC (.int 0)) vNil))))) (vCB gTuple (vCons (vX V__law_row (vCons (vV 13) (vCons (vC (.int 80)) vNil))) vNil))) (vBAnd (vCmp gGt (vOp gIx (vV 13) (vUn gNeg (vC (.int 1)))) (vC (.int 10))) (vCmp gNe (vX V__law_told (vCons (vC (.str "period")) (vCons (vV 13) (vCons (vC (.int 0)) (vCons (vC (.int 0)) vNil))))) (vC (.str "takes"))))) (vRet (vC (.bl false))) vSkip
def v_law_14 : VS := vSet 0 14 (vLst (vCons (vTup vNil) (vCons (vTup (vCons (vC (.int 0)) (vCons (vC (.int 1)) vNil))) (vCons (vTup (vCons (vC (.int 2)) (vCons (vC (.int 1)) vNil))) (vCons (vTup (vCons (vC (.int 1)) (vCons (vC (.int 1)) vNil))) (vCons (vTup (vCons (vC (.int 41)) vNil)) vNil))))))
def v_law_15 : VS := vIte (vBOr (vTru (vCB gAny (vCons (vLC [16] (vISeq (vV 14)) (vuN 16) vBYes (vOp gNe (vX V__law_told (vCons (vC (.str "row")) (vCons (vV 16) (vCons (vC (.int 5)) (vCons (vC (.int 0)) vNil))))) (vC (.str "takes")))) vNil))) (vBOr (vCmp gNe (vX V__law_told (vCons (vC (.str "row")) (vCons (vV 2) (vCons (vC (.int 401)) (vCons (vC (.int 0)) vNil))))) (vC (.str "many"))) (vCmp gNe (vX V__law_told (vCons (vC (.str "row")) (vCons (vV 2) (vCons (vOp gSub (vC (.int 0)) (vC (.int 1))) (vCons (vC (.int 0)) vNil))))) (vC (.str "many"))))) (vRet (vC (.bl false))) vSkip
def v_law_16 : VS := vRet (vOp gEq (vLst (vCons (vX V__law_told (vCons (vC (.str "judge")) (vCons (vV 2) (vCons (vOp gSub (vC (.int 0)) (vC (.int 1))) (vCons (vC (.int 1)) vNil))))) (vCons (vX V__law_told (vCons (vC (.str "judge")) (vCons (vV 2) (vCons (vC (.int 0)) (vCons (vC (.int 0)) vNil))))) (vCons (vX V__law_told (vCons (vC (.str "judge")) (vCons (vV 2) (vCons (vC (.int 200)) (vCons (vC (.int 200)) vNil))))) vNil)))) (vOp gMul (vLst (vCons (vC (.str "period")) vNil)) (vC (.int 3))))
def v_law : VS := vSeq v_law_1 (vSeq v_law_2 (vSeq v_law_3 (vSeq v_law_4 (vSeq v_law_5 (vSeq v_law_6 (vSeq v_law_7 (vSeq v_law_8 (vSeq v_law_9 (vSeq v_law_10 (vSeq v_law_11 (vSeq v_law_12 (vSeq v_law_13 (vSeq v_law_14 (vSeq v_law_15 v_law_16))))))))))))))
theorem law_of (hv : ∀ w, ∃ w', v_law (List.replicate 17 none) w = .rt (.bl true) w') (ns : List Int) (_ : ns.length ≤ 63) : ∃ s, T_law [.obj 0] [.fls (ns.map .int)] = .ok (.bl true) s :=
  law_fin (n := 17) (vrest := v_law) (O' := []) ((ss_seq (ss_set (se_xd sv__law_takes (sa_cons (se_int 10) sa_nil)) 2 0 (O' := []) (by rfl)) (ss_seq (ss_set (se_x sv__law_row (sa_cons (se_v 2) (sa_cons (se_int 400) sa_nil))) 3 0 (O' := []) (by rfl)) (ss_seq (ss_set (se_take (se_int 401)) 4 0 (O' := [4]) (by rfl)) (ss_seq (ss_if (O' := [4]) (sb_cmp ok_ne (se_x sv__law_told (sa_cons (se_str "row") (sa_cons (se_v 2) (sa_cons (se_v 4) (sa_cons (se_int 0) sa_nil))))) (se_gc (se_cb ok_tuple (sa_cons (se_sl (se_v 3) so_no (so_so (se_v 4))) sa_nil)))) (ss_ret (se_bl false)) ss_skip) (ss_seq (ss_un (ud_t2 5 6) (se_x sv__law_told (sa_cons (se_str "period") (sa_cons (se_v 2) (sa_cons (se_int 0) (sa_cons (se_int 0) sa_nil))))) 0 (O' := [4]) (by rfl) (by decide) (by rfl) (len_t2 5 6)) (ss_seq (ss_set (se_int 380) 7 0 (O' := [4, 7]) (by rfl)) (ss_seq (ss_if (O' := [4, 7]) (sb_tru (se_gc (se_cb ok_any (sa_cons (se_lc (si_rg2 (sa_cons (se_v 5) (sa_cons (se_op ok_sub (se_v 7) (se_v 6)) sa_nil))) (ud_n 15) sb_yes (se_op ok_ne (se_op ok_ix (se_v 3) (se_v 15)) (se_op ok_ix (se_v 3) (se_op ok_add (se_v 15) (se_v 6)))) (by rfl) (by rfl)) sa_nil)))) (ss_ret (se_bl false)) ss_skip) (ss_seq (ss_if (O' := [4, 7]) (sb_and (sb_cmp ok_gt (se_v 5) (se_int 0)) (sb_cmp ok_eq (se_op ok_ix (se_v 3) (se_op ok_sub (se_v 5) (se_int 1))) (se_op ok_ix (se_v 3) (se_op ok_add (se_op ok_sub (se_v 5) (se_int 1)) (se_v 6))))) (ss_ret (se_bl false)) ss_skip) (ss_seq (ss_for (OL' := [4, 7]) [4, 7] (si_rg2 (sa_cons (se_int 1) (sa_cons (se_v 6) sa_nil))) (ud_n 8) (ss_if (O' := [4, 7]) (sb_tru (se_gc (se_cb ok_all (sa_cons (se_lc (si_rg2 (sa_cons (se_v 5) (sa_cons (se_op ok_sub (se_v 7) (se_v 8)) sa_nil))) (ud_n 15) sb_yes (se_op ok_eq (se_op ok_ix (se_v 3) (se_v 15)) (se_op ok_ix (se_v 3) (se_op ok_add (se_v 15) (se_v 8)))) (by rfl) (by rfl)) sa_nil)))) (ss_ret (se_bl false)) ss_skip) (by rfl) (by rfl) (by rfl) (len_n 8)) (ss_seq (ss_for (OL' := [4, 7, 10, 11]) [4, 7] (si_rg1 (sa_cons (se_int 3) sa_nil)) (ud_n 9) (ss_seq (ss_set (se_gc (se_cb ok_max2 (sa_cons (se_int 0) (sa_cons (se_op ok_sub (se_op ok_add (se_v 5) (se_take (se_int 5))) (se_int 2)) sa_nil)))) 10 0 (O' := [4, 7, 10]) (by rfl)) (ss_seq (ss_set (se_gc (se_cb ok_max2 (sa_cons (se_int 1) (sa_cons (se_op ok_sub (se_op ok_add (se_v 6) (se_take (se_int 5))) (se_int 2)) sa_nil)))) 11 0 (O' := [4, 7, 10, 11]) (by rfl)) (ss_if (O' := [4, 7, 10, 11]) (sb_cmp ok_le (se_op ok_add (se_op ok_add (se_v 10) (se_v 11)) (se_op ok_ix (se_v 2) (se_un ok_neg (se_int 1)))) (se_int 400)) (ss_weak (O1 := [4, 7, 10, 11, 12]) (ss_seq (ss_set (se_gc (se_cb ok_all (sa_cons (se_lc (si_rg2 (sa_cons (se_v 10) (sa_cons (se_op ok_add (se_v 10) (se_op ok_ix (se_v 2) (se_un ok_neg (se_int 1)))) sa_nil))) (ud_n 15) sb_yes (se_op ok_eq (se_op ok_ix (se_v 3) (se_v 15)) (se_op ok_ix (se_v 3) (se_op ok_add (se_v 15) (se_v 11)))) (by rfl) (by rfl)) sa_nil))) 12 0 (O' := [4, 7, 10, 11, 12]) (by rfl)) (ss_if (O' := [4, 7, 10, 11, 12]) (sb_cmp ok_ne (se_x sv__law_told (sa_cons (se_str "judge") (sa_cons (se_v 2) (sa_cons (se_v 10) (sa_cons (se_v 11) sa_nil))))) (se_v 12)) (ss_ret (se_bl false)) ss_skip)) (by rfl)) ss_skip))) (by rfl) (by rfl) (by rfl) (len_n 9)) (ss_seq (ss_if (O' := [4, 7]) (sb_cmp (ok_is true) (se_x sv__law_told (sa_cons (se_str "judge") (sa_cons (se_v 2) (sa_cons (se_v 5) (sa_cons (se_v 6) sa_nil))))) (se_bl true)) (ss_ret (se_bl false)) ss_skip) (ss_seq (ss_set (se_xd sv__law_takes (sa_cons (se_int 40) sa_nil)) 13 0 (O' := [4, 7]) (by rfl)) (ss_seq (ss_if (O' := [4, 7]) (sb_or (sb_cmp ok_ne (se_x sv__law_told (sa_cons (se_str "row") (sa_cons (se_v 13) (sa_cons (se_int 80) (sa_cons (se_int 0) sa_nil))))) (se_gc (se_cb ok_tuple (sa_cons (se_x sv__law_row (sa_cons (se_v 13) (sa_cons (se_int 80) sa_nil))) sa_nil)))) (sb_and (sb_cmp ok_gt (se_op ok_ix (se_v 13) (se_un ok_neg (se_int 1))) (se_int 10)) (sb_cmp ok_ne (se_x sv__law_told (sa_cons (se_str "period") (sa_cons (se_v 13) (sa_cons (se_int 0) (sa_cons (se_int 0) sa_nil))))) (se_str "takes")))) (ss_ret (se_bl false)) ss_skip) (ss_seq (ss_set (se_lst (sa_cons (se_tup sa_nil) (sa_cons (se_tup (sa_cons (se_int 0) (sa_cons (se_int 1) sa_nil))) (sa_cons (se_tup (sa_cons (se_int 2) (sa_cons (se_int 1) sa_nil))) (sa_cons (se_tup (sa_cons (se_int 1) (sa_cons (se_int 1) sa_nil))) (sa_cons (se_tup (sa_cons (se_int 41) sa_nil)) sa_nil)))))) 14 0 (O' := [4, 7, 14]) (by rfl)) (ss_seq (ss_if (O' := [4, 7, 14]) (sb_or (sb_tru (se_gc (se_cb ok_any (sa_cons (se_lc (si_seq (se_v 14)) (ud_n 16) sb_yes (se_op ok_ne (se_x sv__law_told (sa_cons (se_str "row") (sa_cons (se_v 16) (sa_cons (se_int 5) (sa_cons (se_int 0) sa_nil))))) (se_str "takes")) (by rfl) (by rfl)) sa_nil)))) (sb_or (sb_cmp ok_ne (se_x sv__law_told (sa_cons (se_str "row") (sa_cons (se_v 2) (sa_cons (se_int 401) (sa_cons (se_int 0) sa_nil))))) (se_str "many")) (sb_cmp ok_ne (se_x sv__law_told (sa_cons (se_str "row") (sa_cons (se_v 2) (sa_cons (se_op ok_sub (se_int 0) (se_int 1)) (sa_cons (se_int 0) sa_nil))))) (se_str "many")))) (ss_ret (se_bl false)) ss_skip) (ss_ret (se_op ok_eq (se_lst (sa_cons (se_x sv__law_told (sa_cons (se_str "judge") (sa_cons (se_v 2) (sa_cons (se_op ok_sub (se_int 0) (se_int 1)) (sa_cons (se_int 1) sa_nil))))) (sa_cons (se_x sv__law_told (sa_cons (se_str "judge") (sa_cons (se_v 2) (sa_cons (se_int 0) (sa_cons (se_int 0) sa_nil))))) (sa_cons (se_x sv__law_told (sa_cons (se_str "judge") (sa_cons (se_v 2) (sa_cons (se_int 200) (sa_cons (se_int 200) sa_nil))))) sa_nil)))) (se_op ok_mul (se_lst (sa_cons (se_str "period") sa_nil)) (se_int 3)))))))))))))))))))) (by decide) hv ns
end K11
namespace K11
open PySem Gv
/-! a row of sizes as one number, a size an octal digit -/
def dg (N k : Nat) : Nat := N / 8 ^ k % 8
/-- the bits of what is met -/
def bits (N n : Nat) (takes : List Nat) : Nat := takes.foldl (fun b t => if Nat.ble t n then Nat.lor b (2 ^ dg N (n - t)) else b) 0
/-- the least bit that is missing -/
def low0 : Nat → Nat → Nat
  | 0, _ => 0
  | f + 1, b => if b % 2 = 0 then 0 else low0 f (b / 2) + 1
def mk (takes : List Nat) : Nat → Nat → Nat → Nat
  | 0, _, N => N
  | f + 1, n, N => mk takes f (n + 1) (N + low0 8 (bits N n takes) * 8 ^ n)
def rowN (takes : List Nat) : Nat := mk takes 400 0 0
/-- the first window that comes again -/
def key (N w s : Nat) : Nat := N / 8 ^ (s - w) % 8 ^ w
def rep (N w : Nat) : Nat → Nat → List (Nat × Nat) → Nat × Nat
  | 0, s, _ => (0, 0)
  | f + 1, s, seen => match seen.find? fun p => p.1 == key N w s with
    | some p => (p.2, s)
    | none => rep N w f (s + 1) ((key N w s, s) :: seen)
def back (N len : Nat) : Nat → Nat
  | 0 => 0
  | b + 1 => if dg N b = dg N (b + len) then back N len b else b + 1
def subs : List Nat → List (List Nat)
  | [] => [[]]
  | a :: as => subs as ++ (subs as).map (a :: ·)
def allT : List (List Nat) := (subs [1, 2, 3, 4, 5, 6, 7, 8, 9, 10]).filter fun t => Nat.ble 1 t.length && Nat.ble t.length 5
def lastT (t : List Nat) : Nat := t.getLast?.getD 0
/-- equal from a on, n of them, len apart -/
def same (N a len n : Nat) : Bool := N / 8 ^ a % 8 ^ n == N / 8 ^ (a + len) % 8 ^ n
def good (t : List Nat) : Bool :=
  let N := rowN t
  let w := lastT t
  let r := rep N w 400 w []
  let len := r.2 - r.1
  let bg := back N len r.1
  Nat.ble w r.1 && Nat.blt r.1 r.2 && Nat.ble r.2 390 && Nat.ble (bg + len + w) 380 && same N bg len (380 - len - bg) && (List.range len).all fun l => l == 0 || !same N bg l (380 - l - bg)
theorem t_few : allT.length = 637 := by decide +kernel
end K11
namespace K11
open PySem Gv
/-! the row of sizes, and the number that holds it -/
def metL (row : List Nat) (n : Nat) (takes : List Nat) : List Nat := (takes.filter fun t => Nat.ble t n).map fun t => row.getD (n - t) 0
def gr (takes : List Nat) : Nat → List Nat
  | 0 => []
  | n + 1 => gr takes n ++ [mex (metL (gr takes n) n takes)]
theorem gr_len (takes : List Nat) : ∀ n, (gr takes n).length = n
  | 0 => rfl
  | n + 1 => by rw [gr, List.length_append, gr_len takes n]; rfl
theorem low0_spec : ∀ f b, (∀ v, v < low0 f b → b.testBit v = true) ∧ (low0 f b < f → b.testBit (low0 f b) = false) ∧ low0 f b ≤ f
  | 0, b => ⟨fun v h => by simp [low0] at h, fun h => by simp [low0] at h, Nat.le_refl _⟩
  | f + 1, b => by
    obtain ⟨h1, h2, h3⟩ := low0_spec f (b / 2)
    unfold low0
    by_cases h : b % 2 = 0
    · rw [if_pos h]
      refine ⟨fun v hv => by omega, fun _ => ?_, by omega⟩
      rw [Nat.testBit_zero]
      simp; omega
    · rw [if_neg h]
      refine ⟨fun v hv => ?_, fun hv => ?_, by omega⟩
      · cases v with
        | zero => rw [Nat.testBit_zero]; simp; omega
        | succ v => rw [Nat.testBit_succ]; exact h1 v (by omega)
      · rw [Nat.testBit_succ]; exact h2 (by omega)
theorem bits_spec (N n v : Nat) : ∀ (takes : List Nat) (b : Nat), (takes.foldl (fun b t => if Nat.ble t n then Nat.lor b (2 ^ dg N (n - t)) else b) b).testBit v = (b.testBit v || takes.any fun t => Nat.ble t n && decide (dg N (n - t) = v))
  | [], b => by simp
  | t :: ts, b => by
    rw [List.foldl_cons, bits_spec N n v ts, List.any_cons]
    by_cases h : Nat.ble t n = true
    · rw [if_pos h, h, Bool.true_and]
      have : (Nat.lor b (2 ^ dg N (n - t))).testBit v = (b.testBit v || decide (dg N (n - t) = v)) := by
        show (b ||| 2 ^ dg N (n - t)).testBit v = _
        rw [Nat.testBit_or, Nat.testBit_two_pow]
      rw [this, Bool.or_assoc]
    · rw [if_neg h]
      have : Nat.ble t n = false := by cases e : Nat.ble t n with
      | false => rfl
      | true => exact absurd e h
      rw [this]
      simp
theorem low_mex {N n : Nat} {takes row : List Nat} (h1 : ∀ t ∈ takes, 1 ≤ t) (hl : takes.length ≤ 5) (hr : row = (List.range n).map (dg N)) : low0 8 (bits N n takes) = mex (metL row n takes) := by
  have hmem : ∀ v, v ∈ metL row n takes ↔ (bits N n takes).testBit v = true := fun v => by
    unfold bits
    rw [bits_spec]
    simp only [Nat.zero_testBit, Bool.false_or, List.any_eq_true, Bool.and_eq_true, decide_eq_true_eq, metL, List.mem_map, List.mem_filter]
    constructor
    · rintro ⟨t, ⟨ht, hn⟩, rfl⟩
      refine ⟨t, ht, hn, ?_⟩
      have := h1 t ht
      have := Nat.le_of_ble_eq_true hn
      subst hr
      rw [List.getD_eq_getElem?_getD, List.getElem?_map, List.getElem?_range (by omega)]
      rfl
    · rintro ⟨t, ht, hn, rfl⟩
      refine ⟨t, ⟨ht, hn⟩, ?_⟩
      have := h1 t ht
      have := Nat.le_of_ble_eq_true hn
      subst hr
      rw [List.getD_eq_getElem?_getD, List.getElem?_map, List.getElem?_range (by omega)]
      rfl
  obtain ⟨a, b, c⟩ := low0_spec 8 (bits N n takes)
  have hlen : (metL row n takes).length ≤ 5 := by
    unfold metL
    rw [List.length_map]
    exact Nat.le_trans (List.length_filter_le _ _) hl
  have hle := mex_le (metL row n takes)
  have hlt : low0 8 (bits N n takes) < 8 := by
    by_cases z : low0 8 (bits N n takes) < 8
    · exact z
    · exact absurd ((hmem _).mpr (a (mex (metL row n takes)) (by omega))) (mex_notin _)
  refine (mex_unique (fun h => ?_) fun m hm => (hmem m).mpr (a m hm)).symm
  have := (hmem _).mp h
  rw [b hlt] at this
  cases this
theorem dg_lo {N n v k : Nat} (hk : k < n) : dg (N + v * 8 ^ n) k = dg N k := by
  unfold dg
  have e : 8 ^ n = 8 ^ (n - k - 1) * 8 * 8 ^ k := by
    rw [← Nat.pow_succ, ← Nat.pow_add]
    congr 1
    omega
  rw [e, ← Nat.mul_assoc, Nat.add_mul_div_right _ _ (Nat.pow_pos (by decide)), ← Nat.mul_assoc, Nat.add_mul_mod_self_right]
theorem dg_at {N n v : Nat} (h : N < 8 ^ n) (hv : v < 8) : dg (N + v * 8 ^ n) n = v := by
  unfold dg
  rw [Nat.add_mul_div_right _ _ (Nat.pow_pos (by decide)), Nat.div_eq_of_lt h, Nat.zero_add, Nat.mod_eq_of_lt hv]
theorem mk_spec {takes : List Nat} (h1 : ∀ t ∈ takes, 1 ≤ t) (hl : takes.length ≤ 5) : ∀ (f n N : Nat), N < 8 ^ n → gr takes n = (List.range n).map (dg N) → gr takes (n + f) = (List.range (n + f)).map (dg (mk takes f n N))
  | 0, n, N, _, hg => hg
  | f + 1, n, N, hN, hg => by
    have hm := low_mex h1 hl hg
    have hle := mex_le (metL (gr takes n) n takes)
    have hlen : (metL (gr takes n) n takes).length ≤ 5 := by
      unfold metL
      rw [List.length_map]
      exact Nat.le_trans (List.length_filter_le _ _) hl
    have hv : low0 8 (bits N n takes) < 8 := by omega
    have hN2 : N + low0 8 (bits N n takes) * 8 ^ n < 8 ^ (n + 1) := by
      rw [Nat.pow_succ, Nat.mul_comm (8 ^ n) 8]
      have : low0 8 (bits N n takes) * 8 ^ n ≤ 7 * 8 ^ n := Nat.mul_le_mul_right _ (by omega)
      omega
    have hg2 : gr takes (n + 1) = (List.range (n + 1)).map (dg (N + low0 8 (bits N n takes) * 8 ^ n)) := by
      rw [gr, List.range_succ, List.map_append, List.map_singleton, dg_at hN hv, hm]
      congr 1
      rw [hg]
      refine List.map_congr_left fun k hk => ?_
      rw [← hg, dg_lo (List.mem_range.mp hk)]
    have := mk_spec h1 hl f (n + 1) _ hN2 hg2
    rw [show n + (f + 1) = n + 1 + f by omega]
    exact this
theorem gr_rowN {takes : List Nat} (h1 : ∀ t ∈ takes, 1 ≤ t) (hl : takes.length ≤ 5) : gr takes 400 = (List.range 400).map (dg (rowN takes)) := by
  have := mk_spec h1 hl 400 0 0 (by decide) rfl
  rwa [Nat.zero_add] at this
theorem gr_take (takes : List Nat) : ∀ m n, n ≤ m → (gr takes m).take n = gr takes n
  | 0, n, h => by rw [Nat.le_zero.mp h]; rfl
  | m + 1, n, h => by
    by_cases e : n = m + 1
    · subst e
      rw [List.take_of_length_le (by rw [gr_len]; exact Nat.le_refl _)]
    · rw [gr, List.take_append_of_le_length (by rw [gr_len]; omega), gr_take takes m n (by omega)]
end K11
namespace K11
open PySem Gv
/-! the takes -/
structure TK (t : List Nat) : Prop where
  inc : t.Pairwise (· < ·)
  ne : t ≠ []
  lo : ∀ x ∈ t, 1 ≤ x
  hi : ∀ x ∈ t, x ≤ 40
theorem TK.len {t : List Nat} (h : TK t) : t.length ≤ 41 := nodup_len 41 t (h.inc.imp fun {a b} h => by omega) fun x hx => by have := h.hi x hx; omega
theorem okr {t : List Nat} : okC [rowV t] = true := okC_flat (by simp only [flatL, Bool.and_true]; exact flat_row _)
theorem okr2 {t : List Nat} {n : Nat} : okC [rowV t, nv n] = true := okC_flat (by simp only [flatL, Bool.and_true, Bool.and_eq_true]; exact ⟨flat_row _, rfl⟩)
theorem q_fn0 {n ar : Nat} {body : VS} {vs : List Vl} {w w' : Wo} {ve : VEnv} (hl : vs.length = ar) (h : body (vs.map some ++ List.replicate (n - ar) none) w = .nx ve w') : vFn n ar body vs w = .ok .non w' := by
  unfold vFn
  rw [if_pos hl, h]
  rfl
theorem q_fl {a : VE} {ve : VEnv} {w w1 : Wo} {x : Vl} (h : a ve w = .ok x w1) (hf : x.flat = true) : vFl a ve w = .ok x w1 := by unfold vFl; rw [h, VR.bind_ok, if_pos hf]
theorem check_V {t : List Nat} (h : TK t) : V_check_takes [rowV t] wZ = .ok .non wZ := by
  have hlen := h.len
  have hpos : 0 < t.length := List.length_pos_iff.mpr h.ne
  have a0 : v_check_takes_0 [some (rowV t), none, none] wZ = .nx [some (rowV t), none, none] wZ := by
    have hc : vLC [1] (vISeq (vV 0)) (vuN 1) vBYes (vNot (vChain gLe gLe (vC (.int 1)) (vV 1) (vC (.int 40)))) [some (rowV t), none, none] wZ = .ok (.lst (t.map fun _ => .bl false)) wZ := by
      refine q_lc (i_tup (xs := t.map nv) rfl) (vcompL_map nv (fun _ => .bl false) t fun x hx => ?_) (by rw [List.length_map]; omega)
      refine ⟨_, rfl, rfl, q_nt (k := true) (q_chain (x := .int 1) (y := nv x) (z := .int 40) rfl rfl ?_ rfl ?_)⟩
      · rw [show (Vl.int 1) = nv 1 from rfl, gLe_nv, decide_eq_true (h.lo x hx)]
      · rw [show (Vl.int 40) = nv 40 from rfl, gLe_nv, decide_eq_true (h.hi x hx)]
    refine q_if0 (q_or0 (q_cmp (x := nv t.length) (y := nv 0) (q_cb (q_cons rfl q_nil) (gLen_row _)) rfl (by rw [gEq_nv, decide_eq_false (by omega)])) (q_tru (k := false) (q_cb (q_cons hc q_nil) (gAny_map (fun _ => false) _)) ?_)) rfl
    show some (List.any _ _) = _
    simp
  have a1 : v_check_takes_1 [some (rowV t), none, none] wZ = .nx [some (rowV t), none, none] wZ := by
    have hi : vIRg1 (vCons (vOp gSub (vCB gLen (vCons (vV 0) vNil)) (vC (.int 1))) vNil) [some (rowV t), none, none] wZ = .ok ((List.range (t.length - 1)).map nv) wZ :=
      i_rg1 (q_cons (x := nv (t.length - 1)) (q_op (q_cb (q_cons rfl q_nil) (gLen_row _)) rfl (gSub_nv (b := 1) hpos)) q_nil) (by omega)
    have hc : vLC [2] (vIRg1 (vCons (vOp gSub (vCB gLen (vCons (vV 0) vNil)) (vC (.int 1))) vNil)) (vuN 2) vBYes (vOp gGe (vOp gIx (vV 0) (vV 2)) (vOp gIx (vV 0) (vOp gAdd (vV 2) (vC (.int 1))))) [some (rowV t), none, none] wZ = .ok (.lst ((List.range (t.length - 1)).map fun _ => .bl false)) wZ := by
      refine q_lc hi (vcompL_map nv (fun _ => .bl false) (List.range (t.length - 1)) fun i hi => ?_) (by simp; omega)
      have hi' := List.mem_range.mp hi
      have e1 : t[i]? = some t[i] := List.getElem?_eq_getElem (by omega)
      have e2 : t[i + 1]? = some t[i + 1] := List.getElem?_eq_getElem (by omega)
      have hlt : t[i] < t[i + 1] := List.pairwise_iff_getElem.mp h.inc i (i + 1) (by omega) (by omega) (by omega)
      refine ⟨_, rfl, rfl, ?_⟩
      refine q_op (x := nv t[i]) (y := nv t[i + 1]) (q_op (x := rowV t) (y := nv i) rfl rfl (gIx_tup (natV_get e1))) (q_op (x := rowV t) (y := nv (i + 1)) rfl rfl (gIx_tup (natV_get e2))) ?_
      rw [gGe_nv, decide_eq_false (by omega)]
    refine q_if0 (q_tru (k := false) (q_cb (q_cons hc q_nil) (gAny_map (fun _ => false) _)) ?_) rfl
    show some (List.any _ _) = _
    simp
  exact q_fn0 rfl (q_nx a0 a1)
theorem chk_ex {t : List Nat} {ve : VEnv} {w : Wo} {i : Nat} (h : TK t) (v : ve[i]? = some (some (rowV t))) : vEx (vX V_check_takes (vCons (vV i) vNil)) ve w = .nx ve w :=
  q_ex (q_x (q_cons (q_vw v) q_nil) okr (check_V h))
/-! the rows -/
/-- [row[size - number] for number in takes if number <= size] -/
theorem met_V {own : List Nat} {a b r x : Nat} {t row : List Nat} {n : Nat} {ve : VEnv} {w : Wo} (h : TK t) (hn : row.length = n) (va : ve[a]? = some (some (rowV t)))
    (hu : ∀ z, ((wipeV ve own).set x (some (nv z)))[x]? = some (some (nv z)) ∧ ((wipeV ve own).set x (some (nv z)))[b]? = some (some (nv n)) ∧ ((wipeV ve own).set x (some (nv z)))[r]? = some (some (.lst (natV row)))) :
    vLC own (vISeq (vV a)) (vuN x) (vCmp gLe (vV x) (vV b)) (vFl (vOp gIx (vV r) (vOp gSub (vV b) (vV x)))) ve w = .ok (.lst (natV (metL row n t))) w := by
  have e : natV (metL row n t) = (t.filter fun z => Nat.ble z n).map fun z => nv (row.getD (n - z) 0) := by simp [natV, metL, Function.comp_def]
  rw [e]
  refine q_lc (i_tup (xs := t.map nv) (q_vw va)) (vcompL_filter nv (fun z => nv (row.getD (n - z) 0)) (fun z => Nat.ble z n) t fun z hz => ⟨_, rfl, ?_, fun hb => ?_⟩) (by rw [List.length_map]; have := h.len; omega)
  · refine q_cmp (q_vw (hu z).1) (q_vw (hu z).2.1) ?_
    rw [gLe_nv]
    have : decide (z ≤ n) = Nat.ble z n := by rw [Bool.eq_iff_iff, decide_eq_true_iff, Nat.ble_eq]
    rw [this]
  · have hzn := Nat.le_of_ble_eq_true hb
    have := h.lo z hz
    refine q_fl (q_op (x := .lst (natV row)) (y := nv (n - z)) (q_vw (hu z).2.2) (q_op (x := nv n) (y := nv z) (q_vw (hu z).2.1) (q_vw (hu z).1) (gSub_nv hzn)) (gIx_lst (natV_get ?_))) rfl
    rw [List.getD_eq_getElem?_getD, List.getElem?_eq_getElem (by omega)]
    rfl
theorem metL_len {t row : List Nat} {n : Nat} (h : TK t) : (metL row n t).length ≤ 41 := by
  unfold metL
  rw [List.length_map]
  exact Nat.le_trans (List.length_filter_le _ _) h.len
theorem row_V {t : List Nat} {m : Nat} (h : TK t) (hm : m ≤ 400) : V_taking_row [rowV t, nv m] wZ = .ok (rowV (gr t m)) wZ := by
  obtain ⟨ve', e, o, o', hv⟩ := vForL_rg (u := vuN 3) (body := v_taking_row_b1) (w := wZ) (ve := [some (rowV t), some (nv m), some (.lst (natV (gr t 0))), none, none]) m (fun n ve => ∃ o o', ve = [some (rowV t), some (nv m), some (.lst (natV (gr t n))), o, o']) ⟨_, _, rfl⟩ (by
    rintro n ve hn ⟨o, o', rfl⟩
    refine ⟨_, _, rfl, (q_app (xs := natV (gr t n)) (x := nv (mex (metL (gr t n) n t))) rfl (q_x (q_cons (met_V (n := n) h (gr_len t n) rfl (fun _ => ⟨rfl, rfl, rfl⟩)) q_nil) (okC_lst (flatL_nat _)) (mex_v (by have := metL_len (row := gr t n) (n := n) h; omega) wZ)) (by rw [natV_len, gr_len]; omega) rfl), some (nv n), o', ?_⟩
    rw [gr, natV_app]
    rfl)
  subst hv
  have hb : vBChain gLe gLe (vC (.int 0)) (vV 1) (vC (.int 400)) [some (rowV t), some (nv m), none, none, none] wZ = .ok true wZ := by
    have h1 : gLe (.int 0) (nv m) = some (.bl true) := by rw [show (Vl.int 0) = nv 0 from rfl, gLe_nv]; simp
    have h2 : gLe (nv m) (.int 400) = some (.bl true) := by rw [show (Vl.int 400) = nv 400 from rfl, gLe_nv, decide_eq_true hm]
    exact q_bchain (x := .int 0) (y := nv m) (z := .int 400) rfl rfl h1 rfl h2
  exact q_fn rfl (q_nx (chk_ex h rfl) (q_nx (q_if0 (q_not hb) rfl) (q_nx (q_set (x := .lst []) rfl rfl) (q_nx (q_for (i_rg1 (n := m) (q_cons (x := nv m) rfl q_nil) (by omega)) e) (q_ret (q_cb (vs := [.lst (natV (gr t m))]) (q_cons rfl q_nil) rfl)))))) (okC_flat (by simp only [flatL, Bool.and_true]; exact flat_row _))
/-- the law's way to the least that is missing -/
theorem lmex {xs : List Nat} {S : Nat → Option Vl → VEnv} {w : Wo} (hu : ∀ v o k, (S v o).set 6 (some (nv k)) = S v (some (nv k))) (h4 : ∀ v o, (S v o)[4]? = some (some (.lst (natV xs)))) (h5 : ∀ v o, (S v o)[5]? = some (some (nv v))) (hs : ∀ v o, (S v o).set 5 (some (nv (v + 1))) = S (v + 1) o) (o : Option Vl) (hl6 : ∀ v o, 6 < (S v o).length) :
    ∃ o', vForL (vuN 6) v__law_row_b1 ((List.range (xs.length + 1)).map nv) (S 0 o) w = .nx (S (mex xs) o') w := by
  obtain ⟨ve', e, v, o', hv, hlt, hle⟩ := vForL_rg (u := vuN 6) (body := v__law_row_b1) (w := w) (ve := S 0 o) (xs.length + 1) (fun k ve => ∃ v o, ve = S v o ∧ (∀ m, m < v → m ∈ xs) ∧ (v = mex xs ∨ v = k)) ⟨0, o, rfl, fun m hm => by omega, .inr rfl⟩ (by
    rintro k ve hk ⟨v, o, rfl, hlt, hle⟩
    have hc : vCmp (gIn false) (vV 5) (vV 4) (S v (some (nv k))) w = .ok (xs.contains v) w := q_cmp (q_vw (h5 _ _)) (q_vw (h4 _ _)) (gIn_lst false v xs)
    have hu' : vuN 6 (nv k) (S v o) = some (S v (some (nv k))) := by
      show some ((S v o).set 6 (some (nv k))) = _
      rw [hu]
    by_cases hm : v ∈ xs
    · rw [show xs.contains v = true by simpa using hm] at hc
      refine ⟨_, _, hu', q_if1 hc (q_set (x := nv (v + 1)) (q_op (q_vw (h5 _ _)) rfl (gAdd_nv v 1)) rfl), v + 1, some (nv k), hs _ _, fun m h => ?_, ?_⟩
      · by_cases z : m = v
        · rw [z]; exact hm
        · exact hlt m (by omega)
      · rcases hle with z | z
        · exact absurd (z ▸ hm) (mex_notin xs)
        · exact .inr (by omega)
    · rw [show xs.contains v = false by simpa using hm] at hc
      exact ⟨_, _, hu', q_if0 hc rfl, v, some (nv k), rfl, hlt, .inl (mex_unique hm hlt).symm⟩)
  subst hv
  have hm : v = mex xs := by
    rcases hle with z | z
    · exact z
    · have := range_len v xs hlt
      omega
  subst hm
  exact ⟨o', e⟩
def envQ (t : List Nat) (m : Nat) (row : List Nat) (n : Nat) (xs : List Nat) (v : Nat) (o6 o7 : Option Vl) : VEnv := [some (rowV t), some (nv m), some (.lst (natV row)), some (nv n), some (.lst (natV xs)), some (nv v), o6, o7]
theorem lb2 {t : List Nat} {m n : Nat} {o4 o5 o6 o7 : Option Vl} {w : Wo} (h : TK t) (hn : n < 400) : ∃ a b c d, v__law_row_b2 [some (rowV t), some (nv m), some (.lst (natV (gr t n))), some (nv n), o4, o5, o6, o7] w = .nx [some (rowV t), some (nv m), some (.lst (natV (gr t (n + 1)))), some (nv n), a, b, c, d] w := by
  have hml := metL_len (row := gr t n) (n := n) h
  obtain ⟨o', e⟩ := lmex (xs := metL (gr t n) n t) (S := fun v o => envQ t m (gr t n) n (metL (gr t n) n t) v o o7) (w := w) (fun _ _ _ => rfl) (fun _ _ => rfl) (fun _ _ => rfl) (fun _ _ => rfl) o6 (fun _ _ => by simp [envQ])
  refine ⟨some (.lst (natV (metL (gr t n) n t))), some (nv (mex (metL (gr t n) n t))), o', o7, ?_⟩
  have hi : vIRg1 (vCons (vOp gAdd (vCB gLen (vCons (vV 4) vNil)) (vC (.int 1))) vNil) (envQ t m (gr t n) n (metL (gr t n) n t) 0 o6 o7) w = .ok ((List.range ((metL (gr t n) n t).length + 1)).map nv) w := by
    refine i_rg1 (q_cons (x := nv ((metL (gr t n) n t).length + 1)) (q_op (x := nv (metL (gr t n) n t).length) (y := nv 1) (q_cb (vs := [.lst (natV (metL (gr t n) n t))]) (q_cons rfl q_nil) ?_) rfl (gAdd_nv _ _)) q_nil) (by omega)
    rw [gLen_lst, natV_len]
  refine q_nx (q_set (met_V (n := n) h (gr_len t n) rfl (fun _ => ⟨rfl, rfl, rfl⟩)) rfl) (q_nx (q_set (x := nv 0) rfl rfl) (q_nx (q_for hi e) ?_))
  refine Eq.trans (q_app (xs := natV (gr t n)) (x := nv (mex (metL (gr t n) n t))) rfl rfl (by rw [natV_len, gr_len]; omega) rfl) ?_
  rw [gr, natV_app]
  rfl
theorem lrow_V {t : List Nat} {m : Nat} (h : TK t) (hm : m ≤ 400) : V__law_row [rowV t, nv m] wZ = .ok (.lst (natV (gr t m))) wZ := by
  obtain ⟨ve', e, o, a, b, c, d, hv⟩ := vForL_rg (u := vuN 3) (body := v__law_row_b2) (w := wZ) (ve := [some (rowV t), some (nv m), some (.lst (natV (gr t 0))), none, none, none, none, none]) m (fun n ve => ∃ o a b c d, ve = [some (rowV t), some (nv m), some (.lst (natV (gr t n))), o, a, b, c, d]) ⟨_, _, _, _, _, rfl⟩ (by
    rintro n ve hn ⟨o, a, b, c, d, rfl⟩
    obtain ⟨a', b', c', d', h'⟩ := lb2 (t := t) (m := m) (n := n) (o4 := a) (o5 := b) (o6 := c) (o7 := d) (w := wZ) h (by omega)
    exact ⟨_, _, rfl, h', _, _, _, _, _, rfl⟩)
  subst hv
  exact q_fn rfl (q_nx (q_set (x := .lst []) rfl rfl) (q_nx (q_for (i_rg1 (n := m) (q_cons (x := nv m) rfl q_nil) (by omega)) e) (q_ret rfl))) (okC_lst (flatL_nat _))
end K11
namespace K11
open PySem Gv L2
/-! windows -/
theorem dg_div (N a n : Nat) : N / 8 ^ a / 8 ^ n % 8 = dg N (a + n) := by unfold dg; rw [Nat.div_div_eq_div_mul, ← Nat.pow_add]
theorem win_iff (N a b : Nat) : ∀ n, N / 8 ^ a % 8 ^ n = N / 8 ^ b % 8 ^ n ↔ ∀ i, i < n → dg N (a + i) = dg N (b + i)
  | 0 => by simp [Nat.mod_one]
  | n + 1 => by
    have ih := win_iff N a b n
    rw [Nat.mod_pow_succ, Nat.mod_pow_succ, dg_div, dg_div]
    have l1 : N / 8 ^ a % 8 ^ n < 8 ^ n := Nat.mod_lt _ (Nat.pow_pos (by decide))
    have l2 : N / 8 ^ b % 8 ^ n < 8 ^ n := Nat.mod_lt _ (Nat.pow_pos (by decide))
    constructor
    · intro h
      have e1 : N / 8 ^ a % 8 ^ n = N / 8 ^ b % 8 ^ n := by
        have := congrArg (· % 8 ^ n) h
        simpa [Nat.add_mul_mod_self_left, Nat.mod_eq_of_lt l1, Nat.mod_eq_of_lt l2] using this
      have e2 : dg N (a + n) = dg N (b + n) := by
        rw [e1] at h
        exact Nat.eq_of_mul_eq_mul_left (Nat.pow_pos (by decide)) (Nat.add_left_cancel h)
      intro i hi
      by_cases z : i = n
      · rw [z]; exact e2
      · exact ih.mp e1 i (by omega)
    · intro h
      rw [ih.mpr fun i hi => h i (by omega), h n (by omega)]
/-- the last w sizes of s -/
def keyL (N w s : Nat) : List Nat := ((List.range s).map (dg N)).drop (s - w)
theorem keyL_eq {N w a b : Nat} (ha : w ≤ a) (hb : w ≤ b) : keyL N w a = keyL N w b ↔ key N w a = key N w b := by
  unfold key
  rw [win_iff]
  have hl : ∀ s, w ≤ s → (keyL N w s).length = w := fun s h => by simp [keyL]; omega
  have hg : ∀ s i, w ≤ s → i < w → (keyL N w s)[i]? = some (dg N (s - w + i)) := fun s i h hi => by
    unfold keyL
    rw [List.getElem?_drop, List.getElem?_map, List.getElem?_range (by omega)]
    rfl
  constructor
  · intro h i hi
    have := hg a i ha hi
    rw [h, hg b i hb hi] at this
    exact (Option.some.inj this).symm
  · intro h
    apply List.ext_getElem?
    intro i
    by_cases hi : i < w
    · rw [hg a i ha hi, hg b i hb hi, h i hi]
    · rw [List.getElem?_eq_none (by rw [hl a ha]; omega), List.getElem?_eq_none (by rw [hl b hb]; omega)]
/-- all windows before s differ -/
def Dif (N w s : Nat) : Prop := ∀ a b, w ≤ a → a < b → b < s → key N w a ≠ key N w b
theorem rep_spec {N w : Nat} (hw : 0 < w) : ∀ (f s : Nat) (seen : List (Nat × Nat)), w ≤ s → Dif N w s → (∀ a, w ≤ a → a < s → (key N w a, a) ∈ seen) → (∀ p ∈ seen, w ≤ p.2 ∧ p.2 < s ∧ p.1 = key N w p.2) →
    w ≤ (rep N w f s seen).1 → (rep N w f s seen).1 < (rep N w f s seen).2 ∧ key N w (rep N w f s seen).1 = key N w (rep N w f s seen).2 ∧ Dif N w (rep N w f s seen).2
  | 0, s, seen, _, _, _, _, h => by simp only [rep] at h; omega
  | f + 1, s, seen, hs, hd, h1, h2, h => by
    unfold rep at h ⊢
    cases e : seen.find? fun p => p.1 == key N w s with
    | some p =>
      rw [e] at h
      dsimp only at h ⊢
      have hp := h2 p (List.mem_of_find?_eq_some e)
      have he : p.1 = key N w s := by simpa using List.find?_some e
      exact ⟨hp.2.1, by rw [← hp.2.2, he], hd⟩
    | none =>
      rw [e] at h
      dsimp only at h ⊢
      have hno := List.find?_eq_none.mp e
      refine rep_spec hw f (s + 1) _ (by omega) ?_ ?_ ?_ h
      · intro a b ha hab hb
        by_cases z : b = s
        · subst z
          intro he
          exact hno _ (h1 a ha hab) (by simpa using he)
        · exact hd a b ha hab (by omega)
      · intro a ha hab
        by_cases z : a = s
        · subst z; exact List.mem_cons_self
        · exact List.mem_cons_of_mem _ (h1 a ha (by omega))
      · intro p hp
        rcases List.mem_cons.mp hp with rfl | hp
        · exact ⟨hs, by simp, rfl⟩
        · have := h2 p hp
          exact ⟨this.1, by omega, this.2.2⟩
/-! the period, found -/
/-- what the table says of the takes -/
structure PD (t : List Nat) (w s0 s1 : Nat) : Prop where
  last : t.getLast? = some w
  w10 : w ≤ 10
  pos : 0 < w
  lo : w ≤ s0
  lt : s0 < s1
  hi : s1 ≤ 390
  eq : keyL (rowN t) w s0 = keyL (rowN t) w s1
  dif : ∀ a b, w ≤ a → a < b → b < s1 → keyL (rowN t) w a ≠ keyL (rowN t) w b
  row : gr t 400 = (List.range 400).map (dg (rowN t))
theorem PD.gr {t : List Nat} {w s0 s1 : Nat} (p : PD t w s0 s1) {n : Nat} (h : n ≤ 400) : gr t n = (List.range n).map (dg (rowN t)) := by
  rw [← gr_take t 400 n h, p.row, ← List.map_take, List.take_range, Nat.min_eq_left h]
theorem ok3 {xs : List Vl} {a b : Nat} (h : flatL xs = true) : okC [.lst xs, nv a, nv b] = true := by
  rw [okC, Bool.or_eq_true]
  right
  simp [cntL, cntV, cntL_flat h, nv]
def mem3 : True := trivial
theorem short_V {N len b n : Nat} (hb : b + len ≤ n) (hn : n ≤ 400) (hl : 0 < len) : V__shortened [.lst (natV ((List.range n).map (dg N))), nv b, nv len] wZ = .ok (.tup [nv (back N len b), nv len]) wZ := by
  have hw : v__shortened_0 [some (.lst (natV ((List.range n).map (dg N)))), some (nv b), some (nv len)] wZ = .nx [some (.lst (natV ((List.range n).map (dg N)))), some (nv (back N len b)), some (nv len)] wZ := by
    refine vWhile_rule (fun m ve w' => ∃ c, c ≤ b ∧ m = c ∧ back N len c = back N len b ∧ ve = [some (.lst (natV ((List.range n).map (dg N)))), some (nv c), some (nv len)] ∧ w' = wZ) (fun r => r = .nx [some (.lst (natV ((List.range n).map (dg N)))), some (nv (back N len b)), some (nv len)] wZ) b (by omega) ⟨b, Nat.le_refl _, rfl, rfl, rfl, rfl⟩ ?_
    rintro m ve w' ⟨c, hc, rfl, hk, rfl, rfl⟩
    have h0 : vCmp gGt (vV 1) (vC (.int 0)) [some (.lst (natV ((List.range n).map (dg N)))), some (nv m), some (nv len)] wZ = .ok (decide (0 < m)) wZ := q_cmp (x := nv m) (y := nv 0) rfl rfl (gGt_nv _ _)
    cases m with
    | zero => exact ⟨false, wZ, q_and0 h0, fun _ => by rw [← hk]; rfl, fun h => nomatch h⟩
    | succ c =>
      rw [decide_eq_true (by omega)] at h0
      have hat : ∀ i, i < n → ((List.range n).map (dg N))[i]? = some (dg N i) := fun i hi => by rw [List.getElem?_map, List.getElem?_range hi]; rfl
      have hs : vOp gSub (vV 1) (vC (.int 1)) [some (.lst (natV ((List.range n).map (dg N)))), some (nv (c + 1)), some (nv len)] wZ = .ok (nv c) wZ := q_op (x := nv (c + 1)) (y := nv 1) rfl rfl (gSub_nv (b := 1) (by omega))
      have h1 : vCmp gEq (vOp gIx (vV 0) (vOp gSub (vV 1) (vC (.int 1)))) (vOp gIx (vV 0) (vOp gAdd (vOp gSub (vV 1) (vC (.int 1))) (vV 2))) [some (.lst (natV ((List.range n).map (dg N)))), some (nv (c + 1)), some (nv len)] wZ = .ok (decide (dg N c = dg N (c + len))) wZ :=
        q_cmp (q_op (x := .lst (natV ((List.range n).map (dg N)))) (y := nv c) rfl hs (gIx_lst (natV_get (hat c (by omega))))) (q_op (x := .lst (natV ((List.range n).map (dg N)))) (y := nv (c + len)) rfl (q_op (x := nv c) (y := nv len) hs rfl (gAdd_nv _ _)) (gIx_lst (natV_get (hat (c + len) (by omega))))) (gEq_nv _ _)
      refine ⟨_, wZ, q_and1 h0 h1, fun hd => ?_, fun hd => ?_⟩
      · have := of_decide_eq_false hd
        rw [← hk, back, if_neg this]
      · have hd' := of_decide_eq_true hd
        exact ⟨_, q_set (x := nv c) hs rfl, c, by omega, c, by omega, rfl, by rw [← hk, back, if_pos hd'], rfl, rfl⟩
  exact q_fn rfl (q_nx hw (q_ret (q_tupA (q_cons (x := nv (back N len b)) rfl (q_cons (x := nv len) rfl q_nil)) (by simp)))) rfl
end K11
namespace K11
open PySem Gv L2
theorem cut_from {α : Type} (xs : List α) (k : Nat) (h : k ≤ xs.length) : cutD xs (some (k : Int)) none = xs.drop k := by
  have h1 : HT.sIx xs.length 0 (some (k : Int)) = k := by
    unfold HT.sIx
    simp only [Int.toNat_natCast]
    rw [if_neg (by omega), Nat.min_eq_left h]
  have h2 : HT.sIx xs.length xs.length none = xs.length := rfl
  unfold cutD
  rw [h1, h2, List.take_of_length_le (by rw [List.length_drop]; omega)]
theorem cut_to {α : Type} (xs : List α) (k : Nat) (h : k ≤ xs.length) : cutD xs none (some (k : Int)) = xs.take k := by
  have h1 : HT.sIx xs.length xs.length (some (k : Int)) = k := by
    unfold HT.sIx
    simp only [Int.toNat_natCast]
    rw [if_neg (by omega), Nat.min_eq_left h]
  have h2 : HT.sIx xs.length 0 none = 0 := rfl
  unfold cutD
  rw [h1, h2]
  simp
section
variable {t : List Nat} {w s0 s1 : Nat}
def envT (t : List Nat) (w : Nat) (s : Nat) (kvs : List (List Key × Vl)) (o4 o5 o6 : Option Vl) : VEnv := [some (rowV t), some (.lst (natV (gr t s))), some (.dT kvs), some (nv w), o4, o5, o6]
/-- what is seen -/
def Seen (t : List Nat) (w s : Nat) (kvs : List (List Key × Vl)) : Prop :=
  (∀ a, w ≤ a → a < s → Gv.valV kvs (kyN (keyL (rowN t) w a)) = some (nv a)) ∧ (∀ x v, Gv.valV kvs (kyN x) = some v → ∃ a, w ≤ a ∧ a < s ∧ x = keyL (rowN t) w a) ∧ kvs.length ≤ s
theorem app_ok {s : Nat} {kvs : List (List Key × Vl)} {o5 o6 : Option Vl} {w' : Wo} (h : TK t) (hs : s < 400) : ∃ o, vApp 0 1 (vX V_least_missing (vCons (vLC [6] (vISeq (vV 0)) (vuN 6) (vCmp gLe (vV 6) (vV 4)) (vFl (vOp gIx (vV 1) (vOp gSub (vV 4) (vV 6))))) vNil)) (envT t w s kvs (some (nv s)) o5 o6) w' = .nx (envT t w (s + 1) kvs (some (nv s)) o5 o) w' := by
  have hml := metL_len (row := gr t s) (n := s) h
  refine ⟨o6, ?_⟩
  refine Eq.trans (q_app (xs := natV (gr t s)) (x := nv (mex (metL (gr t s) s t))) rfl (q_x (q_cons (met_V (n := s) h (gr_len t s) rfl (fun _ => ⟨rfl, rfl, rfl⟩)) q_nil) (okC_lst (flatL_nat _)) (mex_v (by omega) wZ)) (by rw [natV_len, gr_len]; omega) rfl) ?_
  simp only [envT, gr, natV_app]
  rfl
theorem period_V (h : TK t) (p : PD t w s0 s1) : V_taking_period [rowV t] wZ = .ok (.tup [nv (back (rowN t) (s1 - s0) s0), nv (s1 - s0)]) wZ := by
  have hlo := p.lo; have hlt := p.lt; have hhi := p.hi; have hw10 := p.w10; have hpos := p.pos
  have hw : ∀ ve : VEnv, ve[0]? = some (some (rowV t)) → ∀ w', vOp gIx (vV 0) (vUn gNeg (vC (.int 1))) ve w' = .ok (nv w) w' := fun ve hv w' => q_op (x := rowV t) (y := .int (-1)) (q_vw hv) rfl (gIx_rowL p.last)
  have c1 : v_taking_period_1 [some (rowV t), none, none, none, none, none, none] wZ = .nx [some (rowV t), none, none, none, none, none, none] wZ := by
    refine q_if0 (q_cmp (x := nv w) (y := .int 10) (hw _ rfl wZ) rfl ?_) rfl
    rw [show (Vl.int 10) = nv 10 from rfl, gGt_nv, decide_eq_false (by omega)]
  have loop : v_taking_period_5 (envT t w 0 [] none none none) wZ = .rt (.tup [nv (back (rowN t) (s1 - s0) s0), nv (s1 - s0)]) wZ := by
    refine vWhile_rule (fun m ve w' => ∃ s kvs o4 o5 o6, s ≤ s1 ∧ m = s1 - s ∧ Seen t w s kvs ∧ ve = envT t w s kvs o4 o5 o6 ∧ w' = wZ) (fun r => r = .rt (.tup [nv (back (rowN t) (s1 - s0) s0), nv (s1 - s0)]) wZ) s1 (by omega) ⟨0, [], none, none, none, Nat.zero_le _, rfl, ⟨fun a _ h => by omega, fun x v h => by simp [Gv.valV] at h, Nat.le_refl _⟩, rfl, rfl⟩ ?_
    rintro m ve w' ⟨s, kvs, o4, o5, o6, hs, rfl, hsn, rfl, rfl⟩
    refine ⟨true, wZ, rfl, (fun h => nomatch h), fun _ => ?_⟩
    have g4 : vSet 0 4 (vCB gLen (vCons (vV 1) vNil)) (envT t w s kvs o4 o5 o6) wZ = .nx (envT t w s kvs (some (nv s)) o5 o6) wZ := by
      refine q_set (x := nv s) (q_cb (vs := [.lst (natV (gr t s))]) (q_cons rfl q_nil) ?_) rfl
      rw [gLen_lst, natV_len, gr_len]
    have hge : vCmp gGe (vV 4) (vV 3) (envT t w s kvs (some (nv s)) o5 o6) wZ = .ok (decide (w ≤ s)) wZ := q_cmp (x := nv s) (y := nv w) rfl rfl (gGe_nv _ _)
    by_cases hws : w ≤ s
    · rw [decide_eq_true hws] at hge
      have g5 : vSet 2 5 (vCB gTuple (vCons (vSl (vV 1) (vOSo (vOp gSub (vV 4) (vV 3))) vONo) vNil)) (envT t w s kvs (some (nv s)) o5 o6) wZ = .nx (envT t w s kvs (some (nv s)) (some (rowV (keyL (rowN t) w s))) o6) wZ := by
        refine q_set (x := rowV (keyL (rowN t) w s)) (q_cb (vs := [.lst (natV (keyL (rowN t) w s))]) (q_cons ?_ q_nil) rfl) (flat_row _)
        have hsub : vOp gSub (vV 4) (vV 3) (envT t w s kvs (some (nv s)) o5 o6) wZ = .ok (nv (s - w)) wZ := q_op (x := nv s) (y := nv w) rfl rfl (gSub_nv hws)
        unfold vSl vOSo
        rw [q_vw (x := .lst (natV (gr t s))) rfl, VR.bind_ok, hsub, VR.bind_ok]
        show VR.ok (Vl.lst (cutD (natV (gr t s)) (some ((s - w : Nat) : Int)) none)) wZ = _
        rw [cut_from _ _ (by rw [natV_len, gr_len]; omega), p.gr (by omega)]
        unfold keyL natV
        rw [List.map_drop]
      have hin : vCmp (gIn false) (vV 5) (vV 2) (envT t w s kvs (some (nv s)) (some (rowV (keyL (rowN t) w s))) o6) wZ = .ok (Gv.valV kvs (kyN (keyL (rowN t) w s))).isSome wZ := q_cmp (x := rowV (keyL (rowN t) w s)) (y := .dT kvs) rfl rfl (gIn_dT false kvs _)
      by_cases he : s = s1
      · subst he
        have hv : Gv.valV kvs (kyN (keyL (rowN t) w s)) = some (nv s0) := by rw [← p.eq]; exact hsn.1 s0 hlo hlt
        rw [hv] at hin
        have hix : vFl (vOp gIx (vV 2) (vV 5)) (envT t w s kvs (some (nv s)) (some (rowV (keyL (rowN t) w s))) o6) wZ = .ok (nv s0) wZ := by
          unfold vFl
          rw [q_op (x := .dT kvs) (y := rowV (keyL (rowN t) w s)) rfl rfl (gIx_dT hv), VR.bind_ok]
          rfl
        have hret : vRet (vX V__shortened (vCons (vV 1) (vCons (vFl (vOp gIx (vV 2) (vV 5))) (vCons (vOp gSub (vV 4) (vFl (vOp gIx (vV 2) (vV 5)))) vNil)))) (envT t w s kvs (some (nv s)) (some (rowV (keyL (rowN t) w s))) o6) wZ = .rt (.tup [nv (back (rowN t) (s - s0) s0), nv (s - s0)]) wZ := by
          refine q_ret (q_x (q_cons (x := .lst (natV ((List.range s).map (dg (rowN t))))) ?_ (q_cons hix (q_cons (x := nv (s - s0)) (q_op (x := nv s) rfl hix (gSub_nv (by omega))) q_nil))) (ok3 (flatL_nat _)) (short_V (n := s) (by omega) (by omega) (by omega)))
          rw [← p.gr (by omega)]
          rfl
        exact ⟨_, q_nx g4 (q_rt (q_if1 hge (q_nx g5 (q_rt (q_if1 hin hret))))), rfl⟩
      · have hno : Gv.valV kvs (kyN (keyL (rowN t) w s)) = none := by
          cases e : Gv.valV kvs (kyN (keyL (rowN t) w s)) with
          | none => rfl
          | some v =>
            obtain ⟨a, ha, has, hk⟩ := hsn.2.1 _ v e
            exact absurd hk.symm (p.dif a s ha has (by omega))
        rw [hno] at hin
        have hst : vSub 0 2 (vV 5) (vV 4) (envT t w s kvs (some (nv s)) (some (rowV (keyL (rowN t) w s))) o6) wZ = .nx (envT t w s (putV kvs (kyN (keyL (rowN t) w s)) (nv s)) (some (nv s)) (some (rowV (keyL (rowN t) w s))) o6) wZ := q_sub (x := nv s) (k := rowV (keyL (rowN t) w s)) (o := .dT kvs) rfl rfl rfl rfl (set_dT (by have := hsn.2.2; omega))
        obtain ⟨o, hap⟩ := app_ok (t := t) (w := w) (s := s) (kvs := putV kvs (kyN (keyL (rowN t) w s)) (nv s)) (o5 := some (rowV (keyL (rowN t) w s))) (o6 := o6) (w' := wZ) h (by omega)
        refine ⟨_, q_nx g4 (q_nx (q_if1 hge (q_nx g5 (q_nx (q_if0 hin rfl) hst))) hap), s1 - (s + 1), by omega, s + 1, _, _, _, _, by omega, rfl, ⟨fun a ha has => ?_, fun x v hv => ?_, ?_⟩, rfl, rfl⟩
        · rw [Gv.valV_put]
          by_cases z : a = s
          · subst z; rw [if_pos rfl]
          · rw [if_neg fun e => p.dif a s ha (by omega) (by omega) (kyN_inj.mp e)]
            exact hsn.1 a ha (by omega)
        · rw [Gv.valV_put] at hv
          by_cases z : x = keyL (rowN t) w s
          · exact ⟨s, hws, by omega, z⟩
          · rw [if_neg fun e => z (kyN_inj.mp e)] at hv
            obtain ⟨a, ha, has, hk⟩ := hsn.2.1 x v hv
            exact ⟨a, ha, by omega, hk⟩
        · have := putV_len kvs (kyN (keyL (rowN t) w s)) (nv s)
          have := hsn.2.2
          omega
    · rw [decide_eq_false hws] at hge
      obtain ⟨o, hap⟩ := app_ok (t := t) (w := w) (s := s) (kvs := kvs) (o5 := o5) (o6 := o6) (w' := wZ) h (by omega)
      refine ⟨_, q_nx g4 (q_nx (q_if0 hge rfl) hap), s1 - (s + 1), by omega, s + 1, _, _, _, _, by omega, rfl, ⟨fun a ha has => by omega, fun x v hv => ?_, by have := hsn.2.2; omega⟩, rfl, rfl⟩
      obtain ⟨a, ha, has, hk⟩ := hsn.2.1 x v hv
      exact ⟨a, ha, by omega, hk⟩
  exact q_fn rfl (q_nx (chk_ex h rfl) (q_nx c1 (q_nx (q_set (x := .lst []) rfl rfl) (q_nx (q_set (x := .dT []) rfl rfl) (q_nx (q_set (hw _ rfl wZ) rfl) loop))))) rfl
end
end K11
namespace K11
open PySem Gv L2
/-! drawn takes -/
theorem sub_subs : ∀ {xs l : List Nat}, xs.Sublist l → xs ∈ subs l := fun h => by
  induction h with
  | slnil => exact List.mem_cons_self
  | cons a _ ih => exact List.mem_append_left _ ih
  | cons_cons a _ ih => exact List.mem_append_right _ (List.mem_map.mpr ⟨_, ih, rfl⟩)
theorem inc_sub : ∀ (n : Nat) (xs : List Nat), xs.Pairwise (· < ·) → (∀ x ∈ xs, 1 ≤ x) → (∀ x ∈ xs, x ≤ n) → xs.Sublist ((List.range n).map (· + 1))
  | 0, [], _, _, _ => .slnil
  | 0, x :: _, _, h1, h => absurd (h x List.mem_cons_self) (by have := h1 x List.mem_cons_self; omega)
  | n + 1, xs, h1, h0, h2 => by
    rw [List.range_succ, List.map_append]
    cases e : xs.getLast? with
    | none => rw [List.getLast?_eq_none_iff.mp e]; exact List.nil_sublist _
    | some l =>
      obtain ⟨ys, rfl⟩ := List.getLast?_eq_some_iff.mp e
      have hp := List.pairwise_append.mp h1
      have hl := h2 l (by simp)
      by_cases hn : l = n + 1
      · subst hn
        refine (inc_sub n ys hp.1 (fun x hx => h0 x (by simp [hx])) fun x hx => ?_).append (List.Sublist.refl _)
        have := hp.2.2 x hx (n + 1) (by simp)
        omega
      · refine (inc_sub n (ys ++ [l]) h1 h0 fun x hx => ?_).trans (List.sublist_append_left _ _)
        rcases List.mem_append.mp hx with hx | hx
        · have := hp.2.2 x hx l (by simp); omega
        · rw [List.mem_singleton.mp hx]; omega
theorem insU_len (x : Int) : ∀ ys, (insU x ys).length ≤ ys.length + 1
  | [] => by simp [insU]
  | y :: ys => by
    have := insU_len x ys
    unfold insU
    split
    · simp
    · split
      · simp
      · simp only [List.length_cons]; omega
theorem usort_len : ∀ xs : List Int, (usort xs).length ≤ xs.length
  | [] => Nat.le_refl _
  | x :: xs => by
    have h1 := insU_len x (usort xs)
    have h2 := usort_len xs
    simp only [usort, List.length_cons]
    omega
/-- sorted(set(..)) of numbers from 1 to n -/
theorem usort_nat {zs : List Nat} {n : Nat} (h0 : zs ≠ []) (h1 : ∀ z ∈ zs, 1 ≤ z) (h2 : ∀ z ∈ zs, z ≤ n) (hn : n ≤ 40) : ∃ t : List Nat, TK t ∧ t.length ≤ zs.length ∧ (∀ x ∈ t, x ≤ n) ∧ (usort (zs.map fun (z : Nat) => (z : Int))).map Vl.int = natV t := by
  let us := usort (zs.map fun (z : Nat) => (z : Int))
  have hm : ∀ u ∈ us, ∃ z ∈ zs, u = (z : Int) := fun u hu => by
    obtain ⟨z, hz, e⟩ := List.mem_map.mp ((usort_mem u _).mp hu)
    exact ⟨z, hz, e.symm⟩
  have hinc : us.Pairwise (· < ·) := usort_inc _
  refine ⟨us.map Int.toNat, ⟨?_, ?_, ?_, ?_⟩, ?_, ?_, ?_⟩
  · rw [List.pairwise_map]
    refine hinc.imp_of_mem fun {a b} ha hb h => ?_
    obtain ⟨x, _, rfl⟩ := hm a ha
    obtain ⟨y, _, rfl⟩ := hm b hb
    omega
  · intro e
    obtain ⟨z, r, rfl⟩ := List.exists_cons_of_ne_nil h0
    have : (z : Int) ∈ us := (usort_mem _ _).mpr (by simp)
    rw [List.map_eq_nil_iff.mp e] at this
    cases this
  · intro x hx
    obtain ⟨u, hu, rfl⟩ := List.mem_map.mp hx
    obtain ⟨z, hz, rfl⟩ := hm u hu
    exact h1 z hz
  · intro x hx
    obtain ⟨u, hu, rfl⟩ := List.mem_map.mp hx
    obtain ⟨z, hz, rfl⟩ := hm u hu
    have := h2 z hz
    simp; omega
  · have := usort_len (zs.map fun (z : Nat) => (z : Int))
    rw [List.length_map] at this ⊢
    exact this
  · intro x hx
    obtain ⟨u, hu, rfl⟩ := List.mem_map.mp hx
    obtain ⟨z, hz, rfl⟩ := hm u hu
    exact h2 z hz
  · unfold natV
    rw [List.map_map]
    refine List.map_congr_left fun u hu => ?_
    obtain ⟨z, hz, rfl⟩ := hm u hu
    rfl
theorem takes_V {n : Nat} (w : Wo) (hn : 0 < n) (hn2 : n ≤ 40) : ∃ t w', TK t ∧ t.length ≤ 5 ∧ (∀ x ∈ t, x ≤ n) ∧ V__law_takes [nv n] w = .ok (rowV t) w' := by
  obtain ⟨r, w1, e1, hr⟩ := q_draw (e := vC (.int 5)) (ve := [none, some (nv n), none]) (w := w) (w1 := w) (m := 5) rfl (by decide) (by decide)
  obtain ⟨bs, w2, e2, hl, hq⟩ := vcompL_any (u := vuN 2) (c := vBYes) (elt := vOp gAdd (vC (.int 1)) (vDraw (vV 1))) (ve := wipeV [none, some (nv n), none] [2]) (fun b => nv (1 + b)) (fun b => b < n) ((List.range (1 + r)).map nv) w1 (by
    intro x hx w
    obtain ⟨i, hi, rfl⟩ := List.mem_map.mp hx
    obtain ⟨b, w', e, hb⟩ := q_draw (e := vV 1) (ve := [none, some (nv n), some (nv i)]) (w := w) (w1 := w) (m := n) rfl hn (by omega)
    exact ⟨_, b, w', rfl, rfl, q_op (x := nv 1) (y := nv b) rfl e (gAdd_nv 1 b), hb⟩)
  rw [List.length_map, List.length_range] at hl
  obtain ⟨t, ht, htl, hth, hte⟩ := usort_nat (zs := bs.map (1 + ·)) (n := n) (fun e => by have := congrArg List.length e; simp at this; subst this; simp at hl; omega) (fun z hz => by obtain ⟨b, hb, rfl⟩ := List.mem_map.mp hz; omega) (fun z hz => by obtain ⟨b, hb, rfl⟩ := List.mem_map.mp hz; have := hq b hb; omega) hn2
  rw [List.length_map] at htl
  refine ⟨t, w2, ht, by omega, hth, q_fnD rfl (q_ret (q_cb (vs := [.lst (natV t)]) (q_cons (q_cb (vs := [.lst (natV (bs.map (1 + ·)))]) (q_cons (q_lc (i_rg1 (n := 1 + r) (q_cons (x := nv (1 + r)) (q_op (x := nv 1) (y := nv r) rfl e1 (gAdd_nv 1 r)) q_nil) (by omega)) ?_ (by rw [List.length_map, List.length_range]; omega)) q_nil) ?_) q_nil) rfl)) okr⟩
  · refine Eq.trans e2 ?_
    simp [natV, Function.comp_def]
  · show ((vints (natV (bs.map (1 + ·)))).bind _) = _
    rw [vints_nat, Option.bind_some, if_pos (by simp; omega), hte]
end K11
namespace K11
theorem chunks {α : Type} (p : α → Bool) (xs : List α) (m c : Nat) (hm : 0 < m) (hl : xs.length ≤ m * c) (h : ∀ k, k < c → ((xs.drop (m * k)).take m).all p = true) : xs.all p = true := by
  rw [List.all_eq_true]
  intro x hx
  obtain ⟨i, hi, rfl⟩ := List.mem_iff_getElem.mp hx
  have hk : i / m < c := Nat.div_lt_of_lt_mul (by omega)
  refine List.all_eq_true.mp (h (i / m) hk) _ ?_
  refine List.mem_of_getElem? (i := i % m) ?_
  rw [List.getElem?_take, if_pos (Nat.mod_lt _ hm), List.getElem?_drop, Nat.div_add_mod, List.getElem?_eq_getElem hi]
set_option maxHeartbeats 0 in
theorem t_g0 : ((allT.drop (40 * 0)).take 40).all good = true := by decide +kernel
set_option maxHeartbeats 0 in
theorem t_g1 : ((allT.drop (40 * 1)).take 40).all good = true := by decide +kernel
set_option maxHeartbeats 0 in
theorem t_g2 : ((allT.drop (40 * 2)).take 40).all good = true := by decide +kernel
set_option maxHeartbeats 0 in
theorem t_g3 : ((allT.drop (40 * 3)).take 40).all good = true := by decide +kernel
set_option maxHeartbeats 0 in
theorem t_g4 : ((allT.drop (40 * 4)).take 40).all good = true := by decide +kernel
set_option maxHeartbeats 0 in
theorem t_g5 : ((allT.drop (40 * 5)).take 40).all good = true := by decide +kernel
set_option maxHeartbeats 0 in
theorem t_g6 : ((allT.drop (40 * 6)).take 40).all good = true := by decide +kernel
set_option maxHeartbeats 0 in
theorem t_g7 : ((allT.drop (40 * 7)).take 40).all good = true := by decide +kernel
set_option maxHeartbeats 0 in
theorem t_g8 : ((allT.drop (40 * 8)).take 40).all good = true := by decide +kernel
set_option maxHeartbeats 0 in
theorem t_g9 : ((allT.drop (40 * 9)).take 40).all good = true := by decide +kernel
set_option maxHeartbeats 0 in
theorem t_g10 : ((allT.drop (40 * 10)).take 40).all good = true := by decide +kernel
set_option maxHeartbeats 0 in
theorem t_g11 : ((allT.drop (40 * 11)).take 40).all good = true := by decide +kernel
set_option maxHeartbeats 0 in
theorem t_g12 : ((allT.drop (40 * 12)).take 40).all good = true := by decide +kernel
set_option maxHeartbeats 0 in
theorem t_g13 : ((allT.drop (40 * 13)).take 40).all good = true := by decide +kernel
set_option maxHeartbeats 0 in
theorem t_g14 : ((allT.drop (40 * 14)).take 40).all good = true := by decide +kernel
set_option maxHeartbeats 0 in
theorem t_g15 : ((allT.drop (40 * 15)).take 40).all good = true := by decide +kernel
theorem t_good : allT.all good = true := by
  refine chunks good allT 40 16 (by decide) (by rw [t_few]; decide) fun k hk => ?_
  match k, hk with
  | 0, _ => exact t_g0
  | 1, _ => exact t_g1
  | 2, _ => exact t_g2
  | 3, _ => exact t_g3
  | 4, _ => exact t_g4
  | 5, _ => exact t_g5
  | 6, _ => exact t_g6
  | 7, _ => exact t_g7
  | 8, _ => exact t_g8
  | 9, _ => exact t_g9
  | 10, _ => exact t_g10
  | 11, _ => exact t_g11
  | 12, _ => exact t_g12
  | 13, _ => exact t_g13
  | 14, _ => exact t_g14
  | 15, _ => exact t_g15
  | k + 16, h => omega
end K11
namespace K11
open PySem Gv L2
/-! what the table says -/
theorem same_iff {N a len n : Nat} : same N a len n = true ↔ ∀ i, i < n → dg N (a + i) = dg N (a + len + i) := by
  unfold same
  rw [beq_iff_eq, win_iff]
theorem back_spec (N len : Nat) : ∀ b, back N len b ≤ b ∧ (0 < back N len b → dg N (back N len b - 1) ≠ dg N (back N len b - 1 + len))
  | 0 => ⟨Nat.le_refl _, fun h => by simp [back] at h⟩
  | b + 1 => by
    unfold back
    by_cases h : dg N b = dg N (b + len)
    · rw [if_pos h]
      have := back_spec N len b
      exact ⟨by omega, this.2⟩
    · rw [if_neg h]
      exact ⟨Nat.le_refl _, fun _ => h⟩
structure Facts (t : List Nat) (w bg len : Nat) : Prop where
  last : t.getLast? = some w
  w10 : w ≤ 10
  wpos : 0 < w
  pos : 0 < len
  lim : bg + len + w ≤ 380
  told : V_taking_period [rowV t] wZ = .ok (.tup [nv bg, nv len]) wZ
  row : ∀ n, n ≤ 400 → gr t n = (List.range n).map (dg (rowN t))
  eq : ∀ k, bg ≤ k → k + len < 380 → dg (rowN t) k = dg (rowN t) (k + len)
  no : 0 < bg → dg (rowN t) (bg - 1) ≠ dg (rowN t) (bg - 1 + len)
  least : ∀ l, 0 < l → l < len → ∃ k, bg ≤ k ∧ k + l < 380 ∧ dg (rowN t) k ≠ dg (rowN t) (k + l)
theorem facts {t : List Nat} (h : TK t) (hl : t.length ≤ 5) (h10 : ∀ x ∈ t, x ≤ 10) : ∃ w bg len, Facts t w bg len := by
  have hpos : 0 < t.length := List.length_pos_iff.mpr h.ne
  have hin : t ∈ allT := by
    unfold allT
    rw [List.mem_filter]
    refine ⟨sub_subs (inc_sub 10 t h.inc h.lo h10), ?_⟩
    simp only [Bool.and_eq_true, Nat.ble_eq]
    omega
  have hg := List.all_eq_true.mp t_good t hin
  unfold good at hg
  simp only [Bool.and_eq_true, Nat.ble_eq, Nat.blt_eq, List.all_eq_true, List.mem_range, Bool.or_eq_true, beq_iff_eq] at hg
  obtain ⟨⟨⟨⟨⟨g1, g2⟩, g3⟩, g4⟩, g5⟩, g6⟩ := hg
  have hlast : t.getLast? = some (lastT t) := by
    unfold lastT
    rw [List.getLast?_eq_some_getLast h.ne]
    rfl
  have hmem : lastT t ∈ t := List.mem_of_getLast? hlast
  have hw0 := h.lo _ hmem
  have hw10 := h10 _ hmem
  have hrep := rep_spec (N := rowN t) (w := lastT t) (by omega) 400 (lastT t) [] (Nat.le_refl _) (fun a b ha hab hb => by omega) (fun a ha hb => by omega) (fun p hp => nomatch hp) g1
  have hrow := gr_rowN h.lo hl
  have hrow' : ∀ n, n ≤ 400 → gr t n = (List.range n).map (dg (rowN t)) := fun n hn => by rw [← gr_take t 400 n hn, hrow, ← List.map_take, List.take_range, Nat.min_eq_left hn]
  have pd : PD t (lastT t) (rep (rowN t) (lastT t) 400 (lastT t) []).1 (rep (rowN t) (lastT t) 400 (lastT t) []).2 := ⟨hlast, hw10, by omega, g1, g2, g3, (keyL_eq g1 (by omega)).mpr hrep.2.1, fun a b ha hab hb he => hrep.2.2 a b ha hab hb ((keyL_eq ha (by omega)).mp he), hrow⟩
  generalize (rep (rowN t) (lastT t) 400 (lastT t) []).1 = s0 at *
  generalize (rep (rowN t) (lastT t) 400 (lastT t) []).2 = s1 at *
  have hb := back_spec (rowN t) (s1 - s0) s0
  refine ⟨lastT t, back (rowN t) (s1 - s0) s0, s1 - s0, hlast, hw10, by omega, by omega, g4, period_V h pd, hrow', fun k hk hk2 => ?_, hb.2, fun l h0 hl => ?_⟩
  · have := same_iff.mp g5 (k - back (rowN t) (s1 - s0) s0) (by omega)
    rw [show back (rowN t) (s1 - s0) s0 + (k - back (rowN t) (s1 - s0) s0) = k by omega, show back (rowN t) (s1 - s0) s0 + (s1 - s0) + (k - back (rowN t) (s1 - s0) s0) = k + (s1 - s0) by omega] at this
    exact this
  · have hn : ¬ same (rowN t) (back (rowN t) (s1 - s0) s0) l (380 - l - back (rowN t) (s1 - s0) s0) = true := by
      rcases g6 l hl with z | z
      · omega
      · intro e; rw [e] at z; cases z
    rw [same_iff] at hn
    simp only [Classical.not_forall] at hn
    obtain ⟨i, hi, hne⟩ := hn
    exact ⟨back (rowN t) (s1 - s0) s0 + i, by omega, by omega, by rw [show back (rowN t) (s1 - s0) s0 + i + l = back (rowN t) (s1 - s0) s0 + l + i by omega]; exact hne⟩
end K11
namespace K11
open PySem Gv L2
/-! rows told alike -/
@[irreducible] def gq (t : List Nat) (n : Nat) : List Nat := gr t n
theorem gq_eq (t : List Nat) (n : Nat) : gq t n = gr t n := by unfold gq; rfl
theorem gq_len (t : List Nat) (n : Nat) : (gq t n).length = n := by rw [gq_eq]; exact gr_len t n
theorem gq_take (t : List Nat) : ∀ m n, n ≤ m → (gq t m).take n = gq t n := fun m n h => by rw [gq_eq, gq_eq]; exact gr_take t m n h
theorem rowq_V {t : List Nat} {m : Nat} (h : TK t) (hm : m ≤ 400) : V_taking_row [rowV t, nv m] wZ = .ok (rowV (gq t m)) wZ := by rw [gq_eq]; exact row_V h hm
theorem lrowq_V {t : List Nat} {m : Nat} (h : TK t) (hm : m ≤ 400) : V__law_row [rowV t, nv m] wZ = .ok (.lst (natV (gq t m))) wZ := by rw [gq_eq]; exact lrow_V h hm
theorem Facts.rowq {t : List Nat} {w bg len : Nat} (F : Facts t w bg len) : ∀ n, n ≤ 400 → gq t n = (List.range n).map (dg (rowN t)) := fun n h => by rw [gq_eq]; exact F.row n h
def ev (t : List Nat) (k : Nat) : Nat := (gq t 400).getD k 0
theorem gr_at {t : List Nat} {n k : Nat} (hn : n ≤ 400) (hk : k < n) : (gq t n)[k]? = some (ev t k) := by
  unfold ev
  rw [← gq_take t 400 n hn, List.getElem?_take, if_pos hk, List.getD_eq_getElem?_getD, List.getElem?_eq_getElem (by rw [gq_len]; omega)]
  rfl
section
variable {ve : VEnv} {w : Wo} {own : List Nat} {aa : VA} {x r y a n m b : Nat} {R : Vl} {f : Nat → Nat}
theorem eq_el {own : List Nat} {g : Vl → Vl → Option Vl} {G : Bool → Bool} (hg : ∀ i j : Nat, g (nv i) (nv j) = some (.bl (G (decide (i = j))))) (ha : aa ve w = .ok [nv a, nv m] w) (hm : m ≤ 1000) (ham : m - a = n) (hal : a ≤ 1000) (hR : ∀ k, k < m + b → gIx R (nv k) = some (nv (f k)))
    (hu : ∀ z, ((wipeV ve own).set x (some (nv z)))[x]? = some (some (nv z)) ∧ ((wipeV ve own).set x (some (nv z)))[r]? = some (some R) ∧ ((wipeV ve own).set x (some (nv z)))[y]? = some (some (nv b))) :
    vLC own (vIRg2 aa) (vuN x) vBYes (vOp g (vOp gIx (vV r) (vV x)) (vOp gIx (vV r) (vOp gAdd (vV x) (vV y)))) ve w = .ok (.lst ((List.range n).map fun i => .bl (G (decide (f (a + i) = f (a + i + b)))))) w := by
  subst ham
  refine q_lc (i_rg2 ha (by omega) (by omega)) (vcompL_map (fun k => nv (a + k)) (fun i => .bl (G (decide (f (a + i) = f (a + i + b))))) (List.range (m - a)) fun i hi => ⟨_, rfl, rfl, ?_⟩) (by rw [List.length_map, List.length_range]; omega)
  have hi' := List.mem_range.mp hi
  exact q_op (q_op (q_vw (hu _).2.1) (q_vw (hu _).1) (hR (a + i) (by omega))) (q_op (q_vw (hu _).2.1) (q_op (q_vw (hu _).1) (q_vw (hu _).2.2) (gAdd_nv _ _)) (hR (a + i + b) (by omega))) (hg _ _)
end
def eqs (f : Nat → Nat) (a n b : Nat) : Bool := (List.range n).all fun i => decide (f (a + i) = f (a + i + b))
section
variable {t : List Nat} {w : Nat}
theorem last_V {ve : VEnv} {i : Nat} {w' : Wo} (hl : t.getLast? = some w) (h : ve[i]? = some (some (rowV t))) : vOp gIx (vV i) (vUn gNeg (vC (.int 1))) ve w' = .ok (nv w) w' := q_op (x := rowV t) (y := .int (-1)) (q_vw h) rfl (gIx_rowL hl)
theorem judge_V (h : TK t) (hl : t.getLast? = some w) {a b : Nat} (hb : 1 ≤ b) (hab : a + b + w ≤ 400) : V_takes_period [rowV t, nv a, nv b] wZ = .ok (.bl (eqs (ev t) a w b)) wZ := by
  have c1 : v_takes_period_1 [some (rowV t), some (nv a), some (nv b), none, none] wZ = .nx [some (rowV t), some (nv a), some (nv b), none, none] wZ := by
    refine q_if0 (q_or0 (q_cmp (x := nv a) (y := nv 0) rfl rfl (by rw [gLt_nv, decide_eq_false (by omega)])) (q_or0 (q_cmp (x := nv b) (y := nv 1) rfl rfl (by rw [gLt_nv, decide_eq_false (by omega)])) (q_cmp (x := nv (a + b + w)) (y := nv 400) (q_op (x := nv (a + b)) (y := nv w) (q_op (x := nv a) (y := nv b) rfl rfl (gAdd_nv _ _)) (last_V hl rfl) (gAdd_nv _ _)) rfl (by rw [gGt_nv, decide_eq_false (by omega)])))) rfl
  have c2 : v_takes_period_2 [some (rowV t), some (nv a), some (nv b), none, none] wZ = .nx [some (rowV t), some (nv a), some (nv b), some (rowV (gq t (a + b + w))), none] wZ :=
    q_set (q_x (q_cons (x := rowV t) rfl (q_cons (x := nv (a + b + w)) (q_op (x := nv (a + b)) (y := nv w) (q_op (x := nv a) (y := nv b) rfl rfl (gAdd_nv _ _)) (last_V hl rfl) (gAdd_nv _ _)) q_nil)) okr2 (rowq_V h hab)) rfl
  have hR : ∀ k, k < a + w + b → gIx (rowV (gq t (a + b + w))) (nv k) = some (nv (ev t k)) := fun k hk => gIx_tup (natV_get (gr_at hab (by omega)))
  generalize rowV (gq t (a + b + w)) = R at c2 hR
  have c3 : vLC [4] (vIRg2 (vCons (vV 1) (vCons (vOp gAdd (vV 1) (vOp gIx (vV 0) (vUn gNeg (vC (.int 1))))) vNil))) (vuN 4) vBYes (vOp gEq (vOp gIx (vV 3) (vV 4)) (vOp gIx (vV 3) (vOp gAdd (vV 4) (vV 2)))) [some (rowV t), some (nv a), some (nv b), some R, none] wZ = .ok (.lst ((List.range w).map fun i => .bl (id (decide (ev t (a + i) = ev t (a + i + b)))))) wZ := by
    have ha : vCons (vV 1) (vCons (vOp gAdd (vV 1) (vOp gIx (vV 0) (vUn gNeg (vC (.int 1))))) vNil) [some (rowV t), some (nv a), some (nv b), some R, none] wZ = .ok [nv a, nv (a + w)] wZ := q_cons (x := nv a) rfl (q_cons (x := nv (a + w)) (q_op (x := nv a) (y := nv w) rfl (last_V hl rfl) (gAdd_nv _ _)) q_nil)
    exact eq_el (x := 4) (r := 3) (y := 2) (g := gEq) (G := id) (fun i j => gEq_nv i j) ha (by omega) (by omega) (by omega) hR (fun _ => ⟨rfl, rfl, rfl⟩)
  have c4 : v_takes_period_3 [some (rowV t), some (nv a), some (nv b), some R, none] wZ = .rt (.bl (eqs (ev t) a w b)) wZ := q_ret (q_cb (q_cons c3 q_nil) (gAll_map (fun i => id (decide (ev t (a + i) = ev t (a + i + b)))) _))
  exact q_fn rfl (q_nx (chk_ex h rfl) (q_nx c1 (q_nx c2 c4))) rfl
end
/-! what is told -/
theorem d1 : decide (("row" : PySem.Str) = "row") = true := by decide +kernel
theorem d2 : decide (("period" : PySem.Str) = "row") = false := by decide +kernel
theorem d3 : decide (("period" : PySem.Str) = "period") = true := by decide +kernel
theorem d4 : decide (("judge" : PySem.Str) = "row") = false := by decide +kernel
theorem d5 : decide (("judge" : PySem.Str) = "period") = false := by decide +kernel
section
variable {x y z v : Vl} {w : Wo}
theorem w_eq {ve : VEnv} {a b : PySem.Str} {t : Bool} (h0 : ve[0]? = some (some (.str a))) (h : decide (a = b) = t) : vCmp gEq (vV 0) (vC (.str b)) ve w = .ok t w := q_cmp (q_vw h0) rfl (by rw [gEq_str, h])
theorem q_retE {ve : VEnv} {w w' : Wo} {e : VE} {r : Vx} (h : e ve w = .er r w') : vRet e ve w = .er r w' := by unfold vRet; rw [h]; rfl
theorem q_consE {ve : VEnv} {w w' : Wo} {e : VE} {aa : VA} {r : Vx} (h : e ve w = .er r w') : vCons e aa ve w = .er r w' := by unfold vCons; rw [h]; rfl
theorem q_xA {ve : VEnv} {w w' : Wo} {f : VF} {aa : VA} {r : Vx} (h : aa ve w = .er r w') : vX f aa ve w = .er r w' := by unfold vX; rw [h]; rfl
theorem q_ife0E {ve : VEnv} {w w1 w' : Wo} {c : VB} {e f : VE} {r : Vx} (h : c ve w = .ok false w1) (h2 : f ve w1 = .er r w') : vIf c e f ve w = .er r w' := by unfold vIf; rw [h, VR.bind_ok, if_neg Bool.false_ne_true]; exact h2
theorem q_ife1E {ve : VEnv} {w w1 w' : Wo} {c : VB} {e f : VE} {r : Vx} (h : c ve w = .ok true w1) (h2 : e ve w1 = .er r w') : vIf c e f ve w = .er r w' := by unfold vIf; rw [h, VR.bind_ok, if_pos rfl]; exact h2
theorem told_row (hc : okC [x, y] = true) (hv : okC [v] = true) (h : V_taking_row [x, y] wZ = .ok v w) : V__law_told [.str "row", x, y, z] wZ = .ok v wZ :=
  q_fn rfl (q_try1 (q_rt (q_if1 (w_eq rfl d1) (q_ret (q_x (q_cons (x := x) rfl (q_cons (x := y) rfl q_nil)) hc h))))) hv
theorem told_rowE {r : Vx} (hr : r.cls = 0) (hc : okC [x, y] = true) (hv : okC [r.code] = true) (h : V_taking_row [x, y] wZ = .er r w) : V__law_told [.str "row", x, y, z] wZ = .ok r.code wZ :=
  q_fn rfl (q_tryE (q_sr (q_if1 (w_eq rfl d1) (q_retE (q_xE (q_cons (x := x) rfl (q_cons (x := y) rfl q_nil)) hc h)))) hr (by simp)) hv
theorem told_per (hc : okC [x] = true) (hv : okC [v] = true) (h : V_taking_period [x] wZ = .ok v w) : V__law_told [.str "period", x, y, z] wZ = .ok v wZ :=
  q_fn rfl (q_try1 (q_nx (q_if0 (w_eq rfl d2) rfl) (q_ret (q_ife1 (w_eq rfl d3) (q_x (q_cons (x := x) rfl q_nil) hc h))))) hv
theorem told_perE {r : Vx} (hr : r.cls = 0) (hc : okC [x] = true) (hv : okC [r.code] = true) (h : V_taking_period [x] wZ = .er r w) : V__law_told [.str "period", x, y, z] wZ = .ok r.code wZ :=
  q_fn rfl (q_tryE (q_nx (q_if0 (w_eq rfl d2) rfl) (q_retE (q_ife1E (w_eq rfl d3) (q_xE (q_cons (x := x) rfl q_nil) hc h)))) hr (by simp)) hv
theorem flag_V (b : Bool) : V__law_flag [.bl b] wZ = .ok (.bl b) wZ := by cases b <;> rfl
theorem told_jud {b : Bool} (hc : okC [x, y, z] = true) (h : V_takes_period [x, y, z] wZ = .ok (.bl b) w) : V__law_told [.str "judge", x, y, z] wZ = .ok (.bl b) wZ :=
  q_fn rfl (q_try1 (q_nx (q_if0 (w_eq rfl d4) rfl) (q_ret (q_ife0 (w_eq rfl d5) (q_x (q_cons (q_x (q_cons (x := x) rfl (q_cons (x := y) rfl (q_cons (x := z) rfl q_nil))) hc h) q_nil) rfl (flag_V b)))))) rfl
theorem told_judE {r : Vx} (hr : r.cls = 0) (hc : okC [x, y, z] = true) (hv : okC [r.code] = true) (h : V_takes_period [x, y, z] wZ = .er r w) : V__law_told [.str "judge", x, y, z] wZ = .ok r.code wZ :=
  q_fn rfl (q_tryE (q_nx (q_if0 (w_eq rfl d4) rfl) (q_retE (q_ife0E (w_eq rfl d5) (q_xA (q_consE (q_xE (q_cons (x := x) rfl (q_cons (x := y) rfl (q_cons (x := z) rfl q_nil))) hc h)))))) hr (by simp)) hv
end
end K11
namespace K11
open PySem Gv L2
/-! the law, line by line -/
section
variable {t : List Nat} {w bg len m : Nat} {wo : Wo} {R : Vl} {f : Nat → Nat} {far : Nat} {o7 o8 o9 o10 o11 o12 o13 o14 o15 o16 : Option Vl}
theorem Facts.ev (F : Facts t w bg len) {k : Nat} (hk : k < 400) : ev t k = dg (rowN t) k := by
  have := gr_at (t := t) (n := 400) (Nat.le_refl _) hk
  rw [F.rowq 400 (Nat.le_refl _), List.getElem?_map, List.getElem?_range hk] at this
  exact (Option.some.inj this).symm
def E (t : List Nat) (R : Vl) (m bg len : Nat) (o7 o8 o9 o10 o11 o12 o13 o14 o15 o16 : Option Vl) : VEnv := [none, none, some (rowV t), some R, some (nv m), some (nv bg), some (nv len), o7, o8, o9, o10, o11, o12, o13, o14, o15, o16]
theorem s4 {o5 o6 : Option Vl} (h : TK t) (hm : m ≤ 400) : v_law_4 [none, none, some (rowV t), some (.lst (natV (gq t 400))), some (nv m), o5, o6, o7, o8, o9, o10, o11, o12, o13, o14, o15, o16] wo = .nx [none, none, some (rowV t), some (.lst (natV (gq t 400))), some (nv m), o5, o6, o7, o8, o9, o10, o11, o12, o13, o14, o15, o16] wo := by
  have hc : okC [.str "row", rowV t, nv m, .int 0] = true := okC_flat (by simp only [flatL, Bool.and_true, Bool.and_eq_true]; exact ⟨rfl, flat_row _, rfl, rfl⟩)
  refine q_if0 (q_cmp (x := rowV (gq t m)) (y := rowV (gq t m)) (q_x (q_cons (x := .str "row") rfl (q_cons (x := rowV t) rfl (q_cons (x := nv m) rfl (q_cons (x := .int 0) rfl q_nil)))) hc (told_row okr2 okr (rowq_V h hm))) (q_cb (vs := [.lst (natV (gq t m))]) (q_cons ?_ q_nil) rfl) (gNe_self (pl_row _) (Nat.le_trans (dp_row _) (by decide)))) rfl
  unfold vSl vONo vOSo
  rw [q_vw (x := .lst (natV (gq t 400))) rfl, VR.bind_ok, VR.bind_ok, q_vw (x := nv m) rfl, VR.bind_ok]
  show VR.ok (Vl.lst (cutD (natV (gq t 400)) none (some ((m : Nat) : Int)))) wo = _
  rw [cut_to _ _ (by rw [natV_len, gq_len]; exact hm)]
  unfold natV
  rw [← List.map_take, gq_take t 400 m hm]
theorem s5 {o5 o6 : Option Vl} (F : Facts t w bg len) : v_law_5 [none, none, some (rowV t), some (.lst (natV (gq t 400))), some (nv m), o5, o6, o7, o8, o9, o10, o11, o12, o13, o14, o15, o16] wo = .nx (E t (.lst (natV (gq t 400))) m bg len o7 o8 o9 o10 o11 o12 o13 o14 o15 o16) wo := by
  have hc : okC [.str "period", rowV t, .int 0, .int 0] = true := okC_flat (by simp only [flatL, Bool.and_true, Bool.and_eq_true]; exact ⟨rfl, flat_row _, rfl, rfl⟩)
  unfold v_law_5 vUnp
  rw [q_x (q_cons (x := .str "period") rfl (q_cons (x := rowV t) rfl (q_cons (x := .int 0) rfl (q_cons (x := .int 0) rfl q_nil)))) hc (told_per okr rfl F.told)]
  rfl
theorem rowE (k : Nat) (hk : k < 400) : gIx (.lst (natV (gq t 400))) (nv k) = some (nv (ev t k)) := gIx_lst (natV_get (gr_at (Nat.le_refl _) hk))
theorem s7 (F : Facts t w bg len) (hR : ∀ k, k < 400 → gIx R (nv k) = some (nv (f k))) (hfar : far = 380) (hf : ∀ k, k < 400 → f k = dg (rowN t) k) : v_law_7 (E t R m bg len (some (nv far)) o8 o9 o10 o11 o12 o13 o14 o15 o16) wo = .nx (E t R m bg len (some (nv far)) o8 o9 o10 o11 o12 o13 o14 o15 o16) wo := by
  have hlim := F.lim
  have ha : vCons (vV 5) (vCons (vOp gSub (vV 7) (vV 6)) vNil) (E t R m bg len (some (nv far)) o8 o9 o10 o11 o12 o13 o14 o15 o16) wo = .ok [nv bg, nv (far - len)] wo := q_cons (x := nv bg) rfl (q_cons (x := nv (far - len)) (q_op (x := nv far) (y := nv len) rfl rfl (gSub_nv (by omega))) q_nil)
  have c := eq_el (own := [15]) (x := 15) (r := 3) (y := 6) (n := far - len - bg) (b := len) (R := R) (f := f) (g := gNe) (G := fun b => !b) (fun i j => gNe_nv i j) ha (by omega) rfl (by omega) (fun k hk => hR k (by omega)) (fun _ => ⟨rfl, rfl, rfl⟩)
  refine q_if0 (q_tru (k := false) (q_cb (q_cons c q_nil) (gAny_map (fun i => !decide (f (bg + i) = f (bg + i + len))) _)) ?_) rfl
  show some (List.any _ _) = _
  congr 1
  rw [List.any_eq_false]
  intro i hi
  have := List.mem_range.mp hi
  rw [hf _ (by omega), hf _ (by omega), F.eq (bg + i) (by omega) (by omega)]
  simp
theorem s8 (F : Facts t w bg len) (hR : ∀ k, k < 400 → gIx R (nv k) = some (nv (f k))) (hfar : far = 380) (hf : ∀ k, k < 400 → f k = dg (rowN t) k) : v_law_8 (E t R m bg len o7 o8 o9 o10 o11 o12 o13 o14 o15 o16) wo = .nx (E t R m bg len o7 o8 o9 o10 o11 o12 o13 o14 o15 o16) wo := by
  have hlim := F.lim
  have h0 : vCmp gGt (vV 5) (vC (.int 0)) (E t R m bg len o7 o8 o9 o10 o11 o12 o13 o14 o15 o16) wo = .ok (decide (0 < bg)) wo := q_cmp (x := nv bg) (y := nv 0) rfl rfl (gGt_nv _ _)
  by_cases hb : 0 < bg
  · rw [decide_eq_true hb] at h0
    have hs : vOp gSub (vV 5) (vC (.int 1)) (E t R m bg len o7 o8 o9 o10 o11 o12 o13 o14 o15 o16) wo = .ok (nv (bg - 1)) wo := q_op (x := nv bg) (y := nv 1) rfl rfl (gSub_nv (b := 1) hb)
    refine q_if0 (q_and1 h0 (q_cmp (x := nv (f (bg - 1))) (y := nv (f (bg - 1 + len))) (q_op (x := R) rfl hs (hR _ (by omega))) (q_op (x := R) rfl (q_op (y := nv len) hs rfl (gAdd_nv _ _)) (hR _ (by omega))) ?_)) rfl
    rw [gEq_nv, decide_eq_false]
    rw [hf _ (by omega), hf _ (by omega)]
    exact F.no hb
  · rw [decide_eq_false hb] at h0
    exact q_if0 (q_and0 h0) rfl
theorem s9 (F : Facts t w bg len) (hR : ∀ k, k < 400 → gIx R (nv k) = some (nv (f k))) (hfar : far = 380) (hf : ∀ k, k < 400 → f k = dg (rowN t) k) : ∃ a, v_law_9 (E t R m bg len (some (nv far)) o8 o9 o10 o11 o12 o13 o14 o15 o16) wo = .nx (E t R m bg len (some (nv far)) a o9 o10 o11 o12 o13 o14 o15 o16) wo := by
  have hlim := F.lim
  have hpos := F.pos
  obtain ⟨ve', e, a, h⟩ := vForL_ix (u := vuN 8) (body := v_law_b1) (w := wo) (ve := E t R m bg len (some (nv far)) o8 o9 o10 o11 o12 o13 o14 o15 o16) (fun k => nv (1 + k)) (List.range (len - 1)) (fun _ ve => ∃ a, ve = E t R m bg len (some (nv far)) a o9 o10 o11 o12 o13 o14 o15 o16) ⟨o8, rfl⟩ (by
    rintro i k ve hi ⟨a, rfl⟩
    have hk : k < len - 1 := List.mem_range.mp (List.mem_of_getElem? hi)
    have ha : vCons (vV 5) (vCons (vOp gSub (vV 7) (vV 8)) vNil) (E t R m bg len (some (nv far)) (some (nv (1 + k))) o9 o10 o11 o12 o13 o14 o15 o16) wo = .ok [nv bg, nv (far - (1 + k))] wo := q_cons (x := nv bg) rfl (q_cons (x := nv (far - (1 + k))) (q_op (x := nv far) (y := nv (1 + k)) rfl rfl (gSub_nv (by omega))) q_nil)
    have c := eq_el (own := [15]) (x := 15) (r := 3) (y := 8) (n := far - (1 + k) - bg) (b := 1 + k) (R := R) (f := f) (g := gEq) (G := id) (fun i j => gEq_nv i j) ha (by omega) rfl (by omega) (fun k hk => hR k (by omega)) (fun _ => ⟨rfl, rfl, rfl⟩)
    refine ⟨_, _, rfl, q_if0 (q_tru (k := false) (q_cb (q_cons c q_nil) (gAll_map (fun i => id (decide (f (bg + i) = f (bg + i + (1 + k))))) _)) ?_) rfl, _, rfl⟩
    have hb : ((List.range (far - (1 + k) - bg)).all fun i => id (decide (f (bg + i) = f (bg + i + (1 + k))))) = false := by
      obtain ⟨q, hq, hq2, hne⟩ := F.least (1 + k) (by omega) (by omega)
      rw [List.all_eq_false]
      refine ⟨q - bg, List.mem_range.mpr (by omega), fun he => ?_⟩
      have he2 := of_decide_eq_true he
      rw [show bg + (q - bg) = q by omega, hf q (by omega), hf (q + (1 + k)) (by omega)] at he2
      exact hne he2
    exact congrArg some hb)
  subst h
  exact ⟨a, q_for (i_rg2 (m := 1) (n := len) (q_cons (x := nv 1) rfl (q_cons (x := nv len) rfl q_nil)) (by omega) (by omega)) e⟩
end
end K11
namespace K11
open PySem Gv L2
/-! the law, line by line, from line 10 on -/
theorem max0 (x : Nat) : gMax2 [.int 0, .int ((x : Int) - 2)] = some (nv (x - 2)) := by
  show some (Vl.int _) = some (Vl.int _)
  congr 2
  split <;> omega
theorem max1 (x : Nat) : gMax2 [.int 1, .int ((x : Int) - 2)] = some (nv (max 1 (x - 2))) := by
  show some (Vl.int _) = some (Vl.int _)
  congr 2
  split <;> omega
theorem okr3 {t : List Nat} {x y : Vl} (hx : x.flat = true) (hy : y.flat = true) : okC [rowV t, x, y] = true := okC_flat (by simp only [flatL, Bool.and_true, Bool.and_eq_true]; exact ⟨flat_row _, hx, hy⟩)
theorem okr4 {t : List Nat} {s : PySem.Str} {x y : Vl} (hx : x.flat = true) (hy : y.flat = true) : okC [.str s, rowV t, x, y] = true := okC_flat (by simp only [flatL, Bool.and_true, Bool.and_eq_true]; exact ⟨rfl, flat_row _, hx, hy⟩)
section
variable {t : List Nat} {w bg len m : Nat} {wo : Wo} {R : Vl} {o7 o8 o9 o10 o11 o12 o13 o14 o15 o16 : Option Vl}
theorem db2 (h : TK t) (F : Facts t w bg len) (hR : ∀ k, k < 400 → gIx R (nv k) = some (nv (ev t k))) : ∃ w' a b c, v_law_b2 (E t R m bg len o7 o8 o9 o10 o11 o12 o13 o14 o15 o16) wo = .nx (E t R m bg len o7 o8 o9 a b c o13 o14 o15 o16) w' := by
  obtain ⟨r1, w1, e1, hr1⟩ := q_draw (e := vC (.int 5)) (ve := E t R m bg len o7 o8 o9 o10 o11 o12 o13 o14 o15 o16) (w := wo) (w1 := wo) (m := 5) rfl (by decide) (by decide)
  have g1 : vSet 0 10 (vCB gMax2 (vCons (vC (.int 0)) (vCons (vOp gSub (vOp gAdd (vV 5) (vDraw (vC (.int 5)))) (vC (.int 2))) vNil))) (E t R m bg len o7 o8 o9 o10 o11 o12 o13 o14 o15 o16) wo = .nx (E t R m bg len o7 o8 o9 (some (nv (bg + r1 - 2))) o11 o12 o13 o14 o15 o16) w1 :=
    q_set (x := nv (bg + r1 - 2)) (q_cb (q_cons (x := .int 0) rfl (q_cons (x := .int (((bg + r1 : Nat) : Int) - 2)) (q_op (x := nv (bg + r1)) (y := .int 2) (q_op (x := nv bg) (y := nv r1) rfl e1 (gAdd_nv _ _)) rfl rfl) q_nil)) (max0 _)) rfl
  obtain ⟨r2, w2, e2, hr2⟩ := q_draw (e := vC (.int 5)) (ve := E t R m bg len o7 o8 o9 (some (nv (bg + r1 - 2))) o11 o12 o13 o14 o15 o16) (w := w1) (w1 := w1) (m := 5) rfl (by decide) (by decide)
  have g2 : vSet 0 11 (vCB gMax2 (vCons (vC (.int 1)) (vCons (vOp gSub (vOp gAdd (vV 6) (vDraw (vC (.int 5)))) (vC (.int 2))) vNil))) (E t R m bg len o7 o8 o9 (some (nv (bg + r1 - 2))) o11 o12 o13 o14 o15 o16) w1 = .nx (E t R m bg len o7 o8 o9 (some (nv (bg + r1 - 2))) (some (nv (max 1 (len + r2 - 2)))) o12 o13 o14 o15 o16) w2 :=
    q_set (x := nv (max 1 (len + r2 - 2))) (q_cb (q_cons (x := .int 1) rfl (q_cons (x := .int (((len + r2 : Nat) : Int) - 2)) (q_op (x := nv (len + r2)) (y := .int 2) (q_op (x := nv len) (y := nv r2) rfl e2 (gAdd_nv _ _)) rfl rfl) q_nil)) (max1 _)) rfl
  have hb1 : 1 ≤ max 1 (len + r2 - 2) := by omega
  generalize max 1 (len + r2 - 2) = b at g2 hb1
  generalize bg + r1 - 2 = a at g1 g2
  have hc : vCmp gLe (vOp gAdd (vOp gAdd (vV 10) (vV 11)) (vOp gIx (vV 2) (vUn gNeg (vC (.int 1))))) (vC (.int 400)) (E t R m bg len o7 o8 o9 (some (nv a)) (some (nv b)) o12 o13 o14 o15 o16) w2 = .ok (decide (a + b + w ≤ 400)) w2 :=
    q_cmp (x := nv (a + b + w)) (y := nv 400) (q_op (x := nv (a + b)) (y := nv w) (q_op (x := nv a) (y := nv b) rfl rfl (gAdd_nv _ _)) (last_V F.last rfl) (gAdd_nv _ _)) rfl (gLe_nv _ _)
  by_cases hab : a + b + w ≤ 400
  · rw [decide_eq_true hab] at hc
    have ha : vCons (vV 10) (vCons (vOp gAdd (vV 10) (vOp gIx (vV 2) (vUn gNeg (vC (.int 1))))) vNil) (E t R m bg len o7 o8 o9 (some (nv a)) (some (nv b)) o12 o13 o14 o15 o16) w2 = .ok [nv a, nv (a + w)] w2 := q_cons (x := nv a) rfl (q_cons (x := nv (a + w)) (q_op (x := nv a) (y := nv w) rfl (last_V F.last rfl) (gAdd_nv _ _)) q_nil)
    have c := eq_el (own := [15]) (x := 15) (r := 3) (y := 11) (n := w) (b := b) (R := R) (f := ev t) (g := gEq) (G := id) (fun i j => gEq_nv i j) ha (by omega) (by omega) (by omega) (fun k hk => hR k (by omega)) (fun _ => ⟨rfl, rfl, rfl⟩)
    have g3 : vSet 0 12 (vCB gAll (vCons (vLC [15] (vIRg2 (vCons (vV 10) (vCons (vOp gAdd (vV 10) (vOp gIx (vV 2) (vUn gNeg (vC (.int 1))))) vNil))) (vuN 15) vBYes (vOp gEq (vOp gIx (vV 3) (vV 15)) (vOp gIx (vV 3) (vOp gAdd (vV 15) (vV 11))))) vNil)) (E t R m bg len o7 o8 o9 (some (nv a)) (some (nv b)) o12 o13 o14 o15 o16) w2 = .nx (E t R m bg len o7 o8 o9 (some (nv a)) (some (nv b)) (some (.bl (eqs (ev t) a w b))) o13 o14 o15 o16) w2 :=
      q_set (x := .bl (eqs (ev t) a w b)) (q_cb (q_cons c q_nil) (gAll_map (fun i => id (decide (ev t (a + i) = ev t (a + i + b)))) _)) rfl
    have hj := told_jud (okr3 rfl rfl) (judge_V h F.last hb1 hab)
    generalize eqs (ev t) a w b = q at g3 hj
    refine ⟨w2, _, _, _, q_nx g1 (q_nx g2 (q_if1 hc (q_nx g3 (q_if0 (q_cmp (x := .bl q) (y := .bl q) (q_x (q_cons (x := .str "judge") rfl (q_cons (x := rowV t) rfl (q_cons (x := nv a) rfl (q_cons (x := nv b) rfl q_nil)))) (okr4 rfl rfl) hj) rfl (gNe_self rfl (Nat.zero_le _))) rfl))))⟩
  · rw [decide_eq_false hab] at hc
    exact ⟨w2, _, _, _, q_nx g1 (q_nx g2 (q_if0 hc rfl))⟩
theorem s10 (h : TK t) (F : Facts t w bg len) (hR : ∀ k, k < 400 → gIx R (nv k) = some (nv (ev t k))) : ∃ w' z a b c, v_law_10 (E t R m bg len o7 o8 o9 o10 o11 o12 o13 o14 o15 o16) wo = .nx (E t R m bg len o7 o8 z a b c o13 o14 o15 o16) w' := by
  have := vForL_rule (u := vuN 9) (body := v_law_b2) (xs := (List.range 3).map nv) (ve := E t R m bg len o7 o8 o9 o10 o11 o12 o13 o14 o15 o16) (w := wo) (fun _ ve _ => ∃ z a b c, ve = E t R m bg len o7 o8 z a b c o13 o14 o15 o16) (fun r => ∃ w' z a b c, r = .nx (E t R m bg len o7 o8 z a b c o13 o14 o15 o16) w') ⟨_, _, _, _, rfl⟩ (by
    rintro k x ve w' hx ⟨z, a, b, c, rfl⟩
    obtain ⟨w2, a2, b2, c2, e⟩ := db2 (m := m) (wo := w') (o7 := o7) (o8 := o8) (o9 := some x) (o10 := a) (o11 := b) (o12 := c) (o13 := o13) (o14 := o14) (o15 := o15) (o16 := o16) h F hR
    exact ⟨_, _, rfl, e, _, _, _, _, rfl⟩) (fun ve w' ⟨z, a, b, c, hv⟩ => ⟨w', z, a, b, c, by rw [hv]⟩)
  obtain ⟨w', z, a, b, c, e⟩ := this
  exact ⟨w', z, a, b, c, q_for (i_rg1 (n := 3) (q_cons (x := nv 3) rfl q_nil) (by decide)) e⟩
theorem s11 (h : TK t) (F : Facts t w bg len) : v_law_11 (E t R m bg len o7 o8 o9 o10 o11 o12 o13 o14 o15 o16) wo = .nx (E t R m bg len o7 o8 o9 o10 o11 o12 o13 o14 o15 o16) wo := by
  have hlim := F.lim
  have hpos := F.pos
  have he : eqs (ev t) bg w len = true := by
    unfold eqs
    rw [List.all_eq_true]
    intro i hi
    have hi := List.mem_range.mp hi
    rw [F.ev (by omega), F.ev (by omega), decide_eq_true (F.eq (bg + i) (by omega) (by omega))]
  have hj := told_jud (okr3 rfl rfl) (judge_V h F.last hpos (by omega : bg + len + w ≤ 400))
  rw [he] at hj
  exact q_if0 (q_cmp (x := .bl true) (y := .bl true) (q_x (q_cons (x := .str "judge") rfl (q_cons (x := rowV t) rfl (q_cons (x := nv bg) rfl (q_cons (x := nv len) rfl q_nil)))) (okr4 rfl rfl) hj) rfl rfl) rfl
theorem per_E (h : TK t) (hl : t.getLast? = some w) (hw : 10 < w) : V_taking_period [rowV t] wZ = .er ⟨0, .str "takes", .int 0⟩ wZ := by
  refine q_fnE rfl (q_nx (chk_ex h rfl) (q_sr (q_if1 (q_cmp (x := nv w) (y := nv 10) (last_V hl rfl) rfl ?_) (q_rs1 rfl rfl))))
  rw [gGt_nv, decide_eq_true hw]
theorem s13 {t2 : List Nat} (h : TK t2) : v_law_13 (E t R m bg len o7 o8 o9 o10 o11 o12 (some (rowV t2)) o14 o15 o16) wo = .nx (E t R m bg len o7 o8 o9 o10 o11 o12 (some (rowV t2)) o14 o15 o16) wo := by
  have c1 := told_row (z := .int 0) (okr2 (t := t2) (n := 80)) okr (rowq_V h (by decide))
  have c2 := lrowq_V (m := 80) h (by decide)
  generalize gq t2 80 = xs at c1 c2
  cases e : t2.getLast? with
  | none => exact absurd (List.getLast?_eq_none_iff.mp e) h.ne
  | some w2 =>
    refine q_if0 (q_or0 (q_cmp (x := rowV xs) (y := rowV xs) (q_x (q_cons (x := .str "row") rfl (q_cons (x := rowV t2) rfl (q_cons (x := nv 80) rfl (q_cons (x := .int 0) rfl q_nil)))) (okr4 rfl rfl) c1) (q_cb (vs := [.lst (natV xs)]) (q_cons (q_x (q_cons (x := rowV t2) rfl (q_cons (x := nv 80) rfl q_nil)) okr2 c2) q_nil) rfl) (gNe_self (pl_row _) (Nat.le_trans (dp_row _) (by decide)))) ?_) rfl
    have hc : vCmp gGt (vOp gIx (vV 13) (vUn gNeg (vC (.int 1)))) (vC (.int 10)) (E t R m bg len o7 o8 o9 o10 o11 o12 (some (rowV t2)) o14 o15 o16) wo = .ok (decide (10 < w2)) wo := q_cmp (x := nv w2) (y := nv 10) (last_V e rfl) rfl (gGt_nv _ _)
    by_cases hw : 10 < w2
    · rw [decide_eq_true hw] at hc
      refine q_and1 hc (q_cmp (x := .str "takes") (y := .str "takes") (q_x (q_cons (x := .str "period") rfl (q_cons (x := rowV t2) rfl (q_cons (x := .int 0) rfl (q_cons (x := .int 0) rfl q_nil)))) (okr4 rfl rfl) (told_perE rfl okr rfl (per_E h e hw))) rfl ?_)
      rw [gNe_str, decide_eq_true rfl]
      rfl
    · rw [decide_eq_false hw] at hc
      exact q_and0 hc
def bads : List Vl := [.tup [], .tup [.int 0, .int 1], .tup [.int 2, .int 1], .tup [.int 1, .int 1], .tup [.int 41]]
theorem s14 : v_law_14 (E t R m bg len o7 o8 o9 o10 o11 o12 o13 o14 o15 o16) wo = .nx (E t R m bg len o7 o8 o9 o10 o11 o12 o13 (some (.lst bads)) o15 o16) wo := rfl
theorem t_bads : bads.all (fun x => isV (V__law_told [.str "row", x, .int 5, .int 0] wZ) (.str "takes") && okC [.str "row", x, .int 5, .int 0]) = true := by decide +kernel
theorem many1 (h : TK t) : V_taking_row [rowV t, .int 401] wZ = .er ⟨0, .str "many", .int 0⟩ wZ :=
  q_fnE rfl (q_nx (chk_ex h rfl) (q_sr (q_if1 (q_not (k := false) (q_bchain (x := .int 0) (y := .int 401) (z := .int 400) rfl rfl rfl rfl rfl)) (q_rs1 rfl rfl))))
theorem many2 (h : TK t) : V_taking_row [rowV t, .int (-1)] wZ = .er ⟨0, .str "many", .int 0⟩ wZ :=
  q_fnE rfl (q_nx (chk_ex h rfl) (q_sr (q_if1 (q_not (k := false) (q_bchain0 (x := .int 0) (y := .int (-1)) rfl rfl rfl)) (q_rs1 rfl rfl))))
theorem okr2' {x : Vl} (hx : x.flat = true) : okC [rowV t, x] = true := okC_flat (by simp only [flatL, Bool.and_true, Bool.and_eq_true]; exact ⟨flat_row _, hx⟩)
theorem ne_str (a : PySem.Str) : gNe (.str a) (.str a) = some (.bl false) := by
  rw [gNe_str, decide_eq_true rfl]
  rfl
theorem s15 (h : TK t) : v_law_15 (E t R m bg len o7 o8 o9 o10 o11 o12 o13 (some (.lst bads)) o15 o16) wo = .nx (E t R m bg len o7 o8 o9 o10 o11 o12 o13 (some (.lst bads)) o15 o16) wo := by
  have hb := List.all_eq_true.mp t_bads
  have c1 : vLC [16] (vISeq (vV 14)) (vuN 16) vBYes (vOp gNe (vX V__law_told (vCons (vC (.str "row")) (vCons (vV 16) (vCons (vC (.int 5)) (vCons (vC (.int 0)) vNil))))) (vC (.str "takes"))) (E t R m bg len o7 o8 o9 o10 o11 o12 o13 (some (.lst bads)) o15 o16) wo = .ok (.lst (bads.map fun _ => .bl false)) wo := by
    refine q_lc (xs := bads.map id) (i_lst (a := vV 14) rfl) (vcompL_map id (fun _ => .bl false) bads fun x hx => ?_) (by decide)
    have := hb x hx
    rw [Bool.and_eq_true] at this
    obtain ⟨w1, e1⟩ := isV_eq this.1
    exact ⟨_, rfl, rfl, q_op (x := .str "takes") (y := .str "takes") (q_x (q_cons (x := .str "row") rfl (q_cons (x := x) rfl (q_cons (x := .int 5) rfl (q_cons (x := .int 0) rfl q_nil)))) this.2 e1) rfl (ne_str _)⟩
  refine q_if0 (q_or0 (q_tru (k := false) (q_cb (q_cons c1 q_nil) (gAny_map (fun _ => false) _)) rfl) (q_or0 (q_cmp (x := .str "many") (y := .str "many") (q_x (q_cons (x := .str "row") rfl (q_cons (x := rowV t) rfl (q_cons (x := .int 401) rfl (q_cons (x := .int 0) rfl q_nil)))) (okr4 rfl rfl) (told_rowE rfl (okr2' rfl) rfl (many1 h))) rfl (ne_str _)) (q_cmp (x := .str "many") (y := .str "many") (q_x (q_cons (x := .str "row") rfl (q_cons (x := rowV t) rfl (q_cons (x := .int (-1)) rfl (q_cons (x := .int 0) rfl q_nil)))) (okr4 rfl rfl) (told_rowE rfl (okr2' rfl) rfl (many2 h))) rfl (ne_str _)))) rfl
theorem per1 (h : TK t) : V_takes_period [rowV t, .int (-1), .int 1] wZ = .er ⟨0, .str "period", .int 0⟩ wZ :=
  q_fnE rfl (q_nx (chk_ex h rfl) (q_sr (q_if1 (q_or1 (q_cmp (x := .int (-1)) (y := .int 0) rfl rfl rfl)) (q_rs1 rfl rfl))))
theorem per2 (h : TK t) : V_takes_period [rowV t, .int 0, .int 0] wZ = .er ⟨0, .str "period", .int 0⟩ wZ :=
  q_fnE rfl (q_nx (chk_ex h rfl) (q_sr (q_if1 (q_or0 (q_cmp (x := .int 0) (y := .int 0) rfl rfl rfl) (q_or1 (q_cmp (x := .int 0) (y := .int 1) rfl rfl rfl))) (q_rs1 rfl rfl))))
theorem per3 (h : TK t) (hl : t.getLast? = some w) (hw : 0 < w) : V_takes_period [rowV t, .int 200, .int 200] wZ = .er ⟨0, .str "period", .int 0⟩ wZ := by
  refine q_fnE rfl (q_nx (chk_ex h rfl) (q_sr (q_if1 (q_or0 (q_cmp (x := .int 200) (y := .int 0) rfl rfl rfl) (q_or0 (q_cmp (x := .int 200) (y := .int 1) rfl rfl rfl) (q_cmp (x := nv (400 + w)) (y := nv 400) (q_op (x := nv 400) (y := nv w) (q_op (x := .int 200) (y := .int 200) rfl rfl rfl) (last_V hl rfl) (gAdd_nv _ _)) rfl ?_))) (q_rs1 rfl rfl))))
  rw [gGt_nv, decide_eq_true (by omega)]
def isT (o : Option Vl) : Bool := match o with
  | some (.bl true) => true
  | _ => false
theorem isT_eq {o : Option Vl} (h : isT o = true) : o = some (.bl true) := by
  unfold isT at h
  split at h
  · rfl
  · cases h
theorem t_p3 : isT (gEq (.lst [.str "period", .str "period", .str "period"]) (.lst [.str "period", .str "period", .str "period"])) = true := by decide +kernel
theorem s16 (h : TK t) (F : Facts t w bg len) : v_law_16 (E t R m bg len o7 o8 o9 o10 o11 o12 o13 o14 o15 o16) wo = .rt (.bl true) wo := by
  refine q_ret (q_op (x := .lst [.str "period", .str "period", .str "period"]) (y := .lst [.str "period", .str "period", .str "period"]) (q_lstA (q_cons (q_x (q_cons (x := .str "judge") rfl (q_cons (x := rowV t) rfl (q_cons (x := .int (-1)) rfl (q_cons (x := .int 1) rfl q_nil)))) (okr4 rfl rfl) (told_judE rfl (okr3 rfl rfl) rfl (per1 h))) (q_cons (q_x (q_cons (x := .str "judge") rfl (q_cons (x := rowV t) rfl (q_cons (x := .int 0) rfl (q_cons (x := .int 0) rfl q_nil)))) (okr4 rfl rfl) (told_judE rfl (okr3 rfl rfl) rfl (per2 h))) (q_cons (q_x (q_cons (x := .str "judge") rfl (q_cons (x := rowV t) rfl (q_cons (x := .int 200) rfl (q_cons (x := .int 200) rfl q_nil)))) (okr4 rfl rfl) (told_judE rfl (okr3 rfl rfl) rfl (per3 h F.last F.wpos))) q_nil))) (by decide)) (q_op (x := .lst [.str "period"]) (y := .int 3) (q_lstA (q_cons (x := .str "period") rfl q_nil) (by decide)) rfl ?_) (isT_eq t_p3))
  unfold gMul
  exact if_pos (by decide)
end
theorem law_run (w : Wo) : ∃ w', v_law (List.replicate 17 none) w = .rt (.bl true) w' := by
  obtain ⟨t, w1, h, hl, hm, e1⟩ := takes_V (n := 10) w (by decide) (by decide)
  have a1 : v_law_1 (List.replicate 17 none) w = .nx [none, none, some (rowV t), none, none, none, none, none, none, none, none, none, none, none, none, none, none] w1 := q_set ((q_xd (q_cons (x := nv 10) rfl q_nil) rfl).trans e1) rfl
  obtain ⟨wd, bg, len, F⟩ := facts h hl hm
  have a2 : v_law_2 [none, none, some (rowV t), none, none, none, none, none, none, none, none, none, none, none, none, none, none] w1 = .nx [none, none, some (rowV t), some (.lst (natV (gq t 400))), none, none, none, none, none, none, none, none, none, none, none, none, none] w1 := q_set (q_x (q_cons (x := rowV t) rfl (q_cons (x := nv 400) rfl q_nil)) okr2 (lrowq_V (m := 400) h (by decide))) rfl
  obtain ⟨m, w3, e3, hm3⟩ := q_draw (e := vC (.int 401)) (ve := [none, none, some (rowV t), some (.lst (natV (gq t 400))), none, none, none, none, none, none, none, none, none, none, none, none, none]) (w := w1) (w1 := w1) (m := 401) rfl (by decide) (by decide)
  have a3 : v_law_3 [none, none, some (rowV t), some (.lst (natV (gq t 400))), none, none, none, none, none, none, none, none, none, none, none, none, none] w1 = .nx [none, none, some (rowV t), some (.lst (natV (gq t 400))), some (nv m), none, none, none, none, none, none, none, none, none, none, none, none] w3 := q_set e3 rfl
  have a4 := s4 (m := m) (wo := w3) (o5 := none) (o6 := none) (o7 := none) (o8 := none) (o9 := none) (o10 := none) (o11 := none) (o12 := none) (o13 := none) (o14 := none) (o15 := none) (o16 := none) h (by omega)
  have a5 := s5 (m := m) (wo := w3) (o5 := none) (o6 := none) (o7 := none) (o8 := none) (o9 := none) (o10 := none) (o11 := none) (o12 := none) (o13 := none) (o14 := none) (o15 := none) (o16 := none) F
  have hR : ∀ k, k < 400 → gIx (.lst (natV (gq t 400))) (nv k) = some (nv (ev t k)) := rowE
  generalize Vl.lst (natV (gq t 400)) = R at a2 a3 a4 a5 hR
  have a6 : v_law_6 (E t R m bg len none none none none none none none none none none) w3 = .nx (E t R m bg len (some (nv 380)) none none none none none none none none none) w3 := rfl
  generalize hf : 380 = far at a6
  have a7 := s7 (m := m) (wo := w3) (o8 := none) (o9 := none) (o10 := none) (o11 := none) (o12 := none) (o13 := none) (o14 := none) (o15 := none) (o16 := none) F hR hf.symm (fun k hk => F.ev hk)
  have a8 := s8 (m := m) (wo := w3) (o7 := some (nv far)) (o8 := none) (o9 := none) (o10 := none) (o11 := none) (o12 := none) (o13 := none) (o14 := none) (o15 := none) (o16 := none) F hR hf.symm (fun k hk => F.ev hk)
  obtain ⟨b8, a9⟩ := s9 (m := m) (wo := w3) (o8 := none) (o9 := none) (o10 := none) (o11 := none) (o12 := none) (o13 := none) (o14 := none) (o15 := none) (o16 := none) F hR hf.symm (fun k hk => F.ev hk)
  obtain ⟨w10, z9, z10, z11, z12, a10⟩ := s10 (m := m) (wo := w3) (o7 := some (nv far)) (o8 := b8) (o9 := none) (o10 := none) (o11 := none) (o12 := none) (o13 := none) (o14 := none) (o15 := none) (o16 := none) h F hR
  obtain ⟨t2, w12, h2, _, _, e12⟩ := takes_V (n := 40) w10 (by decide) (by decide)
  have a12 : v_law_12 (E t R m bg len (some (nv far)) b8 z9 z10 z11 z12 none none none none) w10 = .nx (E t R m bg len (some (nv far)) b8 z9 z10 z11 z12 (some (rowV t2)) none none none) w12 := q_set ((q_xd (q_cons (x := nv 40) rfl q_nil) rfl).trans e12) rfl
  exact ⟨w12, q_nx a1 (q_nx a2 (q_nx a3 (q_nx a4 (q_nx a5 (q_nx a6 (q_nx a7 (q_nx a8 (q_nx a9 (q_nx a10 (q_nx (s11 h F) (q_nx a12 (q_nx (s13 h2) (q_nx s14 (q_nx (s15 h) (s16 h F)))))))))))))))⟩
theorem law_ok (ns : List Int) (h : ns.length ≤ 63) : ∃ s, T_law [.obj 0] [.fls (ns.map .int)] = .ok (.bl true) s := law_of law_run ns h
end K11
namespace K11
open PySem PySem.Spec PyProof.Rows L2 Gv
theorem all_mk {l : PySem.W.OpenLaw} {w : World} {K : PySem.W.Frag} {h : Heap} {mg : Str → Option Value} {fa : Addr} (X : K.In h) (G : h.Ns mainGlobals mg) (hfa : mg "law" = some (.ref fa))
    {f_least_missing : Addr} {oc_least_missing kV_least_missing dc_least_missing pm_least_missing cd_least_missing ct_least_missing : Value} {od_least_missing an_least_missing : Option Addr} {sl_least_missing : Array (Option Value)}
    {f_check_takes : Addr} {oc_check_takes kV_check_takes dc_check_takes pm_check_takes cd_check_takes ct_check_takes : Value} {od_check_takes an_check_takes : Option Addr} {sl_check_takes : Array (Option Value)}
    {f_taking_row : Addr} {oc_taking_row kV_taking_row dc_taking_row pm_taking_row cd_taking_row ct_taking_row : Value} {od_taking_row an_taking_row : Option Addr} {sl_taking_row : Array (Option Value)}
    {f__shortened : Addr} {oc__shortened kV__shortened dc__shortened pm__shortened cd__shortened ct__shortened : Value} {od__shortened an__shortened : Option Addr} {sl__shortened : Array (Option Value)}
    {f_taking_period : Addr} {oc_taking_period kV_taking_period dc_taking_period pm_taking_period cd_taking_period ct_taking_period : Value} {od_taking_period an_taking_period : Option Addr} {sl_taking_period : Array (Option Value)}
    {f_takes_period : Addr} {oc_takes_period kV_takes_period dc_takes_period pm_takes_period cd_takes_period ct_takes_period : Value} {od_takes_period an_takes_period : Option Addr} {sl_takes_period : Array (Option Value)}
    {f__law_begin : Addr} {oc__law_begin kV__law_begin dc__law_begin pm__law_begin cd__law_begin ct__law_begin : Value} {od__law_begin an__law_begin : Option Addr} {sl__law_begin : Array (Option Value)}
    {f__law_take : Addr} {oc__law_take kV__law_take dc__law_take pm__law_take cd__law_take ct__law_take : Value} {od__law_take an__law_take : Option Addr} {sl__law_take : Array (Option Value)}
    {f__law_flag : Addr} {oc__law_flag kV__law_flag dc__law_flag pm__law_flag cd__law_flag ct__law_flag : Value} {od__law_flag an__law_flag : Option Addr} {sl__law_flag : Array (Option Value)}
    {f__law_told : Addr} {oc__law_told kV__law_told dc__law_told pm__law_told cd__law_told ct__law_told : Value} {od__law_told an__law_told : Option Addr} {sl__law_told : Array (Option Value)}
    {f__law_row : Addr} {oc__law_row kV__law_row dc__law_row pm__law_row cd__law_row ct__law_row : Value} {od__law_row an__law_row : Option Addr} {sl__law_row : Array (Option Value)}
    {f__law_takes : Addr} {oc__law_takes kV__law_takes dc__law_takes pm__law_takes cd__law_takes ct__law_takes : Value} {od__law_takes an__law_takes : Option Addr} {sl__law_takes : Array (Option Value)}
    {f_law : Addr} {oc_law kV_law dc_law pm_law cd_law ct_law : Value} {od_law an_law : Option Addr} {sl_law : Array (Option Value)}
    {t_LONG : Tok}
    {fI Td : Addr} {ocI kVI dcI pmI cdI ctI : Value} {odI anI : Option Addr} {slI : Array (Option Value)} {oT : Obj} {tkT : Tok} {nT : Nat}
    {Ch : Addr}
    {e0_C e0_N : Addr} {e0_nm e0_q : Str} {e0_bs : List Value} {e0_sn : List Str} {e0_sub : List Value} {e0_ab : Bool} {e0_col : Option Bool} {e0_dd : Option Addr} {e0_m0 e0_m1 e0_m2 e0_m3 e0_m5 : Option Value}
    (a_least_missing : PySem.W.nsIn K mainGlobals "least_missing" = some (some (.ref f_least_missing)))
    (l_least_missing : K.lookup f_least_missing = some ⟨oc_least_missing, od_least_missing, .func (PySem.W.fnOf "least_missing" "least_missing" (defArgs st_least_missing) (defBody st_least_missing) (defScope st_least_missing) .none kV_least_missing dc_least_missing pm_least_missing an_least_missing cd_least_missing ct_least_missing), sl_least_missing⟩)
    (ci_least_missing : PySem.W.codeIn K cd_least_missing "least_missing" = true)
    (k_least_missing : PySem.W.keepIn K (.ref f_least_missing) = true)
    (a_check_takes : PySem.W.nsIn K mainGlobals "check_takes" = some (some (.ref f_check_takes)))
    (l_check_takes : K.lookup f_check_takes = some ⟨oc_check_takes, od_check_takes, .func (PySem.W.fnOf "check_takes" "check_takes" (defArgs st_check_takes) (defBody st_check_takes) (defScope st_check_takes) .none kV_check_takes dc_check_takes pm_check_takes an_check_takes cd_check_takes ct_check_takes), sl_check_takes⟩)
    (ci_check_takes : PySem.W.codeIn K cd_check_takes "check_takes" = true)
    (k_check_takes : PySem.W.keepIn K (.ref f_check_takes) = true)
    (a_taking_row : PySem.W.nsIn K mainGlobals "taking_row" = some (some (.ref f_taking_row)))
    (l_taking_row : K.lookup f_taking_row = some ⟨oc_taking_row, od_taking_row, .func (PySem.W.fnOf "taking_row" "taking_row" (defArgs st_taking_row) (defBody st_taking_row) (defScope st_taking_row) .none kV_taking_row dc_taking_row pm_taking_row an_taking_row cd_taking_row ct_taking_row), sl_taking_row⟩)
    (ci_taking_row : PySem.W.codeIn K cd_taking_row "taking_row" = true)
    (k_taking_row : PySem.W.keepIn K (.ref f_taking_row) = true)
    (a__shortened : PySem.W.nsIn K mainGlobals "_shortened" = some (some (.ref f__shortened)))
    (l__shortened : K.lookup f__shortened = some ⟨oc__shortened, od__shortened, .func (PySem.W.fnOf "_shortened" "_shortened" (defArgs st__shortened) (defBody st__shortened) (defScope st__shortened) .none kV__shortened dc__shortened pm__shortened an__shortened cd__shortened ct__shortened), sl__shortened⟩)
    (ci__shortened : PySem.W.codeIn K cd__shortened "_shortened" = true)
    (k__shortened : PySem.W.keepIn K (.ref f__shortened) = true)
    (a_taking_period : PySem.W.nsIn K mainGlobals "taking_period" = some (some (.ref f_taking_period)))
    (l_taking_period : K.lookup f_taking_period = some ⟨oc_taking_period, od_taking_period, .func (PySem.W.fnOf "taking_period" "taking_period" (defArgs st_taking_period) (defBody st_taking_period) (defScope st_taking_period) .none kV_taking_period dc_taking_period pm_taking_period an_taking_period cd_taking_period ct_taking_period), sl_taking_period⟩)
    (ci_taking_period : PySem.W.codeIn K cd_taking_period "taking_period" = true)
    (k_taking_period : PySem.W.keepIn K (.ref f_taking_period) = true)
    (a_takes_period : PySem.W.nsIn K mainGlobals "takes_period" = some (some (.ref f_takes_period)))
    (l_takes_period : K.lookup f_takes_period = some ⟨oc_takes_period, od_takes_period, .func (PySem.W.fnOf "takes_period" "takes_period" (defArgs st_takes_period) (defBody st_takes_period) (defScope st_takes_period) .none kV_takes_period dc_takes_period pm_takes_period an_takes_period cd_takes_period ct_takes_period), sl_takes_period⟩)
    (ci_takes_period : PySem.W.codeIn K cd_takes_period "takes_period" = true)
    (k_takes_period : PySem.W.keepIn K (.ref f_takes_period) = true)
    (a__law_begin : PySem.W.nsIn K mainGlobals "_law_begin" = some (some (.ref f__law_begin)))
    (l__law_begin : K.lookup f__law_begin = some ⟨oc__law_begin, od__law_begin, .func (PySem.W.fnOf "_law_begin" "_law_begin" (defArgs st__law_begin) (defBody st__law_begin) (defScope st__law_begin) .none kV__law_begin dc__law_begin pm__law_begin an__law_begin cd__law_begin ct__law_begin), sl__law_begin⟩)
    (ci__law_begin : PySem.W.codeIn K cd__law_begin "_law_begin" = true)
    (k__law_begin : PySem.W.keepIn K (.ref f__law_begin) = true)
    (a__law_take : PySem.W.nsIn K mainGlobals "_law_take" = some (some (.ref f__law_take)))
    (l__law_take : K.lookup f__law_take = some ⟨oc__law_take, od__law_take, .func (PySem.W.fnOf "_law_take" "_law_take" (defArgs st__law_take) (defBody st__law_take) (defScope st__law_take) .none kV__law_take dc__law_take pm__law_take an__law_take cd__law_take ct__law_take), sl__law_take⟩)
    (ci__law_take : PySem.W.codeIn K cd__law_take "_law_take" = true)
    (k__law_take : PySem.W.keepIn K (.ref f__law_take) = true)
    (a__law_flag : PySem.W.nsIn K mainGlobals "_law_flag" = some (some (.ref f__law_flag)))
    (l__law_flag : K.lookup f__law_flag = some ⟨oc__law_flag, od__law_flag, .func (PySem.W.fnOf "_law_flag" "_law_flag" (defArgs st__law_flag) (defBody st__law_flag) (defScope st__law_flag) .none kV__law_flag dc__law_flag pm__law_flag an__law_flag cd__law_flag ct__law_flag), sl__law_flag⟩)
    (ci__law_flag : PySem.W.codeIn K cd__law_flag "_law_flag" = true)
    (k__law_flag : PySem.W.keepIn K (.ref f__law_flag) = true)
    (a__law_told : PySem.W.nsIn K mainGlobals "_law_told" = some (some (.ref f__law_told)))
    (l__law_told : K.lookup f__law_told = some ⟨oc__law_told, od__law_told, .func (PySem.W.fnOf "_law_told" "_law_told" (defArgs st__law_told) (defBody st__law_told) (defScope st__law_told) .none kV__law_told dc__law_told pm__law_told an__law_told cd__law_told ct__law_told), sl__law_told⟩)
    (ci__law_told : PySem.W.codeIn K cd__law_told "_law_told" = true)
    (k__law_told : PySem.W.keepIn K (.ref f__law_told) = true)
    (a__law_row : PySem.W.nsIn K mainGlobals "_law_row" = some (some (.ref f__law_row)))
    (l__law_row : K.lookup f__law_row = some ⟨oc__law_row, od__law_row, .func (PySem.W.fnOf "_law_row" "_law_row" (defArgs st__law_row) (defBody st__law_row) (defScope st__law_row) .none kV__law_row dc__law_row pm__law_row an__law_row cd__law_row ct__law_row), sl__law_row⟩)
    (ci__law_row : PySem.W.codeIn K cd__law_row "_law_row" = true)
    (k__law_row : PySem.W.keepIn K (.ref f__law_row) = true)
    (a__law_takes : PySem.W.nsIn K mainGlobals "_law_takes" = some (some (.ref f__law_takes)))
    (l__law_takes : K.lookup f__law_takes = some ⟨oc__law_takes, od__law_takes, .func (PySem.W.fnOf "_law_takes" "_law_takes" (defArgs st__law_takes) (defBody st__law_takes) (defScope st__law_takes) .none kV__law_takes dc__law_takes pm__law_takes an__law_takes cd__law_takes ct__law_takes), sl__law_takes⟩)
    (ci__law_takes : PySem.W.codeIn K cd__law_takes "_law_takes" = true)
    (k__law_takes : PySem.W.keepIn K (.ref f__law_takes) = true)
    (a_law : PySem.W.nsIn K mainGlobals "law" = some (some (.ref f_law)))
    (l_law : K.lookup f_law = some ⟨oc_law, od_law, .func (PySem.W.fnOf "law" "law" (defArgs st_law) (defBody st_law) (defScope st_law) .none kV_law dc_law pm_law an_law cd_law ct_law), sl_law⟩)
    (ci_law : PySem.W.codeIn K cd_law "law" = true)
    (k_law : PySem.W.keepIn K (.ref f_law) = true)
    (z_abs : PySem.W.nsIn K mainGlobals "abs" = some none)
    (z_all : PySem.W.nsIn K mainGlobals "all" = some none)
    (z_any : PySem.W.nsIn K mainGlobals "any" = some none)
    (z_bool : PySem.W.nsIn K mainGlobals "bool" = some none)
    (z_int : PySem.W.nsIn K mainGlobals "int" = some none)
    (z_isinstance : PySem.W.nsIn K mainGlobals "isinstance" = some none)
    (z_len : PySem.W.nsIn K mainGlobals "len" = some none)
    (z_list : PySem.W.nsIn K mainGlobals "list" = some none)
    (z_max : PySem.W.nsIn K mainGlobals "max" = some none)
    (z_range : PySem.W.nsIn K mainGlobals "range" = some none)
    (z_set : PySem.W.nsIn K mainGlobals "set" = some none)
    (z_sorted : PySem.W.nsIn K mainGlobals "sorted" = some none)
    (z_tuple : PySem.W.nsIn K mainGlobals "tuple" = some none)
    (i_LONG : PySem.W.nsIn K mainGlobals "LONG" = some (some (.int 400 t_LONG)))
    (e0_aC : PySem.W.nsIn K mainGlobals "RuleError" = some (some (.ref e0_C)))
    (e0_xL : K.lookup e0_C = some (excClassObj e0_nm e0_q e0_C e0_N e0_bs [.ref Ch, .type "ValueError", .type "Exception", .type "BaseException", .type "object"] true e0_sn e0_sub e0_ab e0_col e0_dd e0_m0 e0_m1 e0_m2 e0_m3 e0_m5 "ValueError.__new__"))
    (e0_sa : PySem.W.findIn K (.ref e0_C) "__setattr__" = some (some (.builtin "object.__setattr__")))
    (e0_ga : PySem.W.findIn K (.ref e0_C) "__getattribute__" = some (some (.builtin "BaseException.__getattribute__")))
    (e0_gg : PySem.W.findIn K (.ref e0_C) "__getattr__" = some none)
    (e0_noc : PySem.W.findIn K (.ref e0_C) "code" = some none)
    (e0_nop : PySem.W.findIn K (.ref e0_C) "place" = some none)
    (e0_iC : PySem.W.findIn K (.ref e0_C) "__init__" = some (some (.ref fI)))
    (e0_kC : PySem.W.keepIn K (.ref e0_C) = true)
    (e0_eC : PySem.W.subIn K (.ref e0_C) (.type "BaseException") = some true)
    (e0_tC : PySem.W.typeIn K (.ref e0_C) = some (.type "type"))
    (e0_hC : PySem.W.hasDictIn K e0_C = true)
    (e0_isC : PySem.W.isClsIn K e0_C = true)
    (e0_sC : PySem.W.subIn K (.ref e0_C) (.ref e0_C) = some true)
    (lI : K.lookup fI = some ⟨ocI, odI, .func (PySem.W.fnOf "__init__" "HallError.__init__" (iAr ⟨4, 17, 4, 21⟩ ⟨4, 23, 4, 27⟩ ⟨4, 29, 4, 34⟩ ⟨4, 35, 4, 36⟩) (iBd ⟨5, 8, 5, 12⟩ ⟨5, 8, 5, 17⟩ ⟨5, 20, 5, 24⟩ ⟨5, 8, 5, 24⟩ ⟨6, 8, 6, 12⟩ ⟨6, 8, 6, 18⟩ ⟨6, 21, 6, 26⟩ ⟨6, 8, 6, 26⟩) iSc (.ref Td) kVI dcI pmI anI cdI ctI), slI⟩)
    (cI : PySem.W.codeIn K cdI "HallError.__init__" = true)
    (tI : PySem.W.typeIn K (.ref fI) = some (.type "function"))
    (kI : PySem.W.keepIn K (.ref fI) = true)
    (lT : K.lookup Td = some oT)
    (dT : oT.data = .seq #[.int 0 tkT] nT)
    (hm : ∀ ns : List Int, ns.length ≤ 63 → ∃ s, T_law [.obj 0] [.fls (ns.map .int)] = .ok (.bl true) s) :
    ∃ fd : FuncData, (∀ (s : Shared) (v : Value), BindsTo s fd ⟨[v], []⟩ [("script", v)]) ∧ ∀ base : Heap, K.In base → base.Ns mainGlobals mg → FnOk l.prog w K mg base (L2.CX l.prog w) 7 fa fd ["script"] (spLaw K) := by
  have e := hfa.symm.trans (PySem.W.mg_of X G a_law)
  cases e
  have F_least_missing := fun_mk (st := st_least_missing) l_least_missing ci_least_missing k_least_missing
  have F_check_takes := fun_mk (st := st_check_takes) l_check_takes ci_check_takes k_check_takes
  have F_taking_row := fun_mk (st := st_taking_row) l_taking_row ci_taking_row k_taking_row
  have F__shortened := fun_mk (st := st__shortened) l__shortened ci__shortened k__shortened
  have F_taking_period := fun_mk (st := st_taking_period) l_taking_period ci_taking_period k_taking_period
  have F_takes_period := fun_mk (st := st_takes_period) l_takes_period ci_takes_period k_takes_period
  have F__law_begin := fun_mk (st := st__law_begin) l__law_begin ci__law_begin k__law_begin
  have F__law_take := fun_mk (st := st__law_take) l__law_take ci__law_take k__law_take
  have F__law_flag := fun_mk (st := st__law_flag) l__law_flag ci__law_flag k__law_flag
  have F__law_told := fun_mk (st := st__law_told) l__law_told ci__law_told k__law_told
  have F__law_row := fun_mk (st := st__law_row) l__law_row ci__law_row k__law_row
  have F__law_takes := fun_mk (st := st__law_takes) l__law_takes ci__law_takes k__law_takes
  have F_law := fun_mk (st := st_law) l_law ci_law k_law
  refine ⟨PySem.W.fnOf "law" "law" (defArgs st_law) (defBody st_law) (defScope st_law) .none kV_law dc_law pm_law an_law cd_law ct_law, fun s v => .of_eq rfl, fun base _ _ => ?_⟩
  let T : Nat → Addr := fun c => [e0_C].getD c 0
  have B : Bn l.prog w K mg base T := { m_abs := PySem.W.mg_none_of X G z_abs, m_all := PySem.W.mg_none_of X G z_all, m_any := PySem.W.mg_none_of X G z_any, m_bool := PySem.W.mg_none_of X G z_bool, m_int := PySem.W.mg_none_of X G z_int, m_isinstance := PySem.W.mg_none_of X G z_isinstance, m_len := PySem.W.mg_none_of X G z_len, m_list := PySem.W.mg_none_of X G z_list, m_max := PySem.W.mg_none_of X G z_max, m_range := PySem.W.mg_none_of X G z_range, m_set := PySem.W.mg_none_of X G z_set, m_sorted := PySem.W.mg_none_of X G z_sorted, m_tuple := PySem.W.mg_none_of X G z_tuple, c_LONG := ⟨_, PySem.W.mg_of X G i_LONG⟩, x_RuleError := exn_mk X G rfl e0_aC e0_xL rfl e0_sa e0_ga e0_gg e0_noc e0_nop e0_iC tI kI lI cI lT dT e0_kC e0_eC e0_tC e0_hC e0_isC e0_sC }
  have C_least_missing := c_least_missing B  F_least_missing (PySem.W.mg_of X G a_least_missing)
  have C_check_takes := c_check_takes B  F_check_takes (PySem.W.mg_of X G a_check_takes)
  have C_taking_row := c_taking_row B C_check_takes C_least_missing F_taking_row (PySem.W.mg_of X G a_taking_row)
  have C__shortened := c__shortened B  F__shortened (PySem.W.mg_of X G a__shortened)
  have C_taking_period := c_taking_period B C_check_takes C__shortened C_least_missing F_taking_period (PySem.W.mg_of X G a_taking_period)
  have C_takes_period := c_takes_period B C_check_takes C_taking_row F_takes_period (PySem.W.mg_of X G a_takes_period)
  have C__law_begin := c__law_begin B  F__law_begin (PySem.W.mg_of X G a__law_begin)
  have C__law_take := c__law_take B  F__law_take (PySem.W.mg_of X G a__law_take)
  have C__law_flag := c__law_flag B  F__law_flag (PySem.W.mg_of X G a__law_flag)
  have C__law_told := c__law_told B C_taking_row C_taking_period C_takes_period C__law_flag F__law_told (PySem.W.mg_of X G a__law_told)
  have C__law_row := c__law_row B  F__law_row (PySem.W.mg_of X G a__law_row)
  have C__law_takes := c__law_takes B C__law_take F__law_takes (PySem.W.mg_of X G a__law_takes)
  exact (d_law B C__law_begin C__law_takes C__law_row C__law_take C__law_told F_law).law hm
end K11
open PySem PySem.W PyProof.Rows
set_option maxHeartbeats 0 in
theorem PySem.Challenge.cw_playvalues_k11_heaps_and_their_periods_holds : PySem.Challenge.rw_playvalues_k11_heaps_and_their_periods.Holds := by
  w_on; o_law; k_head; (case hw => w_witness2)
  k_fill
  refine L2.walk_of (l := PySem.Challenge.rw_playvalues_k11_heaps_and_their_periods) (n := 63) (k := 7) (x := "script") (CX := fun w => L2.CX (PySem.Challenge.rw_playvalues_k11_heaps_and_their_periods).prog w) (sp := fun w => Gv.spLaw _) rfl (by decide) rfl ⟨rfl, by decide, by decide⟩ (fun w h Y => PySem.W.kIn_of Y) ?F (fun _ _ a ns hl hO hS => ⟨a, ns, rfl, hl, Gv.sqF_of hO hS, fun _ => rfl⟩) ?X
  case F =>
    intro w mg fa h KX G hmg
    refine' K11.all_mk KX G hmg ?a_least_missing ?l_least_missing ?ci_least_missing ?k_least_missing ?a_check_takes ?l_check_takes ?ci_check_takes ?k_check_takes ?a_taking_row ?l_taking_row ?ci_taking_row ?k_taking_row ?a__shortened ?l__shortened ?ci__shortened ?k__shortened ?a_taking_period ?l_taking_period ?ci_taking_period ?k_taking_period ?a_takes_period ?l_takes_period ?ci_takes_period ?k_takes_period ?a__law_begin ?l__law_begin ?ci__law_begin ?k__law_begin ?a__law_take ?l__law_take ?ci__law_take ?k__law_take ?a__law_flag ?l__law_flag ?ci__law_flag ?k__law_flag ?a__law_told ?l__law_told ?ci__law_told ?k__law_told ?a__law_row ?l__law_row ?ci__law_row ?k__law_row ?a__law_takes ?l__law_takes ?ci__law_takes ?k__law_takes ?a_law ?l_law ?ci_law ?k_law ?z_abs ?z_all ?z_any ?z_bool ?z_int ?z_isinstance ?z_len ?z_list ?z_max ?z_range ?z_set ?z_sorted ?z_tuple ?i_LONG ?e0_aC ?e0_xL ?e0_sa ?e0_ga ?e0_gg ?e0_noc ?e0_nop ?e0_iC ?e0_kC ?e0_eC ?e0_tC ?e0_hC ?e0_isC ?e0_sC ?lI ?cI ?tI ?kI ?lT ?dT K11.law_ok
    (case a_least_missing => k_is)
    (case l_least_missing => k_is)
    (case ci_least_missing => k_is)
    (case k_least_missing => k_is)
    (case a_check_takes => k_is)
    (case l_check_takes => k_is)
    (case ci_check_takes => k_is)
    (case k_check_takes => k_is)
    (case a_taking_row => k_is)
    (case l_taking_row => k_is)
    (case ci_taking_row => k_is)
    (case k_taking_row => k_is)
    (case a__shortened => k_is)
    (case l__shortened => k_is)
    (case ci__shortened => k_is)
    (case k__shortened => k_is)
    (case a_taking_period => k_is)
    (case l_taking_period => k_is)
    (case ci_taking_period => k_is)
    (case k_taking_period => k_is)
    (case a_takes_period => k_is)
    (case l_takes_period => k_is)
    (case ci_takes_period => k_is)
    (case k_takes_period => k_is)
    (case a__law_begin => k_is)
    (case l__law_begin => k_is)
    (case ci__law_begin => k_is)
    (case k__law_begin => k_is)
    (case a__law_take => k_is)
    (case l__law_take => k_is)
    (case ci__law_take => k_is)
    (case k__law_take => k_is)
    (case a__law_flag => k_is)
    (case l__law_flag => k_is)
    (case ci__law_flag => k_is)
    (case k__law_flag => k_is)
    (case a__law_told => k_is)
    (case l__law_told => k_is)
    (case ci__law_told => k_is)
    (case k__law_told => k_is)
    (case a__law_row => k_is)
    (case l__law_row => k_is)
    (case ci__law_row => k_is)
    (case k__law_row => k_is)
    (case a__law_takes => k_is)
    (case l__law_takes => k_is)
    (case ci__law_takes => k_is)
    (case k__law_takes => k_is)
    (case a_law => k_is)
    (case l_law => k_is)
    (case ci_law => k_is)
    (case k_law => k_is)
    (case z_abs => k_is)
    (case z_all => k_is)
    (case z_any => k_is)
    (case z_bool => k_is)
    (case z_int => k_is)
    (case z_isinstance => k_is)
    (case z_len => k_is)
    (case z_list => k_is)
    (case z_max => k_is)
    (case z_range => k_is)
    (case z_set => k_is)
    (case z_sorted => k_is)
    (case z_tuple => k_is)
    (case i_LONG => k_is)
    (case e0_aC => k_is)
    (case e0_xL => k_is)
    (case e0_sa => k_is)
    (case e0_ga => k_is)
    (case e0_gg => k_is)
    (case e0_noc => k_is)
    (case e0_nop => k_is)
    (case e0_iC => k_is)
    (case e0_kC => k_is)
    (case e0_eC => k_is)
    (case e0_tC => k_is)
    (case e0_hC => k_is)
    (case e0_isC => k_is)
    (case e0_sC => first | rfl | k_is)
    (case lI => k_is)
    (case cI => k_is)
    (case tI => k_is)
    (case kI => k_is)
    (case lT => k_is)
    (case dT => rfl)
  case X =>
    intro w H s e s' h
    obtain ⟨_, _, _, _, _, _, _, _, _, _, _, _, z⟩ := h
    exact z
