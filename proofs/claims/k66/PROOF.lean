import PyProof.Rows.All
import HandS.Base
import HandS.Call
import HandS.List
import HandS.Comp
import HandS.Dict
import HandS.Iter
import HandS.Words
import HandS.WordsList
import HandS.WordsDict
import HandS.Exc
import HandS.ExcInit
import HandS.ExcField
import HandS.ExcOwn
import HandS.TryOnly
import HandS.CallSlots
import HandS.WordsExc
import HandS.Deep
import HandS.TupAny
import HandS.TupMul
import HandS.TupLe
import HandS.Defaults
import HandS.Style
import KE.GoesEnum
import KE.DataMinMax
import HandS.IsInst
import HandS.Zip
import KE.SortData
import HandS.Ends
import HandS.Text
import PySem.Challenge.RW_playvalues_k66_whole_lexicodes_as_lost_c
set_option Elab.async false
set_option linter.all false
set_option maxRecDepth 100000
set_option maxHeartbeats 8000000
namespace Gv
open PySem PySem.Spec L2

/-! ### values, stores, results -/
inductive D where
  | non | bl (b : Bool) | int (i : Int) | str (x : Str) | tup (xs : List D) | obj (i : Nat)
inductive Ob where
  | lst (xs : List D) | fls (xs : List D) | dK (kvs : List (Key × D)) | dT (kvs : List (List Key × D))
def Ob.mu : Ob → Prop
  | .fls _ => False
  | _ => True
abbrev Sto := List Ob
abbrev En := List (Option D)
structure Ex where
  cls : Nat
  code : D
  place : D
inductive Re (α : Type) where
  | ok (a : α) (s : Sto) | er (e : Ex) (s : Sto) | no
def Re.bind {α β : Type} (r : Re α) (f : α → Sto → Re β) : Re β := match r with
  | .ok a s => f a s
  | .er e s => .er e s
  | .no => .no
@[simp] theorem Re.bind_ok {α β : Type} (a : α) (s : Sto) (f : α → Sto → Re β) : (Re.ok a s).bind f = f a s := rfl
@[simp] theorem Re.bind_er {α β : Type} (e : Ex) (s : Sto) (f : α → Sto → Re β) : (Re.er e s : Re α).bind f = .er e s := rfl
@[simp] theorem Re.bind_no {α β : Type} (f : α → Sto → Re β) : (Re.no : Re α).bind f = .no := rfl
abbrev ED := En → Sto → Re D
abbrev AD := En → Sto → Re (List D)
abbrev BD := En → Sto → Re Bool
inductive Rs where
  | nx (e : En) (s : Sto) | rt (d : D) (s : Sto) | bk (e : En) (s : Sto) | ct (e : En) (s : Sto) | er (x : Ex) (e : En) (s : Sto) | no
abbrev SD := En → Sto → Rs

/-! ### what stands for what -/
mutual
inductive RV (K : PySem.W.Frag) (as : List Addr) (H : Hp) : V → D → Prop
  | non : RV K as H .non .non
  | bl (b : Bool) : RV K as H (.bl b) (.bl b)
  | int (i : Int) : RV K as H (.int i) (.int i)
  | str (x : Str) : RV K as H (.str x) (.str x)
  | tup {a : Addr} {xs : List V} {ds : List D} : H a = some (.tup xs) → RVs K as H xs ds → RV K as H (.ref a) (.tup ds)
  | obj {a : Addr} {i : Nat} : as[i]? = some a → RV K as H (.ref a) (.obj i)
inductive RVs (K : PySem.W.Frag) (as : List Addr) (H : Hp) : List V → List D → Prop
  | nil : RVs K as H [] []
  | cons {v : V} {vs : List V} {d : D} {ds : List D} : RV K as H v d → RVs K as H vs ds → RVs K as H (v :: vs) (d :: ds)
end
def RKs {κ : Type} (K : PySem.W.Frag) (as : List Addr) (H : Hp) (xs : List (κ × V)) (ys : List (κ × D)) : Prop := Paired (fun p q => p.1 = q.1 ∧ RV K as H p.2 q.2) xs ys
/-- a list that is only read -/
def SqF (K : PySem.W.Frag) (H : Hp) (a : Addr) (xs : List V) : Prop := (∃ o, H a = some (.frz o (.lst xs))) ∨ SqL K (fun _ => none) a xs
theorem SqF.sq {K : PySem.W.Frag} {H : Hp} {a : Addr} {xs : List V} (h : SqF K H a xs) : SqL K H a xs := by
  rcases h with ⟨o, h⟩ | (h | ⟨o, h⟩) | h
  · exact .inl (.inr ⟨o, h⟩)
  · cases h
  · cases h
  · exact .inr h
def RO (K : PySem.W.Frag) (as : List Addr) (H : Hp) (a : Addr) : Ob → Prop
  | .lst ds => ∃ xs, H a = some (.lst xs) ∧ RVs K as H xs ds
  | .fls ds => ∃ xs, SqF K H a xs ∧ RVs K as H xs ds
  | .dK kvs => ∃ ks, H a = some (.dK ks) ∧ RKs K as H ks kvs
  | .dT kvs => ∃ ks, H a = some (.dT ks) ∧ RKs K as H ks kvs
structure RS (K : PySem.W.Frag) (as : List Addr) (H : Hp) (st : Sto) : Prop where
  len : as.length = st.length
  inj : ∀ (i j : Nat) (a : Addr) (o u : Ob), as[i]? = some a → as[j]? = some a → st[i]? = some o → st[j]? = some u → o.mu → u.mu → i = j
  ob : ∀ (i : Nat) (o : Ob), st[i]? = some o → ∃ a, as[i]? = some a ∧ RO K as H a o
structure RE (K : PySem.W.Frag) (as : List Addr) (H : Hp) (σ : St) (en : En) : Prop where
  len : σ.length = en.length
  at' : ∀ (i : Nat) (d : D), en[i]? = some (some d) → ∃ v, σ[i]? = some (some v) ∧ RV K as H v d
/-- a step of the world: more objects, tuples stay -/
structure Stp (as : List Addr) (H : Hp) (as' : List Addr) (H' : Hp) : Prop where
  pre : ∃ e, as' = as ++ e ∧ ∀ a ∈ e, H a = none
  tup : ∀ b xs, H b = some (.tup xs) → H' b = some (.tup xs)
  fr : ∀ b o, b ∉ as → H b = some o → H' b = some o
  lv : ∀ b o, H b = some o → ∃ o', H' b = some o'

section
variable {K : PySem.W.Frag} {as as' as'' : List Addr} {H H' H'' : Hp} {st : Sto} {σ : St} {en : En}
theorem Stp.refl : Stp as H as H := ⟨⟨[], (List.append_nil _).symm, fun _ h => nomatch h⟩, fun _ _ h => h, fun _ _ _ h => h, fun _ o h => ⟨o, h⟩⟩
theorem Stp.trans (a : Stp as H as' H') (b : Stp as' H' as'' H'') : Stp as H as'' H'' := by
  obtain ⟨⟨e, rfl, n⟩, t, f, l⟩ := a
  obtain ⟨⟨e', rfl, n'⟩, t', f', l'⟩ := b
  refine ⟨⟨e ++ e', by rw [List.append_assoc], fun a h => ?_⟩, fun c xs h => t' c xs (t c xs h), fun b o hb h => f' b o (fun hm => ?_) (f b o hb h), fun b o h => let ⟨_, h1⟩ := l b o h; l' b _ h1⟩
  · rcases List.mem_append.mp h with h | h
    · exact n a h
    · cases ho : H a with
      | none => rfl
      | some o =>
        obtain ⟨o', h1⟩ := l a o ho
        rw [n' a h] at h1
        cases h1
  · rcases List.mem_append.mp hm with hm | hm
    · exact hb hm
    · rw [n b hm] at h
      cases h
theorem Stp.get (a : Stp as H as' H') {i : Nat} {c : Addr} (h : as[i]? = some c) : as'[i]? = some c := by
  obtain ⟨⟨e, rfl, _⟩, _⟩ := a
  have := (List.getElem?_eq_some_iff.mp h).1
  rw [List.getElem?_append_left this]
  exact h
mutual
theorem RV.mono (s : Stp as H as' H') : ∀ {d : D} {v : V}, RV K as H v d → RV K as' H' v d
  | .non, _, .non => .non
  | .bl _, _, .bl b => .bl b
  | .int _, _, .int i => .int i
  | .str _, _, .str x => .str x
  | .tup _, _, .tup h r => .tup (s.tup _ _ h) (RVs.mono s r)
  | .obj _, _, .obj h => .obj (s.get h)
theorem RVs.mono (s : Stp as H as' H') : ∀ {ds : List D} {vs : List V}, RVs K as H vs ds → RVs K as' H' vs ds
  | [], _, .nil => .nil
  | _ :: _, _, .cons h r => .cons (RV.mono s h) (RVs.mono s r)
end
theorem RKs.mono {κ : Type} (s : Stp as H as' H') {xs : List (κ × V)} {ys : List (κ × D)} (r : RKs K as H xs ys) : RKs K as' H' xs ys := Paired.mapP r fun p q z => ⟨z.1, z.2.mono s⟩
theorem RE.mono (s : Stp as H as' H') (r : RE K as H σ en) : RE K as' H' σ en := ⟨r.len, fun i d h => let ⟨v, e, q⟩ := r.at' i d h; ⟨v, e, q.mono s⟩⟩
theorem RVs.length : ∀ {vs : List V} {ds : List D}, RVs K as H vs ds → vs.length = ds.length
  | _, _, .nil => rfl
  | _, _, .cons _ r => by rw [List.length_cons, List.length_cons, RVs.length r]
theorem RVs.get : ∀ {vs : List V} {ds : List D} {i : Nat} {d : D}, RVs K as H vs ds → ds[i]? = some d → ∃ v, vs[i]? = some v ∧ RV K as H v d
  | _, _, _, _, .nil, e => by simp at e
  | _, _, 0, _, .cons h _, e => by simp at e; subst e; exact ⟨_, rfl, h⟩
  | _, _, i + 1, d, .cons _ r, e => by
    obtain ⟨v, h1, h2⟩ := RVs.get (i := i) (d := d) r (by simpa using e)
    exact ⟨v, by simpa using h1, h2⟩
theorem RVs.append : ∀ {vs ws : List V} {ds es : List D}, RVs K as H vs ds → RVs K as H ws es → RVs K as H (vs ++ ws) (ds ++ es)
  | _, _, _, _, .nil, s => s
  | _, _, _, _, .cons h r, s => .cons h (RVs.append r s)
theorem RVs.set {v : V} {d : D} (h : RV K as H v d) : ∀ {vs : List V} {ds : List D} (i : Nat), RVs K as H vs ds → RVs K as H (vs.set i v) (ds.set i d)
  | _, _, _, .nil => .nil
  | _, _, 0, .cons _ r => .cons h r
  | _, _, i + 1, .cons q r => .cons q (RVs.set h i r)
theorem RVs.take : ∀ {vs : List V} {ds : List D} (n : Nat), RVs K as H vs ds → RVs K as H (vs.take n) (ds.take n)
  | _, _, 0, _ => .nil
  | _, _, _ + 1, .nil => .nil
  | _, _, n + 1, .cons h r => .cons h (RVs.take n r)
theorem RVs.drop : ∀ {vs : List V} {ds : List D} (n : Nat), RVs K as H vs ds → RVs K as H (vs.drop n) (ds.drop n)
  | _, _, 0, r => r
  | _, _, _ + 1, .nil => .nil
  | _, _, n + 1, .cons _ r => RVs.drop n r
theorem RVs.dropLast {vs : List V} {ds : List D} (r : RVs K as H vs ds) : RVs K as H vs.dropLast ds.dropLast := by
  rw [List.dropLast_eq_take, List.dropLast_eq_take, r.length]
  exact r.take _

/-! ### the heap's steps -/
theorem tup_alloc {p : Addr} {o : HO} (hp : H p = none) {b : Addr} {xs : List V} (h : H b = some (.tup xs)) : upd H p o b = some (.tup xs) := by rw [upd_ne (ne_of_none h hp)]; exact h
/-- what a store may overwrite -/
def Wr : HO → Prop
  | .lst _ => True
  | .dK _ => True
  | .dT _ => True
  | _ => False
theorem tup_write {p : Addr} {o u : HO} (hp : H p = some u) (hw : Wr u) {b : Addr} {xs : List V} (h : H b = some (.tup xs)) : upd H p o b = some (.tup xs) := by
  rw [upd_ne (fun q => by subst q; rw [hp] at h; cases h; exact hw)]
  exact h
theorem Stp.alloc {p : Addr} {o : HO} (hp : H p = none) : Stp as H (as ++ [p]) (upd H p o) := ⟨⟨[p], rfl, fun a h => by rw [List.mem_singleton.mp h]; exact hp⟩, fun _ _ h => tup_alloc hp h, fun b u _ h => by rw [upd_ne (ne_of_none h hp)]; exact h, fun b u h => ⟨u, by rw [upd_ne (ne_of_none h hp)]; exact h⟩⟩
theorem Stp.new {p : Addr} {o : HO} (hp : H p = none) : Stp as H as (upd H p o) := ⟨⟨[], (List.append_nil _).symm, fun _ h => nomatch h⟩, fun _ _ h => tup_alloc hp h, fun b u _ h => by rw [upd_ne (ne_of_none h hp)]; exact h, fun b u h => ⟨u, by rw [upd_ne (ne_of_none h hp)]; exact h⟩⟩
theorem Stp.write {p : Addr} {o u : HO} {i : Nat} (hi : as[i]? = some p) (hp : H p = some u) (hw : Wr u) : Stp as H as (upd H p o) := ⟨⟨[], (List.append_nil _).symm, fun _ h => nomatch h⟩, fun _ _ h => tup_write hp hw h,
  fun b v hb h => by rw [upd_ne (fun z => hb (by rw [z]; exact List.mem_of_getElem? hi))]; exact h, fun b v h => by
    by_cases z : b = p
    · subst z; exact ⟨o, upd_same⟩
    · exact ⟨v, by rw [upd_ne z]; exact h⟩⟩
/-- the object at b keeps what it is, when p is written or laid -/
theorem RO.keep {p b : Addr} {o : HO} {x : Ob} (s : Stp as H as' (upd H p o)) (hb : x.mu → b ≠ p) (hn : ∀ u, H p = some u → Wr u) (h : RO K as H b x) : RO K as' (upd H p o) b x := by
  cases x with
  | lst ds =>
    obtain ⟨xs, e, r⟩ := h
    exact ⟨xs, by rw [upd_ne (hb trivial)]; exact e, r.mono s⟩
  | dK ds =>
    obtain ⟨xs, e, r⟩ := h
    exact ⟨xs, by rw [upd_ne (hb trivial)]; exact e, r.mono s⟩
  | dT ds =>
    obtain ⟨xs, e, r⟩ := h
    exact ⟨xs, by rw [upd_ne (hb trivial)]; exact e, r.mono s⟩
  | fls ds =>
    obtain ⟨xs, e, r⟩ := h
    refine ⟨xs, ?_, r.mono s⟩
    rcases e with ⟨u, h⟩ | h
    · exact .inl ⟨u, by rw [upd_ne (fun q => by subst q; exact hn _ h)]; exact h⟩
    · exact .inr h
theorem RO.ex {a : Addr} {x : Ob} (h : RO K as H a x) (m : x.mu) : ∃ u, H a = some u ∧ Wr u := by
  cases x with
  | lst ds => obtain ⟨xs, e, _⟩ := h; exact ⟨_, e, trivial⟩
  | dK ds => obtain ⟨xs, e, _⟩ := h; exact ⟨_, e, trivial⟩
  | dT ds => obtain ⟨xs, e, _⟩ := h; exact ⟨_, e, trivial⟩
  | fls ds => exact m.elim
/-- a new object -/
theorem RS.alloc {p : Addr} {o : HO} {x : Ob} (r : RS K as H st) (hp : H p = none) (hx : RO K (as ++ [p]) (upd H p o) p x) : RS K (as ++ [p]) (upd H p o) (st ++ [x]) := by
  have hl := r.len
  refine ⟨by rw [List.length_append, List.length_append, hl] <;> rfl, fun i j a u v h1 h2 h3 h4 m1 m2 => ?_, fun i u h => ?_⟩
  · have key : ∀ {i : Nat} {a : Addr} {u : Ob}, (as ++ [p])[i]? = some a → (st ++ [x])[i]? = some u → u.mu → (i < as.length ∧ as[i]? = some a ∧ st[i]? = some u ∧ a ≠ p) ∨ (i = as.length ∧ a = p) := fun {i a u} h1 h2 m => by
      by_cases hi : i < as.length
      · rw [List.getElem?_append_left hi] at h1
        rw [List.getElem?_append_left (by omega)] at h2
        obtain ⟨c, e, ro⟩ := r.ob i u h2
        rw [h1] at e
        cases e
        obtain ⟨w, e, _⟩ := ro.ex m
        exact .inl ⟨hi, h1, h2, ne_of_none e hp⟩
      · rw [List.getElem?_append_right (by omega)] at h1
        obtain ⟨h3, h4⟩ := List.getElem?_eq_some_iff.mp h1
        have h5 : i - as.length = 0 := by simp at h3; omega
        simp [h5] at h4
        exact .inr ⟨by omega, h4.symm⟩
    rcases key h1 h3 m1 with ⟨a1, a2, a3, a4⟩ | ⟨a1, a2⟩ <;> rcases key h2 h4 m2 with ⟨b1, b2, b3, b4⟩ | ⟨b1, b2⟩
    · exact r.inj i j a u v a2 b2 a3 b3 m1 m2
    · exact absurd b2 a4
    · exact absurd a2 b4
    · omega
  · by_cases hi : i < st.length
    · rw [List.getElem?_append_left hi] at h
      obtain ⟨a, e, ro⟩ := r.ob i u h
      refine ⟨a, by rw [List.getElem?_append_left (by omega)]; exact e, ro.keep (Stp.alloc hp) (fun m => ?_) fun w e => by rw [hp] at e; cases e⟩
      obtain ⟨w, e, _⟩ := ro.ex m
      exact ne_of_none e hp
    · rw [List.getElem?_append_right (by omega)] at h
      obtain ⟨h3, h4⟩ := List.getElem?_eq_some_iff.mp h
      have h5 : i - st.length = 0 := by simp at h3; omega
      simp [h5] at h4
      subst h4
      exact ⟨p, by rw [List.getElem?_append_right (by omega), show i - as.length = 0 by omega]; rfl, hx⟩
/-- a tuple, or a thing of no one's, is laid -/
theorem RS.new {p : Addr} {o : HO} (r : RS K as H st) (hp : H p = none) : RS K as (upd H p o) st :=
  ⟨r.len, r.inj, fun i u h => by
    obtain ⟨a, e, ro⟩ := r.ob i u h
    refine ⟨a, e, ro.keep (Stp.new hp) (fun m => ?_) fun w e => by rw [hp] at e; cases e⟩
    obtain ⟨w, e, _⟩ := ro.ex m
    exact ne_of_none e hp⟩
/-- an object is written -/
theorem RS.write {p : Addr} {o : HO} {i : Nat} {x y : Ob} (r : RS K as H st) (hi : as[i]? = some p) (hx : st[i]? = some x) (mx : x.mu) (my : y.mu) (hy : RO K as (upd H p o) p y) : RS K as (upd H p o) (st.set i y) := by
  obtain ⟨a, e, ro⟩ := r.ob i x hx
  rw [hi] at e
  cases e
  obtain ⟨u, hu, wu⟩ := ro.ex mx
  have hlt := (List.getElem?_eq_some_iff.mp hx).1
  have mu : ∀ {j : Nat} {v : Ob}, (st.set i y)[j]? = some v → v.mu → ∃ v', st[j]? = some v' ∧ v'.mu := fun {j v} h m => by
    by_cases hj : i = j
    · subst hj
      exact ⟨x, hx, mx⟩
    · rw [List.getElem?_set_ne hj] at h
      exact ⟨v, h, m⟩
  refine ⟨by rw [List.length_set]; exact r.len, fun j k a v w h1 h2 h3 h4 m1 m2 => ?_, fun j v h => ?_⟩
  · obtain ⟨v', e1, n1⟩ := mu h3 m1
    obtain ⟨w', e2, n2⟩ := mu h4 m2
    exact r.inj j k a v' w' h1 h2 e1 e2 n1 n2
  · by_cases hj : i = j
    · subst hj
      rw [List.getElem?_set_self hlt] at h
      cases h
      exact ⟨p, hi, hy⟩
    · rw [List.getElem?_set_ne hj] at h
      obtain ⟨a, e, rv⟩ := r.ob j v h
      refine ⟨a, e, rv.keep (Stp.write hi hu wu) (fun m z => ?_) fun w e => by rw [hu] at e; cases e; exact wu⟩
      subst z
      exact hj (r.inj i j a x v hi e hx h mx m)
theorem RS.at' (r : RS K as H st) {i : Nat} {a : Addr} {o : Ob} (h : as[i]? = some a) (e : st[i]? = some o) : RO K as H a o := by
  obtain ⟨b, e', ro⟩ := r.ob i o e
  rw [h] at e'
  cases e'
  exact ro
theorem RS.obj (r : RS K as H st) {v : V} {i : Nat} {o : Ob} (h : RV K as H v (.obj i)) (e : st[i]? = some o) : ∃ a, v = .ref a ∧ as[i]? = some a ∧ RO K as H a o := by
  cases h with
  | obj h => exact ⟨_, rfl, h, r.at' h e⟩
/-- a list read -/
def Ob.seq : Ob → Option (List D)
  | .lst xs => some xs
  | .fls xs => some xs
  | _ => none
theorem RO.seq {a : Addr} {o : Ob} {ds : List D} (h : RO K as H a o) (e : o.seq = some ds) : ∃ xs, SqL K H a xs ∧ RVs K as H xs ds := by
  cases o with
  | lst xs => cases e; obtain ⟨xs, e, r⟩ := h; exact ⟨xs, SqL.of e, r⟩
  | fls xs => cases e; obtain ⟨xs, e, r⟩ := h; exact ⟨xs, e.sq, r⟩
  | dK _ => cases e
  | dT _ => cases e
theorem RE.set (r : RE K as H σ en) {i : Nat} {v : V} {d : D} (h : RV K as H v d) : RE K as H (σ.set i (some v)) (en.set i (some d)) := by
  refine ⟨by rw [List.length_set, List.length_set]; exact r.len, fun j e q => ?_⟩
  by_cases hj : i = j
  · subst hj
    have hl : i < en.length := by
      have := (List.getElem?_eq_some_iff.mp q).1
      rw [List.length_set] at this
      exact this
    rw [List.getElem?_set_self hl] at q
    cases q
    exact ⟨v, List.getElem?_set_self (by rw [r.len]; exact hl), h⟩
  · rw [List.getElem?_set_ne hj] at q
    obtain ⟨w, e1, e2⟩ := r.at' j e q
    exact ⟨w, by rw [List.getElem?_set_ne hj]; exact e1, e2⟩
theorem RE.unset (r : RE K as H σ en) {i : Nat} : RE K as H (σ.set i none) (en.set i none) := by
  refine ⟨by rw [List.length_set, List.length_set]; exact r.len, fun j e q => ?_⟩
  by_cases hj : i = j
  · subst hj
    have hl : i < en.length := by
      have := (List.getElem?_eq_some_iff.mp q).1
      rw [List.length_set] at this
      exact this
    rw [List.getElem?_set_self hl] at q
    cases q
  · rw [List.getElem?_set_ne hj] at q
    obtain ⟨w, e1, e2⟩ := r.at' j e q
    exact ⟨w, by rw [List.getElem?_set_ne hj]; exact e1, e2⟩
end
end Gv
namespace Gv
open PySem PySem.Spec L2

/-! ### what is wanted behind a part -/
structure RX (K : PySem.W.Frag) (T : Nat → Addr) (as : List Addr) (H : Hp) (cls : Value) (dx : Option Addr) (e : Ex) : Prop where
  cls : cls = .ref (T e.cls)
  fld : ∃ d vc vp, dx = some d ∧ H d = some (.xd [("place", vp), ("code", vc)]) ∧ RV K as H vc e.code ∧ RV K as H vp e.place
section
variable (K : PySem.W.Frag) (T : Nat → Addr)
def Post {α β : Type} (rel : List Addr → Hp → β → α → Prop) (W : WX) (σ : L2.St) (as : List Addr) (H : Hp) (r : Re α) (Q : β → Hp → Prop) : Prop :=
  match r with
  | .ok x s => ∀ v H' as', Stp as H as' H' → RS K as' H' s → rel as' H' v x → Q v H'
  | .er e s => ∀ cls dx H' as', Stp as H as' H' → RS K as' H' s → RX K T as' H' cls dx e → W cls dx σ H'
  | .no => False
def PostS (W : WX) (as : List Addr) (H : Hp) (r : Rs) (D : Ends) : Prop :=
  match r with
  | .nx en s => ∀ σ' H' as', Stp as H as' H' → RS K as' H' s → RE K as' H' σ' en → D.nx σ' H'
  | .rt d s => ∀ v H' as', Stp as H as' H' → RS K as' H' s → RV K as' H' v d → D.rt v H'
  | .bk en s => ∀ σ' H' as', Stp as H as' H' → RS K as' H' s → RE K as' H' σ' en → D.bk σ' H'
  | .ct en s => ∀ σ' H' as', Stp as H as' H' → RS K as' H' s → RE K as' H' σ' en → D.ct σ' H'
  | .er e en s => ∀ cls dx σ' H' as', Stp as H as' H' → RS K as' H' s → RE K as' H' σ' en → RX K T as' H' cls dx e → W cls dx σ' H'
  | .no => False
def relB (_ : List Addr) (_ : Hp) (b c : Bool) : Prop := b = c
def tE (W : WX) (d : ED) : TE := fun σ H Q => ∃ en st as, RS K as H st ∧ RE K as H σ en ∧ Post K T (RV K) W σ as H (d en st) Q
def tA (W : WX) (d : AD) : TA := fun σ H Q => ∃ en st as, RS K as H st ∧ RE K as H σ en ∧ Post K T (RVs K) W σ as H (d en st) Q
def tT (W : WX) (d : BD) : TT := fun σ H Q => ∃ en st as, RS K as H st ∧ RE K as H σ en ∧ Post K T relB W σ as H (d en st) Q
def tS (W : WX) (d : SD) : TS := fun D σ H => ∃ en st as, RS K as H st ∧ RE K as H σ en ∧ PostS K T W as H (d en st) D
/-- values in, a value out -/
abbrev Vr := Option (D × Sto)
def Vr.re : Vr → Re D
  | some (x, s) => .ok x s
  | none => .no
@[simp] theorem Vr.re_some (x : D) (s : Sto) : Vr.re (some (x, s)) = .ok x s := rfl
@[simp] theorem Vr.re_none : Vr.re none = .no := rfl
def PostV (as : List Addr) (H : Hp) (r : Vr) (Q : VK) : Prop :=
  match r with
  | some (x, s) => ∀ v H' as', Stp as H as' H' → RS K as' H' s → RV K as' H' v x → Q v H'
  | none => False
abbrev F2 := D → D → Sto → Vr
abbrev FN := List D → Sto → Vr
def rOf (f : F2) : R2 := fun x y H Q => ∃ as st dx dy, RS K as H st ∧ RV K as H x dx ∧ RV K as H y dy ∧ PostV K as H (f dx dy st) Q
def cOf (f : FN) : List V → Hp → VK → Prop := fun vs H Q => ∃ as st ds, RS K as H st ∧ RVs K as H vs ds ∧ PostV K as H (f ds st) Q
end

section
variable {K : PySem.W.Frag} {T : Nat → Addr} {α β γ δ : Type} {rel : List Addr → Hp → β → α → Prop} {rel' : List Addr → Hp → δ → γ → Prop} {W : WX} {σ : L2.St} {as as1 as2 : List Addr} {H H1 H2 : Hp} {r : Re α} {st : Sto} {en : En}
theorem Stp.trans' (a : Stp as H as1 H1) (b : Stp as1 H1 as2 H2) : Stp as H as2 H2 := a.trans b
theorem Post.imp {Q Q' : β → Hp → Prop} (h : Post K T rel W σ as H r Q) (m : ∀ v H', Q v H' → Q' v H') : Post K T rel W σ as H r Q' := by
  cases r with
  | ok x s => exact fun v H' as' a b c => m _ _ (h v H' as' a b c)
  | er e s => exact h
  | no => exact h
theorem Post.shift {Q : β → Hp → Prop} (h : Post K T rel W σ as H r Q) (s : Stp as H as1 H1) : Post K T rel W σ as1 H1 r Q := by
  cases r with
  | ok x s' => exact fun v H' as' a b c => h v H' as' (s.trans a) b c
  | er e s' => exact fun cls dx H' as' a b c => h cls dx H' as' (s.trans a) b c
  | no => exact h
theorem Post.bind {f : α → Sto → Re γ} {Q : δ → Hp → Prop} (h : Post K T rel' W σ as H (r.bind f) Q) :
    Post K T rel W σ as H r (fun v H1 => ∃ as1 s1 x, Stp as H as1 H1 ∧ RS K as1 H1 s1 ∧ rel as1 H1 v x ∧ Post K T rel' W σ as1 H1 (f x s1) Q) := by
  cases r with
  | ok x s => exact fun v H' as' a b c => ⟨as', s, x, a, b, c, h.shift a⟩
  | er e s => exact h
  | no => exact h
theorem Post.v {r : Vr} {Q : VK} (h : Post K T (RV K) W σ as H r.re Q) : PostV K as H r Q := by
  cases r with
  | none => exact h
  | some p => exact h
theorem PostV.imp {r : Vr} {Q Q' : VK} (h : PostV K as H r Q) (m : ∀ v H', Q v H' → Q' v H') : PostV K as H r Q' := by
  cases r with
  | none => exact h
  | some p => exact fun v H' as' a b c => m _ _ (h v H' as' a b c)
theorem PostS.shift {r : Rs} {D : Ends} (h : PostS K T W as H r D) (s : Stp as H as1 H1) : PostS K T W as1 H1 r D := by
  cases r with
  | nx e s' => exact fun σ' H' as' a b c => h σ' H' as' (s.trans a) b c
  | rt e s' => exact fun σ' H' as' a b c => h σ' H' as' (s.trans a) b c
  | bk e s' => exact fun σ' H' as' a b c => h σ' H' as' (s.trans a) b c
  | ct e s' => exact fun σ' H' as' a b c => h σ' H' as' (s.trans a) b c
  | er e en' s' => exact fun cls dx σ' H' as' a b c d => h cls dx σ' H' as' (s.trans a) b c d
  | no => exact h
/-- an expression's end in a statement -/
def Re.toS {α : Type} (r : Re α) (en : En) (f : α → Sto → Rs) : Rs := match r with
  | .ok x s => f x s
  | .er e s => .er e en s
  | .no => .no
@[simp] theorem Re.toS_ok {α : Type} (x : α) (s : Sto) (en : En) (f : α → Sto → Rs) : (Re.ok x s).toS en f = f x s := rfl
@[simp] theorem Re.toS_er {α : Type} (x : Ex) (s : Sto) (en : En) (f : α → Sto → Rs) : (Re.er x s : Re α).toS en f = .er x en s := rfl
@[simp] theorem Re.toS_no {α : Type} (en : En) (f : α → Sto → Rs) : (Re.no : Re α).toS en f = .no := rfl
theorem PostS.bind {f : α → Sto → Rs} {D : Ends} (re : RE K as H σ en) (h : PostS K T W as H (r.toS en f) D) :
    Post K T rel W σ as H r (fun v H1 => ∃ as1 s1 x, Stp as H as1 H1 ∧ RS K as1 H1 s1 ∧ rel as1 H1 v x ∧ RE K as1 H1 σ en ∧ PostS K T W as1 H1 (f x s1) D) := by
  cases r with
  | ok x s => exact fun v H' as' a b c => ⟨as', s, x, a, b, c, re.mono a, h.shift a⟩
  | er e s => exact fun cls dx H' as' a b c => h cls dx σ H' as' a b (re.mono a) c
  | no => exact h
end

/-! ### rules made weaker -/
section
variable {X : Cx} {e : Expr} {es : List Expr} {s : Stmt} {ss : List Stmt}
theorem pe_mono {t t' : TE} (h : PE X e t) (m : ∀ σ H Q, t' σ H Q → t σ H Q) : PE X e t' := ⟨fun pins s σ H Q I q => h.run pins s σ H Q I (m _ _ _ q)⟩
theorem pt_mono {t t' : TT} (h : PT X e t) (m : ∀ σ H Q, t' σ H Q → t σ H Q) : PT X e t' := ⟨fun pins s σ H Q I q => h.run pins s σ H Q I (m _ _ _ q)⟩
theorem pw_mono {t t' : TT} (h : PW X e t) (m : ∀ σ H Q, t' σ H Q → t σ H Q) : PW X e t' := ⟨fun wh pins s σ H Q I q => h.run wh pins s σ H Q I (m _ _ _ q)⟩
theorem pa_mono {t t' : TA} (h : PA X es t) (m : ∀ σ H Q, t' σ H Q → t σ H Q) : PA X es t' := ⟨fun pos pins s σ H Q I q => h.run pos pins s σ H Q I (m _ _ _ q)⟩
theorem ps_mono {t t' : TS} (h : PS X s t) (m : ∀ D σ H, t' D σ H → t D σ H) : PS X s t' := ⟨fun pins s σ H D I q => h.run pins s σ H D I (m _ _ _ q)⟩
theorem pss_mono {t t' : TS} (h : PSs X ss t) (m : ∀ D σ H, t' D σ H → t D σ H) : PSs X ss t' := ⟨fun pins s σ H D I q => h.run pins s σ H D I (m _ _ _ q)⟩
theorem pe_orT' {t t' : TE} (h : PE X e t) (h' : PE X e t') : PE X e (fun σ H Q => t σ H Q ∨ t' σ H Q) := ⟨fun pins s σ H Q I q => q.elim (h.run pins s σ H Q I) (h'.run pins s σ H Q I)⟩
theorem ps_orT' {t t' : TS} (h : PS X s t) (h' : PS X s t') : PS X s (fun D σ H => t D σ H ∨ t' D σ H) := ⟨fun pins s σ H D I q => q.elim (h.run pins s σ H D I) (h'.run pins s σ H D I)⟩
end

/-! ### expressions -/
def dV (i : Nat) : ED := fun en st => match en[i]? with
  | some (some d) => .ok d st
  | _ => .no
def dC (d : D) : ED := fun _ st => .ok d st
def dOp (f : F2) (a b : ED) : ED := fun en st => (a en st).bind fun x s1 => (b en s1).bind fun y s2 => (f x y s2).re
def dUn (f : D → Sto → Vr) (a : ED) : ED := fun en st => (a en st).bind fun x s1 => (f x s1).re
def dNil : AD := fun _ st => .ok [] st
def dCons (a : ED) (r : AD) : AD := fun en st => (a en st).bind fun x s1 => (r en s1).bind fun xs s2 => .ok (x :: xs) s2
def dCB (f : FN) (a : AD) : ED := fun en st => (a en st).bind fun xs s1 => (f xs s1).re
def dIf (c : BD) (a b : ED) : ED := fun en st => (c en st).bind fun k s1 => if k = true then a en s1 else b en s1
def dTup (a : AD) : ED := fun en st => (a en st).bind fun xs s1 => if xs.length ≤ 16777216 then .ok (.tup xs) s1 else .no
def dLst (a : AD) : ED := fun en st => (a en st).bind fun xs s1 => if xs.length ≤ 16777216 then .ok (.obj s1.length) (s1 ++ [.lst xs]) else .no
/-- tests -/
def truD (st : Sto) : D → Option Bool
  | .non => some false
  | .bl b => some b
  | .int i => some (i != 0)
  | .str y => if y.length ≤ sizeLine then some ((y.length : Int) != 0) else none
  | .tup xs => some (!xs.isEmpty)
  | .obj i => match st[i]? with
    | some (.lst xs) => some (!xs.isEmpty)
    | some (.fls xs) => some (!xs.isEmpty)
    | some (.dK kvs) => some (!kvs.isEmpty)
    | _ => none
def bTru (a : ED) : BD := fun en st => (a en st).bind fun x s1 => match truD s1 x with
  | some b => .ok b s1
  | none => .no
def bCmp (f : F2) (a b : ED) : BD := fun en st => (a en st).bind fun x s1 => (b en s1).bind fun y s2 => match f x y s2 with
  | some (.bl k, s3) => .ok k s3
  | _ => .no
def bChain (f g : F2) (a b c : ED) : BD := fun en st => (a en st).bind fun x s1 => (b en s1).bind fun y s2 => match f x y s2 with
  | some (.bl k, s3) => if k = true then (c en s3).bind fun z s4 => match g y z s4 with
      | some (.bl k2, s5) => .ok k2 s5
      | _ => .no
    else .ok false s3
  | _ => .no
def dChain (f g : F2) (a b c : ED) : ED := fun en st => (a en st).bind fun x s1 => (b en s1).bind fun y s2 => match f x y s2 with
  | some (.bl k, s3) => if k = true then (c en s3).bind fun z s4 => (g y z s4).re else .ok (.bl false) s3
  | _ => .no
def bAnd (a b : BD) : BD := fun en st => (a en st).bind fun k s1 => if k = true then b en s1 else .ok false s1
def bOr (a b : BD) : BD := fun en st => (a en st).bind fun k s1 => if k = true then .ok true s1 else b en s1
def bNot (a : BD) : BD := fun en st => (a en st).bind fun k s1 => .ok (!k) s1
def dAnd (a b : ED) : ED := fun en st => (a en st).bind fun x s1 => match x with
  | .bl k => if k = true then b en s1 else .ok (.bl false) s1
  | _ => .no
def dOr (a b : ED) : ED := fun en st => (a en st).bind fun x s1 => match x with
  | .bl k => if k = true then .ok (.bl true) s1 else b en s1
  | _ => .no
def dNot (a : ED) : ED := fun en st => (a en st).bind fun x s1 => match x with
  | .bl k => .ok (.bl (!k)) s1
  | _ => .no

section
variable {X : Cx} {T : Nat → Addr} {W : WX} {a b c : Expr} {es : List Expr} {da db dc : ED} {ds : AD} {ba bb : BD} {pos : Pos}
theorem g_v (i : Nat) {x : Str} {pos : Pos} (hN : X.N[i]? = some x := by rfl) (hv : Vis X.env.scope x := by first | exact Or.inl rfl | exact Or.inr (Or.inl rfl) | exact Or.inr (Or.inr rfl)) (hd : (x == ("__debug__" : Str)) = false := by decide)
    (hcd : (x == ("__classdict__" : Str)) = false := by decide) : PE X (.Name x pos) (tE X.K T W (dV i)) := by
  refine pe_mono (pe_var hN hv hd hcd) fun σ H Q ⟨en, st, as, rs, re, q⟩ => ?_
  unfold dV at q
  cases e : en[i]? with
  | none => rw [e] at q; exact q.elim
  | some o =>
    cases o with
    | none => rw [e] at q; exact q.elim
    | some d =>
      rw [e] at q
      obtain ⟨v, hv, rv⟩ := re.at' i d e
      exact ⟨v, hv, q v H as Stp.refl rs rv⟩
theorem g_const {t : V} {d : D} (h : PE X a (tC t)) (r : ∀ as H, RV X.K as H t d) : PE X a (tE X.K T W (dC d)) :=
  pe_mono h fun σ H Q ⟨en, st, as, rs, re, q⟩ => q t H as Stp.refl rs (r _ _)
theorem g_int {i j pos} : PE X (.Constant (.int i) j pos) (tE X.K T W (dC (.int i))) := g_const pe_int fun _ _ => .int _
theorem g_bl {i j pos} : PE X (.Constant (.bool i) j pos) (tE X.K T W (dC (.bl i))) := g_const pe_bl fun _ _ => .bl _
theorem g_non {j pos} : PE X (.Constant .none j pos) (tE X.K T W (dC .non)) := g_const pe_non fun _ _ => .non
theorem g_str {i j pos} : PE X (.Constant (.str i) j pos) (tE X.K T W (dC (.str i))) := g_const pe_str fun _ _ => .str _
theorem g_gint {x : Str} {i : Int} {t : Tok} {pos : Pos} (hm : X.mg x = some (.int i t)) (hg : Gl X x := by rfl) (hd : (x == ("__debug__" : Str)) = false := by decide) : PE X (.Name x pos) (tE X.K T W (dC (.int i))) :=
  g_const (pe_glob (v := .int i) hg hm ⟨_, rfl⟩ hd) fun _ _ => .int _

theorem g_op {op : Operator} {f : F2} (ho : OpR X (binaryOp op) (rOf X.K f)) (ha : PE X a (tE X.K T W da)) (hb : PE X b (tE X.K T W db)) : PE X (.BinOp a op b pos) (tE X.K T W (dOp f da db)) := by
  refine pe_mono (pe_op ho ha hb) fun σ H Q ⟨en, st, as, rs, re, q⟩ => ?_
  refine ⟨en, st, as, rs, re, q.bind.imp fun x H1 ⟨as1, s1, dx, p1, rs1, rx, q1⟩ => ?_⟩
  refine ⟨en, s1, as1, rs1, re.mono p1, q1.bind.imp fun y H2 ⟨as2, s2, dy, p2, rs2, ry, q2⟩ => ?_⟩
  exact ⟨as2, s2, dx, dy, rs2, rx.mono p2, ry, q2.v⟩
theorem g_cmp {op : CmpOp} {f : F2} (ho : OpR X (compareOp op) (rOf X.K f)) (ha : PE X a (tE X.K T W da)) (hb : PE X b (tE X.K T W db)) (hm : behindInMarks op b = false := by first | exact nomark _ | rfl) : PE X (.Compare a [op] [b] pos) (tE X.K T W (dOp f da db)) := by
  refine pe_mono (pe_cmpR ho ha hb hm) fun σ H Q ⟨en, st, as, rs, re, q⟩ => ?_
  refine ⟨en, st, as, rs, re, q.bind.imp fun x H1 ⟨as1, s1, dx, p1, rs1, rx, q1⟩ => ?_⟩
  refine ⟨en, s1, as1, rs1, re.mono p1, q1.bind.imp fun y H2 ⟨as2, s2, dy, p2, rs2, ry, q2⟩ => ?_⟩
  exact ⟨as2, s2, dx, dy, rs2, rx.mono p2, ry, q2.v⟩
theorem g_un {op : UnaryOp} {f : D → Sto → Vr} (ho : UnR X (unaryOp op) (fun x H Q => ∃ as st dx, RS X.K as H st ∧ RV X.K as H x dx ∧ PostV X.K as H (f dx st) Q)) (ha : PE X a (tE X.K T W da)) : PE X (.UnaryOp op a pos) (tE X.K T W (dUn f da)) := by
  refine pe_mono (pe_un ho ha) fun σ H Q ⟨en, st, as, rs, re, q⟩ => ?_
  refine ⟨en, st, as, rs, re, q.bind.imp fun x H1 ⟨as1, s1, dx, p1, rs1, rx, q1⟩ => ?_⟩
  exact ⟨as1, s1, dx, rs1, rx, q1.v⟩
theorem g_nil : PA X [] (tA X.K T W dNil) := pa_mono pa_nil fun σ H Q ⟨en, st, as, rs, re, q⟩ => q [] H as Stp.refl rs .nil
theorem g_cons (ha : PE X a (tE X.K T W da)) (hr : PA X es (tA X.K T W ds)) (hs : starEach (a :: es) X.env = (false, eval a X.env) :: starEach es X.env := by rfl) : PA X (a :: es) (tA X.K T W (dCons da ds)) := by
  refine pa_mono (pa_cons ha hr hs) fun σ H Q ⟨en, st, as, rs, re, q⟩ => ?_
  refine ⟨en, st, as, rs, re, q.bind.imp fun x H1 ⟨as1, s1, dx, p1, rs1, rx, q1⟩ => ?_⟩
  refine ⟨en, s1, as1, rs1, re.mono p1, q1.bind.imp fun xs H2 ⟨as2, s2, dxs, p2, rs2, rxs, q2⟩ => ?_⟩
  exact q2 _ _ _ Stp.refl rs2 (.cons (rx.mono p2) rxs)
theorem g_if (hc : PT X c (tT X.K T W ba)) (ha : PE X a (tE X.K T W da)) (hb : PE X b (tE X.K T W db)) : PE X (.IfExp c a b pos) (tE X.K T W (dIf ba da db)) := by
  refine pe_mono (pe_ifExp hc ha hb) fun σ H Q ⟨en, st, as, rs, re, q⟩ => ?_
  refine ⟨en, st, as, rs, re, q.bind.imp fun k H1 ⟨as1, s1, kk, p1, rs1, rk, q1⟩ => ?_⟩
  cases rk
  cases k with
  | true => rw [if_pos rfl]; exact ⟨en, s1, as1, rs1, re.mono p1, q1⟩
  | false => rw [if_neg Bool.false_ne_true]; exact ⟨en, s1, as1, rs1, re.mono p1, q1⟩
theorem g_tup {k : Nat} (h : PA X es (tA X.K T W ds)) : PE X (.Tuple es k pos) (tE X.K T W (dTup ds)) := by
  refine pe_mono (pe_tup h) fun σ H Q ⟨en, st, as, rs, re, q⟩ => ?_
  refine ⟨en, st, as, rs, re, q.bind.imp fun vs H1 ⟨as1, s1, xs, p1, rs1, rx, q1⟩ => ?_⟩
  by_cases hl : xs.length ≤ 16777216
  · rw [if_pos hl] at q1
    refine ⟨by rw [rx.length, sizeLine_eq]; exact hl, fun p hp => ?_⟩
    exact q1 _ _ as1 (Stp.new hp) (rs1.new hp) (.tup upd_same (rx.mono (Stp.new hp)))
  · rw [if_neg hl] at q1
    exact q1.elim
theorem g_lst (h : PA X es (tA X.K T W ds)) : PE X (.List es pos) (tE X.K T W (dLst ds)) := by
  refine pe_mono (pe_lst h) fun σ H Q ⟨en, st, as, rs, re, q⟩ => ?_
  refine ⟨en, st, as, rs, re, q.bind.imp fun vs H1 ⟨as1, s1, xs, p1, rs1, rx, q1⟩ => ?_⟩
  by_cases hl : xs.length ≤ 16777216
  · rw [if_pos hl] at q1
    refine ⟨by rw [rx.length, sizeLine_eq]; exact hl, fun p hp => ?_⟩
    exact q1 _ _ (as1 ++ [p]) (Stp.alloc hp) (rs1.alloc hp ⟨vs, upd_same, rx.mono (Stp.alloc hp)⟩) (.obj (by rw [← rs1.len, List.getElem?_append_right (Nat.le_refl _), Nat.sub_self]; rfl))
  · rw [if_neg hl] at q1
    exact q1.elim
/-! tests -/
theorem tru_of {as : List Addr} {H : Hp} {st : Sto} {x : V} {d : D} {k : Bool} {K : PySem.W.Frag} (rs : RS K as H st) (rx : RV K as H x d) (e : truD st d = some k) : TruV K x H k := by
  cases rx with
  | non => cases e; rfl
  | bl b => cases e; rfl
  | int i => cases e; rfl
  | str y =>
    simp only [truD] at e
    split at e
    · cases e; exact ⟨‹_›, rfl⟩
    · cases e
  | @tup a xs ds h r =>
    cases e
    refine .inr (.inl ⟨xs, SqT.of h, ?_⟩)
    cases r <;> rfl
  | @obj a i h =>
    simp only [truD] at e
    split at e
    · rename_i xs hx
      cases e
      obtain ⟨ys, ey, r⟩ := rs.at' h hx
      refine .inl ⟨ys, SqL.of ey, ?_⟩
      cases r <;> rfl
    · rename_i xs hx
      cases e
      obtain ⟨ys, ey, r⟩ := rs.at' h hx
      refine .inl ⟨ys, ey.sq, ?_⟩
      cases r <;> rfl
    · rename_i xs hx
      cases e
      obtain ⟨ys, ey, r⟩ := rs.at' h hx
      refine .inr (.inr ⟨ys, ey, ?_⟩)
      cases r <;> rfl
    · cases e
theorem gt_tru (ha : PE X a (tE X.K T W da)) (he : ∀ whole, isTrue a X.env whole = (do let v ← whole; standAt a.pos; holding [v] (truthy v)) := by intro _; rfl) : PT X a (tT X.K T W (bTru da)) := by
  refine pt_mono (pt_truth ha he) fun σ H Q ⟨en, st, as, rs, re, q⟩ => ?_
  refine ⟨en, st, as, rs, re, q.bind.imp fun x H1 ⟨as1, s1, dx, p1, rs1, rx, q1⟩ => ?_⟩
  cases e : truD s1 dx with
  | none => rw [e] at q1; exact q1.elim
  | some k =>
    rw [e] at q1
    exact ⟨k, tru_of rs1 rx e, q1 k H1 as1 Stp.refl rs1 rfl⟩
theorem postv_bl {as : List Addr} {H : Hp} {σ : L2.St} {K : PySem.W.Frag} {r : Vr} {Q : Bool → Hp → Prop} (h : Post K T relB W σ as H (match r with | some (.bl k, s3) => .ok k s3 | _ => .no) Q) :
    PostV K as H r (fun x H' => ∃ k, x = .bl k ∧ Q k H') := by
  cases r with
  | none => exact h
  | some p =>
    obtain ⟨x, s⟩ := p
    cases x with
    | bl k =>
      intro v H' as' a b c
      cases c
      exact ⟨k, rfl, h k H' as' a b rfl⟩
    | _ => exact h.elim
theorem gt_cmp {op : CmpOp} {f : F2} (ho : OpR X (compareOp op) (rOf X.K f)) (ha : PE X a (tE X.K T W da)) (hb : PE X b (tE X.K T W db)) (hm : behindInMarks op b = false := by first | exact nomark _ | rfl) : PT X (.Compare a [op] [b] pos) (tT X.K T W (bCmp f da db)) := by
  refine pt_mono (pt_cmpR ho ha hb hm) fun σ H Q ⟨en, st, as, rs, re, q⟩ => ?_
  refine ⟨en, st, as, rs, re, q.bind.imp fun x H1 ⟨as1, s1, dx, p1, rs1, rx, q1⟩ => ?_⟩
  refine ⟨en, s1, as1, rs1, re.mono p1, q1.bind.imp fun y H2 ⟨as2, s2, dy, p2, rs2, ry, q2⟩ => ?_⟩
  exact ⟨as2, s2, dx, dy, rs2, rx.mono p2, ry, postv_bl q2⟩
theorem gw_and1 (ha : PT X a (tT X.K T W ba)) : PW X (.BoolOp .And [a] pos) (tT X.K T W ba) := pw_and1 ha
theorem gw_or1 (ha : PT X a (tT X.K T W ba)) : PW X (.BoolOp .Or [a] pos) (tT X.K T W ba) := pw_or1 ha
theorem gw_and (ha : PT X a (tT X.K T W ba)) (hb : PW X (.BoolOp .And (b :: es) pos) (tT X.K T W bb)) : PW X (.BoolOp .And (a :: b :: es) pos) (tT X.K T W (bAnd ba bb)) := by
  refine pw_mono (pw_and ha hb) fun σ H Q ⟨en, st, as, rs, re, q⟩ => ?_
  refine ⟨en, st, as, rs, re, q.bind.imp fun k H1 ⟨as1, s1, kk, p1, rs1, rk, q1⟩ => ?_⟩
  cases rk
  cases k with
  | true => rw [if_pos rfl]; exact ⟨en, s1, as1, rs1, re.mono p1, q1⟩
  | false => rw [if_neg Bool.false_ne_true]; exact q1 false H1 as1 Stp.refl rs1 rfl
theorem gw_or (ha : PT X a (tT X.K T W ba)) (hb : PW X (.BoolOp .Or (b :: es) pos) (tT X.K T W bb)) : PW X (.BoolOp .Or (a :: b :: es) pos) (tT X.K T W (bOr ba bb)) := by
  refine pw_mono (pw_or ha hb) fun σ H Q ⟨en, st, as, rs, re, q⟩ => ?_
  refine ⟨en, st, as, rs, re, q.bind.imp fun k H1 ⟨as1, s1, kk, p1, rs1, rk, q1⟩ => ?_⟩
  cases rk
  cases k with
  | true => rw [if_pos rfl]; exact q1 true H1 as1 Stp.refl rs1 rfl
  | false => rw [if_neg Bool.false_ne_true]; exact ⟨en, s1, as1, rs1, re.mono p1, q1⟩
theorem gt_w (h : PW X a (tT X.K T W ba)) : PT X a (tT X.K T W ba) := h.pt
theorem gt_not (ha : PT X a (tT X.K T W ba)) : PT X (.UnaryOp .Not a pos) (tT X.K T W (bNot ba)) := by
  refine pt_mono (pt_not ha) fun σ H Q ⟨en, st, as, rs, re, q⟩ => ?_
  refine ⟨en, st, as, rs, re, q.bind.imp fun k H1 ⟨as1, s1, kk, p1, rs1, rk, q1⟩ => ?_⟩
  cases rk
  exact q1 _ H1 as1 Stp.refl rs1 rfl
theorem g_one {op : PySem.BoolOp} (ha : PE X a (tE X.K T W da)) : PE X (.BoolOp op [a] pos) (tE X.K T W da) := pe_one ha
theorem g_and (ha : PE X a (tE X.K T W da)) (hb : PE X (.BoolOp .And (b :: es) pos) (tE X.K T W db)) : PE X (.BoolOp .And (a :: b :: es) pos) (tE X.K T W (dAnd da db)) := by
  refine pe_mono (pe_and ha hb) fun σ H Q ⟨en, st, as, rs, re, q⟩ => ?_
  refine ⟨en, st, as, rs, re, q.bind.imp fun x H1 ⟨as1, s1, dx, p1, rs1, rx, q1⟩ => ?_⟩
  cases rx with
  | bl k =>
    refine ⟨k, rfl, ?_⟩
    cases k with
    | true => rw [if_pos rfl]; exact ⟨en, s1, as1, rs1, re.mono p1, q1⟩
    | false => rw [if_neg Bool.false_ne_true]; exact q1 _ H1 as1 Stp.refl rs1 (.bl _)
  | _ => exact q1.elim
theorem g_or (ha : PE X a (tE X.K T W da)) (hb : PE X (.BoolOp .Or (b :: es) pos) (tE X.K T W db)) : PE X (.BoolOp .Or (a :: b :: es) pos) (tE X.K T W (dOr da db)) := by
  refine pe_mono (pe_or ha hb) fun σ H Q ⟨en, st, as, rs, re, q⟩ => ?_
  refine ⟨en, st, as, rs, re, q.bind.imp fun x H1 ⟨as1, s1, dx, p1, rs1, rx, q1⟩ => ?_⟩
  cases rx with
  | bl k =>
    refine ⟨k, rfl, ?_⟩
    cases k with
    | true => rw [if_pos rfl]; exact q1 _ H1 as1 Stp.refl rs1 (.bl _)
    | false => rw [if_neg Bool.false_ne_true]; exact ⟨en, s1, as1, rs1, re.mono p1, q1⟩
  | _ => exact q1.elim
theorem g_not (ha : PE X a (tE X.K T W da)) : PE X (.UnaryOp .Not a pos) (tE X.K T W (dNot da)) := by
  refine pe_mono (pe_not ha) fun σ H Q ⟨en, st, as, rs, re, q⟩ => ?_
  refine ⟨en, st, as, rs, re, q.bind.imp fun x H1 ⟨as1, s1, dx, p1, rs1, rx, q1⟩ => ?_⟩
  cases rx with
  | bl k => exact ⟨k, rfl, q1 _ H1 as1 Stp.refl rs1 (.bl _)⟩
  | _ => exact q1.elim
theorem gt_chain {op op' : CmpOp} {f g : F2} (ho : OpR X (compareOp op) (rOf X.K f)) (ho' : OpR X (compareOp op') (rOf X.K g)) (ha : PE X a (tE X.K T W da)) (hb : PE X b (tE X.K T W db)) (hc : PE X c (tE X.K T W dc)) (hm : lastMarks [op, op'] [b, c] = false := by with_unfolding_all rfl) :
    PT X (.Compare a [op, op'] [b, c] pos) (tT X.K T W (bChain f g da db dc)) := by
  refine pt_mono (pt_chain ho ho' ha hb hc hm) fun σ H Q ⟨en, st, as, rs, re, q⟩ => ?_
  refine ⟨en, st, as, rs, re, q.bind.imp fun x H1 ⟨as1, s1, dx, p1, rs1, rx, q1⟩ => ?_⟩
  refine ⟨en, s1, as1, rs1, re.mono p1, q1.bind.imp fun y H2 ⟨as2, s2, dy, p2, rs2, ry, q2⟩ => ?_⟩
  refine ⟨as2, s2, dx, dy, rs2, rx.mono p2, ry, ?_⟩
  cases e : f dx dy s2 with
  | none => rw [e] at q2; exact q2.elim
  | some p =>
    obtain ⟨z, s3⟩ := p
    rw [e] at q2
    cases z with
    | bl k =>
      intro v H3 as3 p3 rs3 rv
      cases rv
      refine ⟨k, rfl, ?_⟩
      have q3 := Post.shift q2 p3
      cases k with
      | false => exact ⟨false, rfl, q3 false H3 as3 Stp.refl rs3 rfl⟩
      | true =>
        refine ⟨en, s3, as3, rs3, (re.mono p1).mono (p2.trans p3), (Post.bind q3).imp fun z H4 ⟨as4, s4, dz, p4, rs4, rz, q4⟩ => ?_⟩
        exact ⟨as4, s4, dy, dz, rs4, ry.mono (p3.trans p4), rz, postv_bl q4⟩
    | _ => exact q2.elim
theorem g_chain {op op' : CmpOp} {f g : F2} (ho : OpR X (compareOp op) (rOf X.K f)) (ho' : OpR X (compareOp op') (rOf X.K g)) (ha : PE X a (tE X.K T W da)) (hb : PE X b (tE X.K T W db)) (hc : PE X c (tE X.K T W dc)) (hm : lastMarks [op, op'] [b, c] = false := by with_unfolding_all rfl) :
    PE X (.Compare a [op, op'] [b, c] pos) (tE X.K T W (dChain f g da db dc)) := by
  refine pe_mono (pe_chain ho ho' ha hb hc hm) fun σ H Q ⟨en, st, as, rs, re, q⟩ => ?_
  refine ⟨en, st, as, rs, re, q.bind.imp fun x H1 ⟨as1, s1, dx, p1, rs1, rx, q1⟩ => ?_⟩
  refine ⟨en, s1, as1, rs1, re.mono p1, q1.bind.imp fun y H2 ⟨as2, s2, dy, p2, rs2, ry, q2⟩ => ?_⟩
  refine ⟨as2, s2, dx, dy, rs2, rx.mono p2, ry, ?_⟩
  cases e : f dx dy s2 with
  | none => rw [e] at q2; exact q2.elim
  | some p =>
    obtain ⟨z, s3⟩ := p
    rw [e] at q2
    cases z with
    | bl k =>
      intro v H3 as3 p3 rs3 rv
      cases rv
      refine ⟨k, rfl, ?_⟩
      have q3 := Post.shift q2 p3
      cases k with
      | false => exact q3 _ H3 as3 Stp.refl rs3 (.bl _)
      | true =>
        refine ⟨en, s3, as3, rs3, (re.mono p1).mono (p2.trans p3), (Post.bind q3).imp fun z H4 ⟨as4, s4, dz, p4, rs4, rz, q4⟩ => ?_⟩
        exact ⟨as4, s4, dy, dz, rs4, ry.mono (p3.trans p4), rz, q4.v⟩
    | _ => exact q2.elim
end
end Gv
namespace Gv
open PySem PySem.Spec L2

/-! ### data of a value -/
mutual
def pd : D → Option PyData
  | .non => some .none
  | .bl b => some (.bool b)
  | .int i => some (.int i)
  | .str x => some (.str x)
  | .tup xs => (pds xs).map .tuple
  | .obj _ => none
def pds : List D → Option (List PyData)
  | [] => some []
  | x :: xs => match pd x, pds xs with
    | some p, some ps => some (p :: ps)
    | _, _ => none
end
def pdS (st : Sto) : D → Option PyData
  | .obj i => match st[i]? with
    | some (.lst xs) => (pds xs).map .list
    | some (.fls xs) => (pds xs).map .list
    | _ => none
  | d => pd d
def fEqD (neg : Bool) : F2 := fun x y st => match pdS st x, pdS st y with
  | some p, some q => if SeqAt.shaped p = true ∧ SeqAt.shaped q = true then some (.bl (if neg then !PyData.eqv p q else PyData.eqv p q), st) else none
  | _, _ => none
def fEq : F2 := fun x y st => match x, y with
  | .int i, .int j => some (.bl (decide (i = j)), st)
  | .str i, .str j => some (.bl (decide (i = j)), st)
  | .bl i, .bl j => some (.bl (decide (i = j)), st)
  | x, y => fEqD false x y st
def fNe : F2 := fun x y st => match x, y with
  | .int i, .int j => some (.bl (!decide (i = j)), st)
  | .str i, .str j => some (.bl (!decide (i = j)), st)
  | .bl i, .bl j => some (.bl (!decide (i = j)), st)
  | x, y => fEqD true x y st
def fInt (g : Int → Int → D) : F2 := fun x y st => match x, y with
  | .int i, .int j => some (g i j, st)
  | _, _ => none
def fIntC (C : Int → Int → Bool) (g : Int → Int → D) : F2 := fun x y st => match x, y with
  | .int i, .int j => if C i j = true then some (g i j, st) else none
  | _, _ => none
abbrev fLt : F2 := fInt fun i j => .bl (decide (i < j))
abbrev fLe : F2 := fInt fun i j => .bl (decide (i ≤ j))
abbrev fGt : F2 := fInt fun i j => .bl (decide (j < i))
abbrev fGe : F2 := fInt fun i j => .bl (decide (j ≤ i))
abbrev fSub : F2 := fInt fun i j => .int (i - j)
abbrev fXor : F2 := fInt fun i j => .int (Builtin.bitXor i j)
abbrev fAnd : F2 := fInt fun i j => .int (Builtin.bitAnd i j)
abbrev fOr : F2 := fInt fun i j => .int (Builtin.bitOr i j)
abbrev fDiv : F2 := fIntC (fun _ j => decide (0 < j) && decide (j < 1073741824)) fun i j => .int (i / j)
abbrev fMod : F2 := fIntC (fun _ j => decide (0 < j)) fun i j => .int (i % j)
def cPow (i j : Int) : Bool := decide (0 ≤ j) && (decide (j ≤ 1000000) && decide (i.natAbs < 18446744073709551616))
abbrev fPow : F2 := fIntC cPow fun i j => .int (i ^ j.toNat)
abbrev fShl : F2 := fIntC cPow fun i j => .int (i * 2 ^ j.toNat)
abbrev fShr : F2 := fIntC (fun _ j => decide (0 ≤ j)) fun i j => .int (i / 2 ^ j.toNat)
def cMul (i j : Int) : Bool := decide (i.natAbs < 18446744073709551616) || decide (j.natAbs < 18446744073709551616)
def fMul : F2 := fun x y st => match x, y with
  | .int i, .int j => if cMul i j = true then some (.int (i * j), st) else none
  | .tup xs, .int k => if xs ≠ [] ∧ 2 ≤ k ∧ k ≤ 1000 ∧ xs.length ≤ 1000 then some (.tup (List.replicate k.toNat xs).flatten, st) else
      (if xs ≠ [] ∧ k = 1 ∧ xs.length ≤ 1000 then none else none)
  | .obj i, .int k => match st[i]? with
    | some (.lst xs) => if -9223372036854775808 ≤ k ∧ k < 9223372036854775808 ∧ xs.length * k.toNat ≤ 16777216 then some (.obj st.length, st ++ [.lst (List.replicate k.toNat xs).flatten]) else none
    | _ => none
  | _, _ => none
def fAdd : F2 := fun x y st => match x, y with
  | .int i, .int j => some (.int (i + j), st)
  | .str a, .str b => if a.length + b.length ≤ 16777216 then some (.str (a ++ b), st) else none
  | .tup xs, .tup ys => if xs.length + ys.length ≤ 16777216 then some (.tup (xs ++ ys), st) else none
  | .obj i, .obj j => match st[i]?, st[j]? with
    | some (.lst xs), some (.lst ys) => if xs.length + ys.length ≤ 16777216 then some (.obj st.length, st ++ [.lst (xs ++ ys)]) else none
    | _, _ => none
  | _, _ => none

section
variable {K : PySem.W.Frag} {as : List Addr} {H : Hp} {st : Sto}
theorem postv1 {d : D} {s : Sto} {Q : VK} {v : V} (rs : RS K as H s) (r : RV K as H v d) (q : PostV K as H (some (d, s)) Q) : Q v H := q v H as Stp.refl rs r
mutual
theorem pd_dp : ∀ {d : D} {v : V} {p : PyData}, RV K as H v d → pd d = some p → Dp K H v p
  | .non, _, _, .non, e => by cases e; exact .non
  | .bl _, _, _, .bl b, e => by cases e; exact .bl b
  | .int _, _, _, .int i, e => by cases e; exact .int i
  | .str _, _, _, .str i, e => by cases e; exact .str i
  | .tup ds, _, _, .tup h r, e => by
    simp only [pd] at e
    cases q : pds ds with
    | none => rw [q] at e; cases e
    | some ps =>
      rw [q] at e
      cases e
      exact .tup (SqT.of h) (pds_dp r q)
  | .obj _, _, _, _, e => by cases e
theorem pds_dp : ∀ {ds : List D} {vs : List V} {ps : List PyData}, RVs K as H vs ds → pds ds = some ps → DpAll K H vs ps
  | [], _, _, .nil, e => by cases e; exact .nil
  | d :: ds, _, _, .cons h r, e => by
    simp only [pds] at e
    cases q : pd d with
    | none => rw [q] at e; cases e
    | some p =>
      cases q2 : pds ds with
      | none => rw [q, q2] at e; cases e
      | some ps =>
        rw [q, q2] at e
        cases e
        exact .cons (pd_dp h q) (pds_dp r q2)
end
theorem pdS_dp (rs : RS K as H st) {d : D} {v : V} {p : PyData} (r : RV K as H v d) (e : pdS st d = some p) : Dp K H v p := by
  cases r with
  | @obj a i h =>
    simp only [pdS] at e
    split at e
    · rename_i xs hx
      obtain ⟨ys, ey, ry⟩ := rs.at' h hx
      cases q : pds xs with
      | none => rw [q] at e; cases e
      | some ps => rw [q] at e; cases e; exact .lst (SqL.of ey) (pds_dp ry q)
    · rename_i xs hx
      obtain ⟨ys, ey, ry⟩ := rs.at' h hx
      cases q : pds xs with
      | none => rw [q] at e; cases e
      | some ps => rw [q] at e; cases e; exact .lst ey.sq (pds_dp ry q)
    · cases e
  | non => exact pd_dp (as := as) .non e
  | bl b => exact pd_dp (as := as) (.bl b) e
  | int b => exact pd_dp (as := as) (.int b) e
  | str b => exact pd_dp (as := as) (.str b) e
  | tup h r => exact pd_dp (.tup h r) e
end

section
variable {X : Cx}
theorem og_eqD (hu : X.A.units + 64 < cLine) : OpR X (compareOp .Eq) (rOf X.K (fEqD false)) := by
  intro pins s σ H x y v u Q I rx ry ⟨as, st, dx, dy, rs, hx, hy, q⟩
  unfold fEqD at q
  cases e1 : pdS st dx with
  | none => rw [e1] at q; exact q.elim
  | some p =>
    cases e2 : pdS st dy with
    | none => rw [e1, e2] at q; exact q.elim
    | some p2 =>
      rw [e1, e2] at q
      dsimp only at q
      split at q
      · rename_i hs
        exact op_eqD hu pins s σ H x y v u Q I rx ry ⟨p, p2, pdS_dp rs hx e1, pdS_dp rs hy e2, hs.1, hs.2, postv1 rs (.bl _) q⟩
      · exact q.elim
theorem og_neD (hu : X.A.units + 64 < cLine) : OpR X (compareOp .NotEq) (rOf X.K (fEqD true)) := by
  intro pins s σ H x y v u Q I rx ry ⟨as, st, dx, dy, rs, hx, hy, q⟩
  unfold fEqD at q
  cases e1 : pdS st dx with
  | none => rw [e1] at q; exact q.elim
  | some p =>
    cases e2 : pdS st dy with
    | none => rw [e1, e2] at q; exact q.elim
    | some p2 =>
      rw [e1, e2] at q
      dsimp only at q
      split at q
      · rename_i hs
        exact op_neD hu pins s σ H x y v u Q I rx ry ⟨p, p2, pdS_dp rs hx e1, pdS_dp rs hy e2, hs.1, hs.2, postv1 rs (.bl _) q⟩
      · exact q.elim
theorem og_eq (hu : X.A.units + 64 < cLine) : OpR X (compareOp .Eq) (rOf X.K fEq) := by
  intro pins s σ H x y v u Q I rx ry ⟨as, st, dx, dy, rs, hx, hy, q⟩
  unfold fEq at q
  split at q
  · cases hx; cases hy
    exact op_eq pins s σ H _ _ v u Q I rx ry ⟨rfl, by rw [show ∀ a b : Int, decide (V.int a = V.int b) = decide (a = b) from fun a b => by simp]; exact postv1 rs (.bl _) q⟩
  · cases hx; cases hy
    exact op_eq pins s σ H _ _ v u Q I rx ry ⟨rfl, by rw [show ∀ a b : Str, decide (V.str a = V.str b) = decide (a = b) from fun a b => by simp]; exact postv1 rs (.bl _) q⟩
  · cases hx; cases hy
    exact op_eq pins s σ H _ _ v u Q I rx ry ⟨rfl, by rw [show ∀ a b : Bool, decide (V.bl a = V.bl b) = decide (a = b) from fun a b => by simp]; exact postv1 rs (.bl _) q⟩
  · exact og_eqD hu pins s σ H x y v u Q I rx ry ⟨as, st, _, _, rs, hx, hy, q⟩
theorem og_ne (hu : X.A.units + 64 < cLine) : OpR X (compareOp .NotEq) (rOf X.K fNe) := by
  intro pins s σ H x y v u Q I rx ry ⟨as, st, dx, dy, rs, hx, hy, q⟩
  unfold fNe at q
  split at q
  · cases hx; cases hy
    exact op_ne pins s σ H _ _ v u Q I rx ry ⟨rfl, by rw [show ∀ a b : Int, decide (V.int a = V.int b) = decide (a = b) from fun a b => by simp]; exact postv1 rs (.bl _) q⟩
  · cases hx; cases hy
    exact op_ne pins s σ H _ _ v u Q I rx ry ⟨rfl, by rw [show ∀ a b : Str, decide (V.str a = V.str b) = decide (a = b) from fun a b => by simp]; exact postv1 rs (.bl _) q⟩
  · cases hx; cases hy
    exact op_ne pins s σ H _ _ v u Q I rx ry ⟨rfl, by rw [show ∀ a b : Bool, decide (V.bl a = V.bl b) = decide (a = b) from fun a b => by simp]; exact postv1 rs (.bl _) q⟩
  · exact og_neD hu pins s σ H x y v u Q I rx ry ⟨as, st, _, _, rs, hx, hy, q⟩
/-- ints in -/
theorem og_int {f : Value → Value → Sem Value} {g : Int → Int → D} {g' : Int → Int → V} (ho : OpR X f (rI0 g')) (hr : ∀ as H i j, RV X.K as H (g' i j) (g i j)) : OpR X f (rOf X.K (fInt g)) := by
  intro pins s σ H x y v u Q I rx ry ⟨as, st, dx, dy, rs, hx, hy, q⟩
  unfold fInt at q
  split at q
  · cases hx; cases hy
    exact ho pins s σ H _ _ v u Q I rx ry ⟨_, _, rfl, rfl, postv1 rs (hr _ _ _ _) q⟩
  · exact q.elim
theorem og_intC {f : Value → Value → Sem Value} {C : Int → Int → Bool} {C' : Int → Int → Prop} {g : Int → Int → D} {g' : Int → Int → V} (ho : OpR X f (rI C' g')) (hc : ∀ i j, C i j = true → C' i j) (hr : ∀ as H i j, RV X.K as H (g' i j) (g i j)) : OpR X f (rOf X.K (fIntC C g)) := by
  intro pins s σ H x y v u Q I rx ry ⟨as, st, dx, dy, rs, hx, hy, q⟩
  unfold fIntC at q
  split at q
  · cases hx; cases hy
    split at q
    · exact ho pins s σ H _ _ v u Q I rx ry ⟨_, _, rfl, rfl, hc _ _ ‹_›, postv1 rs (hr _ _ _ _) q⟩
    · exact q.elim
  · exact q.elim
theorem og_lt : OpR X (compareOp .Lt) (rOf X.K fLt) := og_int op_lt fun _ _ _ _ => .bl _
theorem og_le : OpR X (compareOp .LtE) (rOf X.K fLe) := og_int op_le fun _ _ _ _ => .bl _
theorem og_gt : OpR X (compareOp .Gt) (rOf X.K fGt) := og_int op_gt fun _ _ _ _ => .bl _
theorem og_ge : OpR X (compareOp .GtE) (rOf X.K fGe) := og_int op_ge fun _ _ _ _ => .bl _
theorem og_sub : OpR X (binaryOp .Sub) (rOf X.K fSub) := og_int op_sub fun _ _ _ _ => .int _
theorem og_xor : OpR X (binaryOp .BitXor) (rOf X.K fXor) := og_int op_xor fun _ _ _ _ => .int _
theorem og_and : OpR X (binaryOp .BitAnd) (rOf X.K fAnd) := og_int op_and fun _ _ _ _ => .int _
theorem og_or : OpR X (binaryOp .BitOr) (rOf X.K fOr) := og_int op_or fun _ _ _ _ => .int _
theorem og_div : OpR X (binaryOp .FloorDiv) (rOf X.K fDiv) := og_intC op_fdiv (fun i j h => by simpa [CDiv] using h) fun _ _ _ _ => .int _
theorem og_mod : OpR X (binaryOp .Mod) (rOf X.K fMod) := og_intC op_mod (fun i j h => by simpa using h) fun _ _ _ _ => .int _
theorem cpow_ok (i j : Int) (h : cPow i j = true) : CPow i j := by
  simp only [cPow, Bool.and_eq_true, decide_eq_true_eq] at h
  exact ⟨h.1, h.2.1, by have := h.2.2; omega⟩
theorem og_pow : OpR X (binaryOp .Pow) (rOf X.K fPow) := og_intC op_pow cpow_ok fun _ _ _ _ => .int _
theorem og_shl : OpR X (binaryOp .LShift) (rOf X.K fShl) := og_intC op_shl cpow_ok fun _ _ _ _ => .int _
theorem og_shr : OpR X (binaryOp .RShift) (rOf X.K fShr) := og_intC op_shr (fun i j h => by simpa using h) fun _ _ _ _ => .int _
theorem cmul_ok (i j : Int) (h : cMul i j = true) : CMul i j := by
  simp only [cMul, Bool.or_eq_true, decide_eq_true_eq] at h
  rcases h with h | h
  · exact .inl ⟨by omega, by omega⟩
  · exact .inr ⟨by omega, by omega⟩
theorem RVs.flat {K : PySem.W.Frag} {as : List Addr} {H : Hp} {vs : List V} {ds : List D} (r : RVs K as H vs ds) : ∀ k : Nat, RVs K as H (List.replicate k vs).flatten (List.replicate k ds).flatten
  | 0 => .nil
  | k + 1 => by
    rw [List.replicate_succ, List.replicate_succ, List.flatten_cons, List.flatten_cons]
    exact r.append (RVs.flat r k)
theorem RVs.nil_iff {K : PySem.W.Frag} {as : List Addr} {H : Hp} {vs : List V} {ds : List D} (r : RVs K as H vs ds) : vs = [] ↔ ds = [] := by
  cases r <;> simp
theorem og_mul : OpR X (binaryOp .Mult) (rOf X.K fMul) := by
  intro pins s σ H x y v u Q I rx ry ⟨as, st, dx, dy, rs, hx, hy, q⟩
  unfold fMul at q
  split at q
  · cases hx; cases hy
    split at q
    · exact op_mul pins s σ H _ _ v u Q I rx ry ⟨_, _, rfl, rfl, cmul_ok _ _ ‹_›, postv1 rs (.int _) q⟩
    · exact q.elim
  · cases hy
    cases hx with
    | @tup a ys _ h r =>
      split at q
      · rename_i hc
        refine op_repT pins s σ H _ _ v u Q I rx ry ⟨_, _, _, rfl, rfl, SqT.of h, fun e => hc.1 (r.nil_iff.mp e), hc.2.1, hc.2.2.1, by rw [r.length]; exact hc.2.2.2, fun p hp => ?_⟩
        exact q _ _ as (Stp.new hp) (rs.new hp) (.tup upd_same ((r.flat _).mono (Stp.new hp)))
      · split at q <;> exact q.elim
  · cases hy
    split at q
    · rename_i xs hx'
      obtain ⟨a, rfl, ha, ys, ey, r⟩ := rs.obj hx hx'
      split at q
      · rename_i hc
        refine op_rep pins s σ H _ _ v u Q I rx ry ⟨_, _, _, rfl, rfl, ey, by omega, by omega, by rw [r.length, sizeLine_eq]; exact hc.2.2, fun p hp => ?_⟩
        exact q _ _ (as ++ [p]) (Stp.alloc hp) (rs.alloc hp ⟨_, upd_same, (r.flat _).mono (Stp.alloc hp)⟩) (.obj (by rw [← rs.len, List.getElem?_append_right (Nat.le_refl _), Nat.sub_self]; rfl))
      · exact q.elim
    · exact q.elim
  · exact q.elim
theorem newAt {K : PySem.W.Frag} {as : List Addr} {H H' : Hp} {st : Sto} {p : Addr} (rs : RS K as H st) : RV K (as ++ [p]) H' (.ref p) (.obj st.length) :=
  .obj (by rw [← rs.len, List.getElem?_append_right (Nat.le_refl _), Nat.sub_self]; rfl)
theorem og_add : OpR X (binaryOp .Add) (rOf X.K fAdd) := by
  intro pins s σ H x y v u Q I rx ry ⟨as, st, dx, dy, rs, hx, hy, q⟩
  unfold fAdd at q
  split at q
  · cases hx; cases hy
    exact op_add pins s σ H _ _ v u Q I rx ry ⟨_, _, rfl, rfl, postv1 rs (.int _) q⟩
  · cases hx; cases hy
    split at q
    · exact op_add_str pins s σ H _ _ v u Q I rx ry ⟨_, _, rfl, rfl, by rw [sizeLine_eq]; assumption, postv1 rs (.str _) q⟩
    · exact q.elim
  · cases hx with
    | @tup a xs _ h r =>
    cases hy with
    | @tup b ys _ h2 r2 =>
      split at q
      · rename_i hl
        refine op_catA pins s σ H _ _ v u Q I rx ry ⟨_, _, _, _, rfl, rfl, SqT.of h, SqT.of h2, by rw [r.length, r2.length, sizeLine_eq]; exact hl, fun e => ?_, fun e e2 => ?_, fun e e2 p hp => ?_⟩
        · have e' := r.nil_iff.mp e
          rw [e', List.nil_append] at q
          exact postv1 rs (.tup h2 r2) q
        · have e' := r2.nil_iff.mp e2
          rw [e', List.append_nil] at q
          exact postv1 rs (.tup h r) q
        · exact q _ _ as (Stp.new hp) (rs.new hp) (.tup upd_same ((r.append r2).mono (Stp.new hp)))
      · exact q.elim
  · split at q
    · rename_i xs ys h1 h2
      obtain ⟨a, rfl, ha, ws, ew, r⟩ := rs.obj hx h1
      obtain ⟨b, rfl, hb, zs, ez, r2⟩ := rs.obj hy h2
      split at q
      · rename_i hl
        refine op_cat pins s σ H _ _ v u Q I rx ry ⟨_, _, _, _, rfl, rfl, ew, ez, by rw [r.length, r2.length, sizeLine_eq]; exact hl, fun p hp => ?_⟩
        exact q _ _ (as ++ [p]) (Stp.alloc hp) (rs.alloc hp ⟨_, upd_same, (r.append r2).mono (Stp.alloc hp)⟩) (newAt rs)
      · exact q.elim
    · exact q.elim
  · exact q.elim
end
end Gv
namespace Gv
open PySem PySem.Spec L2

mutual
def beqD : D → D → Bool
  | .non, .non => true
  | .bl a, .bl b => a == b
  | .int a, .int b => a == b
  | .str a, .str b => decide (a = b)
  | .tup a, .tup b => beqDs a b
  | .obj a, .obj b => a == b
  | _, _ => false
def beqDs : List D → List D → Bool
  | [], [] => true
  | a :: as, b :: bs => beqD a b && beqDs as bs
  | _, _ => false
end
mutual
theorem beqD_eq : ∀ {a b : D}, beqD a b = true → a = b
  | .non, b, h => by cases b <;> simp_all [beqD]
  | .bl x, b, h => by cases b <;> simp_all [beqD]
  | .int x, b, h => by cases b <;> simp_all [beqD]
  | .str x, b, h => by cases b <;> simp_all [beqD]
  | .tup xs, b, h => by
    cases b with
    | tup ys => rw [beqDs_eq (a := xs) (b := ys) (by simpa [beqD] using h)]
    | _ => simp [beqD] at h
  | .obj x, b, h => by cases b <;> simp_all [beqD]
theorem beqDs_eq : ∀ {a b : List D}, beqDs a b = true → a = b
  | [], [], _ => rfl
  | [], _ :: _, h => by simp [beqDs] at h
  | _ :: _, [], h => by simp [beqDs] at h
  | x :: xs, y :: ys, h => by
    simp only [beqDs, Bool.and_eq_true] at h
    rw [beqD_eq h.1, beqDs_eq h.2]
end
mutual
theorem beqD_self : ∀ a : D, beqD a a = true
  | .non => rfl
  | .bl x => by simp [beqD]
  | .int x => by simp [beqD]
  | .str x => by simp [beqD]
  | .tup xs => by simp [beqD, beqDs_self xs]
  | .obj x => by simp [beqD]
theorem beqDs_self : ∀ a : List D, beqDs a a = true
  | [] => rfl
  | x :: xs => by simp [beqDs, beqD_self x, beqDs_self xs]
end
def beqO : Ob → Ob → Bool
  | .lst a, .lst b => beqDs a b
  | .fls a, .fls b => beqDs a b
  | .dK a, .dK b => decide (a.map (·.1) = b.map (·.1)) && beqDs (a.map (·.2)) (b.map (·.2))
  | .dT a, .dT b => decide (a.map (·.1) = b.map (·.1)) && beqDs (a.map (·.2)) (b.map (·.2))
  | _, _ => false
theorem map_pair_eq {κ : Type} : ∀ {a b : List (κ × D)}, a.map (·.1) = b.map (·.1) → a.map (·.2) = b.map (·.2) → a = b
  | [], [], _, _ => rfl
  | [], _ :: _, h, _ => by simp at h
  | _ :: _, [], h, _ => by simp at h
  | (k, v) :: a, (k', v') :: b, h, h' => by
    simp only [List.map_cons, List.cons.injEq] at h h'
    obtain ⟨rfl, h⟩ := h
    obtain ⟨rfl, h'⟩ := h'
    rw [map_pair_eq h h']
theorem beqO_eq : ∀ {a b : Ob}, beqO a b = true → a = b := by
  intro a b h
  cases a <;> cases b <;> simp only [beqO, Bool.and_eq_true, decide_eq_true_eq, Bool.false_eq_true] at h
  · rw [beqDs_eq h]
  · rw [beqDs_eq h]
  · rw [map_pair_eq h.1 (beqDs_eq h.2)]
  · rw [map_pair_eq h.1 (beqDs_eq h.2)]
theorem beqO_self (a : Ob) : beqO a a = true := by
  cases a <;> simp [beqO, beqDs_self]
def beqS : Sto → Sto → Bool
  | [], [] => true
  | a :: as, b :: bs => beqO a b && beqS as bs
  | _, _ => false
theorem beqS_eq : ∀ {a b : Sto}, beqS a b = true → a = b
  | [], [], _ => rfl
  | [], _ :: _, h => by simp [beqS] at h
  | _ :: _, [], h => by simp [beqS] at h
  | x :: xs, y :: ys, h => by
    simp only [beqS, Bool.and_eq_true] at h
    rw [beqO_eq h.1, beqS_eq h.2]
theorem beqS_self : ∀ a : Sto, beqS a a = true
  | [] => rfl
  | x :: xs => by simp [beqS, beqO_self x, beqS_self xs]

/-! ### dropping what no one holds -/
mutual
def D.cl (n : Nat) : D → Bool
  | .tup xs => clDs n xs
  | .obj i => decide (i < n)
  | _ => true
def clDs (n : Nat) : List D → Bool
  | [] => true
  | x :: xs => x.cl n && clDs n xs
end
/-- what was made and is not handed on goes, where all that stood is as it was -/
def gc {α : Type} (cl : Nat → α → Bool) (st : Sto) (r : Re α) : Re α := match r with
  | .ok x s => if cl st.length x = true ∧ beqS (s.take st.length) st = true then .ok x st else .ok x s
  | .er e s => if e.code.cl st.length = true ∧ e.place.cl st.length = true ∧ beqS (s.take st.length) st = true then .er e st else .er e s
  | .no => .no
abbrev gcD : Sto → Re D → Re D := gc D.cl
section
variable {K : PySem.W.Frag} {T : Nat → Addr} {as as' : List Addr} {H H' : Hp} {st s : Sto} {W : WX} {σ : L2.St}
mutual
theorem RV.cut {n : Nat} : ∀ {d : D} {v : V}, RV K as H v d → d.cl n = true → RV K (as.take n) H v d
  | .non, _, .non, _ => .non
  | .bl _, _, .bl b, _ => .bl b
  | .int _, _, .int i, _ => .int i
  | .str _, _, .str i, _ => .str i
  | .tup _, _, .tup h r, e => .tup h (RVs.cut r (by simpa [D.cl] using e))
  | .obj i, _, .obj h, e => .obj (by
      have e : i < n := by simpa [D.cl] using e
      rw [List.getElem?_take_of_lt e]
      exact h)
theorem RVs.cut {n : Nat} : ∀ {ds : List D} {vs : List V}, RVs K as H vs ds → clDs n ds = true → RVs K (as.take n) H vs ds
  | [], _, .nil, _ => .nil
  | _ :: _, _, .cons h r, e => by
    simp only [clDs, Bool.and_eq_true] at e
    exact .cons (RV.cut h e.1) (RVs.cut r e.2)
end
mutual
theorem RV.closed : ∀ {d : D} {v : V}, RV K as H v d → d.cl as.length = true
  | .non, _, .non => rfl
  | .bl _, _, .bl b => rfl
  | .int _, _, .int i => rfl
  | .str _, _, .str i => rfl
  | .tup _, _, .tup h r => by simp [D.cl, RVs.closed r]
  | .obj i, _, .obj h => by simp [D.cl, (List.getElem?_eq_some_iff.mp h).1]
theorem RVs.closed : ∀ {ds : List D} {vs : List V}, RVs K as H vs ds → clDs as.length ds = true
  | [], _, .nil => rfl
  | _ :: _, _, .cons h r => by simp [clDs, RV.closed h, RVs.closed r]
end
theorem RKs.cut {κ : Type} {n : Nat} : ∀ {xs : List (κ × V)} {ys ys' : List (κ × D)}, RKs K as H xs ys → (∀ p ∈ ys, p.2.cl n = true) → RKs K (as.take n) H xs ys
  | _, _, _, .nil, _ => .nil
  | _, _, ys', .cons h r, e => .cons ⟨h.1, RV.cut h.2 (e _ List.mem_cons_self)⟩ (RKs.cut (ys' := ys') r fun p hp => e p (List.mem_cons_of_mem _ hp))
theorem RKs.closed {κ : Type} : ∀ {xs : List (κ × V)} {ys : List (κ × D)}, RKs K as H xs ys → ∀ p ∈ ys, p.2.cl as.length = true
  | _, _, .nil, p, hp => by cases hp
  | _, _, .cons h r, p, hp => by
    rcases List.mem_cons.mp hp with rfl | hp
    · exact h.2.closed
    · exact RKs.closed r p hp
/-- the store cut back to what it was -/
theorem RS.cut (r0 : RS K as H st) (p : Stp as H as' H') (r : RS K as' H' s) (e : s.take st.length = st) : RS K as H' st := by
  obtain ⟨⟨ex, rfl, _⟩, _⟩ := p
  have hl := r0.len
  have get : ∀ i o, st[i]? = some o → s[i]? = some o ∧ i < st.length := fun i o h => by
    have hi := (List.getElem?_eq_some_iff.mp h).1
    rw [← e, List.getElem?_take_of_lt hi] at h
    exact ⟨h, hi⟩
  have tk : (as ++ ex).take st.length = as := by rw [← hl, List.take_left']; rfl
  refine ⟨hl, r0.inj, fun i o h => ?_⟩
  obtain ⟨h1, hi⟩ := get i o h
  obtain ⟨a0, e0, ro0⟩ := r0.ob i o h
  obtain ⟨a, e1, ro⟩ := r.ob i o h1
  rw [List.getElem?_append_left (by omega), e0] at e1
  cases e1
  refine ⟨a0, e0, ?_⟩
  cases o with
  | lst ds =>
    obtain ⟨xs, ex', rx⟩ := ro
    obtain ⟨ys, _, ry⟩ := ro0
    exact ⟨xs, ex', by rw [← tk]; exact rx.cut (by rw [← hl]; exact ry.closed)⟩
  | fls ds =>
    obtain ⟨xs, ex', rx⟩ := ro
    obtain ⟨ys, _, ry⟩ := ro0
    exact ⟨xs, ex', by rw [← tk]; exact rx.cut (by rw [← hl]; exact ry.closed)⟩
  | dK ds =>
    obtain ⟨xs, ex', rx⟩ := ro
    obtain ⟨ys, _, ry⟩ := ro0
    exact ⟨xs, ex', by rw [← tk]; exact rx.cut (ys' := ds) (by rw [← hl]; exact ry.closed)⟩
  | dT ds =>
    obtain ⟨xs, ex', rx⟩ := ro
    obtain ⟨ys, _, ry⟩ := ro0
    exact ⟨xs, ex', by rw [← tk]; exact rx.cut (ys' := ds) (by rw [← hl]; exact ry.closed)⟩
theorem Stp.back (p : Stp as H as' H') : Stp as H as H' := ⟨⟨[], (List.append_nil _).symm, fun _ h => nomatch h⟩, p.tup, p.fr, p.lv⟩
theorem Stp.tk (r0 : RS K as H st) (p : Stp as H as' H') : as'.take st.length = as := by
  obtain ⟨⟨ex, rfl, _⟩, _⟩ := p
  rw [← r0.len, List.take_left']
  rfl
theorem Post.gc {α β : Type} {rel : List Addr → Hp → β → α → Prop} {cl : Nat → α → Bool} {r : Re α} {Q : β → Hp → Prop} (rs : RS K as H st) (hc : ∀ n as H v x, rel as H v x → cl n x = true → rel (as.take n) H v x) (h : Post K T rel W σ as H (gc cl st r) Q) : Post K T rel W σ as H r Q := by
  cases r with
  | no => exact h
  | ok x s =>
    simp only [Gv.gc] at h
    split at h
    · rename_i c
      intro v H' as' p rs' rv
      refine h v H' as p.back (rs.cut p rs' (beqS_eq c.2)) ?_
      have := hc st.length as' H' v x rv c.1
      rw [p.tk rs] at this
      exact this
    · exact h
  | er e s =>
    simp only [Gv.gc] at h
    split at h
    · rename_i c
      intro cls dx H' as' p rs' rx
      refine h cls dx H' as p.back (rs.cut p rs' (beqS_eq c.2.2)) ?_
      obtain ⟨e1, d, vc, vp, e2, e3, r1, r2⟩ := rx
      have k1 := r1.cut c.1
      have k2 := r2.cut c.2.1
      rw [p.tk rs] at k1 k2
      exact ⟨e1, d, vc, vp, e2, e3, k1, k2⟩
    · exact h
end
/-- an expression behind which the store is cleared -/
def dGC (a : ED) : ED := fun en st => gcD st (a en st)
def bGC (a : BD) : BD := fun en st => gc (fun _ _ => true) st (a en st)
section
variable {X : Cx} {T : Nat → Addr} {W : WX} {e : Expr} {d : ED} {b : BD}
theorem g_gc (h : PE X e (tE X.K T W d)) : PE X e (tE X.K T W (dGC d)) := pe_mono h fun σ H Q ⟨en, st, as, rs, re, q⟩ =>
  ⟨en, st, as, rs, re, Post.gc rs (fun n as H v x r c => r.cut c) q⟩
theorem gt_gc (h : PT X e (tT X.K T W b)) : PT X e (tT X.K T W (bGC b)) := pt_mono h fun σ H Q ⟨en, st, as, rs, re, q⟩ =>
  ⟨en, st, as, rs, re, Post.gc rs (fun n as H v x r c => r) q⟩
end
end Gv
namespace Gv
open PySem PySem.Spec L2

/-! ### targets: names -/
abbrev UD := D → En → Option En
def uN (i : Nat) : UD := fun d en => some (en.set i (some d))
def uT2 (i j : Nat) : UD := fun d en => match d with
  | .tup [a, b] => some ((en.set i (some a)).set j (some b))
  | _ => none
def uT3 (i j k : Nat) : UD := fun d en => match d with
  | .tup [a, b, c] => some (((en.set i (some a)).set j (some b)).set k (some c))
  | _ => none
def uT4 (i j k l : Nat) : UD := fun d en => match d with
  | .tup [a, b, c, e] => some ((((en.set i (some a)).set j (some b)).set k (some c)).set l (some e))
  | _ => none
def gOk (K : PySem.W.Frag) (vs : List Nat) (u : UD) (g : TG) : Prop := ∀ as H (σ : L2.St) en v d en' Q, RE K as H σ en → RV K as H v d → u d en = some en' → (∀ σ', RE K as H σ' en' → wipe σ' vs = wipe σ vs → Q σ' H) → g v σ H Q
theorem wipe_set (σ : L2.St) (x : Option V) (i : Nat) : ∀ vs : List Nat, i ∈ vs → wipe (σ.set i x) vs = wipe σ vs
  | [], h => by cases h
  | v :: vs, h => by
    unfold wipe
    by_cases e : i ∈ vs
    · rw [wipe_set σ x i vs e]
    · rcases List.mem_cons.mp h with rfl | h
      · have key : ∀ ws : List Nat, i ∉ ws → wipe (σ.set i x) ws = (wipe σ ws).set i x := by
          intro ws
          induction ws with
          | nil => intro _; rfl
          | cons w ws ih =>
            intro hw
            simp only [List.mem_cons, not_or] at hw
            unfold wipe
            rw [ih hw.2, List.set_comm _ _ hw.1]
        rw [key vs e, List.set_set]
      · exact absurd h e
theorem gok_n {K : PySem.W.Frag} {i : Nat} : gOk K [i] (uN i) (gName i) := by
  intro as H σ en v d en' Q re rv e q
  cases e
  exact q _ (re.set rv) (wipe_set _ _ _ _ (by simp))
theorem gok_t2 {K : PySem.W.Frag} {i j : Nat} : gOk K [i, j] (uT2 i j) (gTup K 2 (gCons (gName i) (gCons (gName j) gNil))) := by
  intro as H σ en v d en' Q re rv e q
  unfold uT2 at e
  split at e
  · cases e
    cases rv with
    | @tup a xs _ h r =>
    cases r with
    | @cons x1 _ _ _ r1 r =>
    cases r with
    | @cons x2 _ _ _ r2 r =>
    cases r
    refine ⟨a, [x1, x2], rfl, SqT.of h, rfl, x1, [x2], rfl, x2, [], rfl, rfl, ?_⟩
    exact q _ ((re.set r1).set r2) (by rw [wipe_set _ _ _ _ (by simp), wipe_set _ _ _ _ (by simp)])
  · cases e
theorem gok_t3 {K : PySem.W.Frag} {i j k : Nat} : gOk K [i, j, k] (uT3 i j k) (gTup K 3 (gCons (gName i) (gCons (gName j) (gCons (gName k) gNil)))) := by
  intro as H σ en v d en' Q re rv e q
  unfold uT3 at e
  split at e
  · cases e
    cases rv with
    | @tup a xs _ h r =>
    cases r with
    | @cons x1 _ _ _ r1 r =>
    cases r with
    | @cons x2 _ _ _ r2 r =>
    cases r with
    | @cons x3 _ _ _ r3 r =>
    cases r
    refine ⟨a, [x1, x2, x3], rfl, SqT.of h, rfl, x1, [x2, x3], rfl, x2, [x3], rfl, x3, [], rfl, rfl, ?_⟩
    exact q _ (((re.set r1).set r2).set r3) (by rw [wipe_set _ _ _ _ (by simp), wipe_set _ _ _ _ (by simp), wipe_set _ _ _ _ (by simp)])
  · cases e
theorem gok_t4 {K : PySem.W.Frag} {i j k l : Nat} : gOk K [i, j, k, l] (uT4 i j k l) (gTup K 4 (gCons (gName i) (gCons (gName j) (gCons (gName k) (gCons (gName l) gNil))))) := by
  intro as H σ en v d en' Q re rv e q
  unfold uT4 at e
  split at e
  · cases e
    cases rv with
    | @tup a xs _ h r =>
    cases r with
    | @cons x1 _ _ _ r1 r =>
    cases r with
    | @cons x2 _ _ _ r2 r =>
    cases r with
    | @cons x3 _ _ _ r3 r =>
    cases r with
    | @cons x4 _ _ _ r4 r =>
    cases r
    refine ⟨a, [x1, x2, x3, x4], rfl, SqT.of h, rfl, x1, [x2, x3, x4], rfl, x2, [x3, x4], rfl, x3, [x4], rfl, x4, [], rfl, rfl, ?_⟩
    exact q _ ((((re.set r1).set r2).set r3).set r4) (by rw [wipe_set _ _ _ _ (by simp), wipe_set _ _ _ _ (by simp), wipe_set _ _ _ _ (by simp), wipe_set _ _ _ _ (by simp)])
  · cases e

/-! ### what is walked -/
structure ItD where
  items : List D
  gd : Option (Nat × List D)
def ItD.ok (it : ItD) (k : Nat) (st : Sto) : Bool := match it.gd with
  | none => true
  | some (i, xs) => match (st[i]?).bind Ob.seq with
    | some ys => match xs[k]?, ys[k]? with
      | some x, some y => beqD y x
      | none, none => true
      | _, _ => false
    | none => false
structure JR (K : PySem.W.Frag) (as0 : List Addr) (H0 : Hp) (J : It) (it : ItD) : Prop where
  go : ∀ i as H st, Stp as0 H0 as H → RS K as H st → it.ok i st = true → ∀ d, it.items[i]? = some d → J.go i H ∧ ∀ x H', J.yld i H x H' → Stp as H as H' ∧ RS K as H' st ∧ RV K as H' x d
  stop : ∀ as H st, Stp as0 H0 as H → RS K as H st → it.ok it.items.length st = true → J.stop it.items.length H
abbrev ID := En → Sto → Re ItD
def tI (K : PySem.W.Frag) (T : Nat → Addr) (W : WX) (d : ID) : TI := fun σ H R => ∃ en st as, RS K as H st ∧ RE K as H σ en ∧ Post K T (JR K) W σ as H (d en st) R
theorem pi_mono {X : Cx} {tg e : Expr} {t t' : TI} (h : PI X tg e t) (m : ∀ σ H R, t' σ H R → t σ H R) : PI X tg e t' := ⟨fun pins s σ H R I q => h.run pins s σ H R I (m _ _ _ q)⟩
theorem pi_orT' {X : Cx} {tg e : Expr} {t t' : TI} (h : PI X tg e t) (h' : PI X tg e t') : PI X tg e (fun σ H R => t σ H R ∨ t' σ H R) := ⟨fun pins s σ H D I q => q.elim (h.run pins s σ H D I) (h'.run pins s σ H D I)⟩
/-- a list or a tuple -/
def iSeq (a : ED) : ID := fun en st => (a en st).bind fun x s1 => match x with
  | .tup xs => .ok ⟨xs, none⟩ s1
  | .obj i => match s1[i]? with
    | some (.lst xs) => .ok ⟨xs, some (i, xs)⟩ s1
    | some (.fls xs) => .ok ⟨xs, some (i, xs)⟩ s1
    | _ => .no
  | _ => .no
def rng (lo : Int) : Nat → List D
  | 0 => []
  | n + 1 => .int lo :: rng (lo + 1) n
theorem rng_len : ∀ (n : Nat) (lo : Int), (rng lo n).length = n
  | 0, _ => rfl
  | n + 1, lo => by rw [rng, List.length_cons, rng_len n]
theorem rng_get : ∀ (n : Nat) (lo : Int) (i : Nat), i < n → (rng lo n)[i]? = some (.int (lo + i))
  | 0, _, _, h => absurd h (Nat.not_lt_zero _)
  | n + 1, lo, 0, _ => by simp [rng]
  | n + 1, lo, i + 1, h => by
    rw [rng, List.getElem?_cons_succ, rng_get n (lo + 1) i (by omega)]
    congr 2
    omega
/-- range(n), range(a, b) -/
def iRg1 (a : AD) : ID := fun en st => (a en st).bind fun xs s1 => match xs with
  | [.int j] => if -4611686018427387904 ≤ j ∧ j < 4611686018427387904 then .ok ⟨rng 0 j.toNat, none⟩ s1 else .no
  | _ => .no
def iRg2 (a : AD) : ID := fun en st => (a en st).bind fun xs s1 => match xs with
  | [.int i, .int j] => if (-4611686018427387904 ≤ i ∧ i < 4611686018427387904) ∧ -4611686018427387904 ≤ j ∧ j < 4611686018427387904 then .ok ⟨rng i (j - i).toNat, none⟩ s1 else .no
  | _ => .no
section
variable {K : PySem.W.Frag} {as : List Addr} {H : Hp} {st : Sto}
theorem Sq_of {i : Nat} {a : Addr} {xs : List D} (rs : RS K as H st) (h : as[i]? = some a) (e : st[i]? = some (.lst xs) ∨ st[i]? = some (.fls xs)) : ∃ ys, SqL K H a ys ∧ RVs K as H ys xs := by
  rcases e with e | e
  · obtain ⟨ys, ey, r⟩ := rs.at' h e
    exact ⟨ys, SqL.of ey, r⟩
  · obtain ⟨ys, ey, r⟩ := rs.at' h e
    exact ⟨ys, ey.sq, r⟩
theorem jr_tup {as0 : List Addr} {H0 : Hp} {a : Addr} {ys : List V} {xs : List D} (h : H0 a = some (.tup ys)) (r : RVs K as0 H0 ys xs) : JR K as0 H0 (Itt K a) ⟨xs, none⟩ where
  go := fun i as H st p rs _ d hd => by
    have h' := p.tup _ _ h
    obtain ⟨v, hv, rv⟩ := (r.mono p).get hd
    refine ⟨⟨ys, v, SqT.of h', hv⟩, fun x H' y => ?_⟩
    obtain ⟨rfl, y⟩ := y
    have := y ys (SqT.of h')
    rw [hv] at this
    cases this
    exact ⟨Stp.refl, rs, rv⟩
  stop := fun as H st p rs _ => ⟨ys, SqT.of (p.tup _ _ h), by rw [r.length]; exact Nat.le_refl _⟩
theorem guard_at {i0 k : Nat} {xs items : List D} {a : Addr} (rs : RS K as H st) (h : as[i0]? = some a) (ok : ItD.ok ⟨items, some (i0, xs)⟩ k st = true) :
    ∃ vs, SqL K H a vs ∧ (∀ d, xs[k]? = some d → ∃ v, vs[k]? = some v ∧ RV K as H v d) ∧ (xs[k]? = none → vs.length ≤ k) := by
  simp only [ItD.ok] at ok
  cases eo : st[i0]? with
  | none => rw [eo] at ok; cases ok
  | some o =>
    rw [eo] at ok
    simp only [Option.bind_some] at ok
    cases es : o.seq with
    | none => rw [es] at ok; cases ok
    | some ys =>
      rw [es] at ok
      obtain ⟨vs, sq, r⟩ := (rs.at' h eo).seq es
      refine ⟨vs, sq, fun d hd => ?_, fun hd => ?_⟩
      · cases ey : ys[k]? with
        | none => simp [hd, ey] at ok
        | some y =>
          simp [hd, ey] at ok
          have := beqD_eq ok
          subst this
          exact r.get ey
      · cases ey : ys[k]? with
        | none => rw [r.length]; exact List.getElem?_eq_none_iff.mp ey
        | some y => simp [hd, ey] at ok
theorem jr_lst {as0 : List Addr} {H0 : Hp} {a : Addr} {i0 : Nat} {xs : List D} (h : as0[i0]? = some a) : JR K as0 H0 (Itl K a) ⟨xs, some (i0, xs)⟩ where
  go := fun i as H st p rs ok d hd => by
    obtain ⟨vs, sq, g1, _⟩ := guard_at rs (p.get h) ok
    obtain ⟨v, hv, rv⟩ := g1 d hd
    refine ⟨⟨vs, v, sq, hv⟩, fun x H' y => ?_⟩
    obtain ⟨rfl, y⟩ := y
    have := y vs sq
    rw [hv] at this
    cases this
    exact ⟨Stp.refl, rs, rv⟩
  stop := fun as H st p rs ok => by
    obtain ⟨vs, sq, _, g2⟩ := guard_at rs (p.get h) ok
    exact ⟨vs, sq, g2 (List.getElem?_eq_none (Nat.le_refl _))⟩
theorem jr_rng {as0 : List Addr} {H0 : Hp} {lo : Int} {n : Nat} : JR K as0 H0 (Itr lo n) ⟨rng lo n, none⟩ where
  go := fun i as H st p rs _ d hd => by
    have hi : i < n := by
      have := (List.getElem?_eq_some_iff.mp hd).1
      rw [rng_len] at this
      exact this
    refine ⟨hi, fun x H' y => ?_⟩
    obtain ⟨rfl, rfl⟩ := y
    rw [rng_get n lo i hi] at hd
    cases hd
    exact ⟨Stp.refl, rs, .int _⟩
  stop := fun as H st p rs _ => by
    show n ≤ (rng lo n).length
    rw [rng_len]
    exact Nat.le_refl _
end
section
variable {X : Cx} {T : Nat → Addr} {W : WX} {tg a b : Expr} {es : List Expr} {da : ED} {ds : AD} {pos p : Pos}
theorem gi_seq (ha : PE X a (tE X.K T W da)) : PI X tg a (tI X.K T W (iSeq da)) := by
  refine pi_mono (pi_orT' (pi_list ha) (pi_tup ha)) fun σ H R ⟨en, st, as, rs, re, q⟩ => ?_
  unfold iSeq at q
  cases e : da en st with
  | no => rw [e] at q; exact q.elim
  | er x s =>
    refine .inl ⟨en, st, as, rs, re, ?_⟩
    rw [e] at q ⊢
    exact q
  | ok x s1 =>
    rw [e] at q
    cases x with
    | tup xs =>
      refine .inr ⟨en, st, as, rs, re, ?_⟩
      rw [e]
      intro v H' as' p rs' rv
      cases rv with
      | @tup a ys _ h r => exact ⟨a, rfl, ⟨ys, SqT.of h⟩, q _ H' as' p rs' (jr_tup h r)⟩
    | obj i =>
      refine .inl ⟨en, st, as, rs, re, ?_⟩
      rw [e]
      dsimp only [Re.bind] at q
      split at q
      · rename_i xs hx
        intro v H' as' p rs' rv
        cases rv with
        | @obj a _ h =>
          obtain ⟨ys, sq, r⟩ := Sq_of rs' h (.inl hx)
          exact ⟨a, rfl, ⟨ys, sq⟩, q _ H' as' p rs' (jr_lst h)⟩
      · rename_i xs hx
        intro v H' as' p rs' rv
        cases rv with
        | @obj a _ h =>
          obtain ⟨ys, sq, r⟩ := Sq_of rs' h (.inr hx)
          exact ⟨a, rfl, ⟨ys, sq⟩, q _ H' as' p rs' (jr_lst h)⟩
      · exact q.elim
    | _ => exact q.elim
theorem gi_rg1 (ha : PA X [a] (tA X.K T W ds)) (hm : X.mg "range" = none) (hg : Gl X "range" := by rfl) (hs : starEach [a] X.env = [(false, eval a X.env)] := by rfl) : PI X tg (.Call (.Name "range" p) [a] [] pos) (tI X.K T W (iRg1 ds)) := by
  refine pi_mono (pi_range1 hg hm ha hs) fun σ H R ⟨en, st, as, rs, re, q⟩ => ?_
  refine ⟨en, st, as, rs, re, q.bind.imp fun vs H1 ⟨as1, s1, xs, p1, rs1, rx, q1⟩ => ?_⟩
  split at q1
  · split at q1
    · cases rx with
      | cons r1 rr =>
        cases rr
        cases r1
        exact ⟨_, rfl, by omega, by omega, q1 _ H1 as1 Stp.refl rs1 jr_rng⟩
    · exact q1.elim
  · exact q1.elim
theorem gi_rg2 (ha : PA X [a, b] (tA X.K T W ds)) (hm : X.mg "range" = none) (hg : Gl X "range" := by rfl) (hs : starEach [a, b] X.env = [(false, eval a X.env), (false, eval b X.env)] := by rfl) (hs2 : starEach [b] X.env = [(false, eval b X.env)] := by rfl) :
    PI X tg (.Call (.Name "range" p) [a, b] [] pos) (tI X.K T W (iRg2 ds)) := by
  refine pi_mono (pi_range2 hg hm ha hs hs2) fun σ H R ⟨en, st, as, rs, re, q⟩ => ?_
  refine ⟨en, st, as, rs, re, q.bind.imp fun vs H1 ⟨as1, s1, xs, p1, rs1, rx, q1⟩ => ?_⟩
  split at q1
  · split at q1
    · rename_i hc
      cases rx with
      | cons r1 rr =>
        cases rr with
        | cons r2 rr =>
          cases rr
          cases r1
          cases r2
          exact ⟨_, _, rfl, ⟨by omega, by omega, by omega, by omega⟩, q1 _ H1 as1 Stp.refl rs1 jr_rng⟩
    · exact q1.elim
  · exact q1.elim
end

/-! ### comprehensions -/
def wipeE (en : En) : List Nat → En
  | [] => en
  | v :: vs => (wipeE en vs).set v none
theorem RE.wipe {K : PySem.W.Frag} {as : List Addr} {H : Hp} {σ : L2.St} {en : En} (re : RE K as H σ en) : ∀ vs : List Nat, RE K as H (L2.wipe σ vs) (wipeE en vs)
  | [] => re
  | v :: vs => (RE.wipe re vs).unset
def compL (it : ItD) (u : UD) (c : BD) (elt : ED) (en : En) (n : Nat) : Nat → List D → Sto → Re Unit
  | k, [], st => if it.ok k st = true then .ok () st else .no
  | k, d :: ds, st => if it.ok k st = true then match u d en with
      | some en1 => (c en1 st).bind fun b s2 => if b = true then (elt en1 s2).bind fun y s3 => match s3[n]? with
            | some (.lst acc) => if acc.length < 16777216 then compL it u c elt en n (k + 1) ds (s3.set n (.lst (acc ++ [y]))) else .no
            | _ => .no
          else compL it u c elt en n (k + 1) ds s2
      | none => .no
    else .no
/-- errors out of a comprehension are not followed -/
def noEr {α : Type} (r : Re α) : Re α := match r with
  | .er _ _ => .no
  | r => r
def bYes : BD := fun _ st => .ok true st
def dLC (own : List Nat) (i : ID) (u : UD) (c : BD) (elt : ED) : ED := fun en st => (i en st).bind fun it s1 =>
  (noEr (compL it u c elt (wipeE en own) s1.length 0 it.items (s1 ++ [.lst []]))).bind fun _ s2 => .ok (.obj s1.length) s2
abbrev WF : WX := fun _ _ _ _ => False
theorem Post.wf {K : PySem.W.Frag} {T : Nat → Addr} {α β : Type} {rel : List Addr → Hp → β → α → Prop} {σ : L2.St} {as : List Addr} {H : Hp} {r : Re α} {Q : β → Hp → Prop} (h : Post K T rel WF σ as H r Q) {σ' : L2.St} : Post K T rel WF σ' as H r Q := by
  cases r with
  | ok x s => exact h
  | er e s => exact h
  | no => exact h
theorem Post.noEr {K : PySem.W.Frag} {T : Nat → Addr} {α β : Type} {rel : List Addr → Hp → β → α → Prop} {W : WX} {σ : L2.St} {as : List Addr} {H : Hp} {r : Re α} {Q : β → Hp → Prop} (h : Post K T rel W σ as H (Gv.noEr r) Q) {W' : WX} {σ' : L2.St} : Post K T rel W' σ' as H r Q := by
  cases r with
  | ok x s => exact h
  | er e s => exact h.elim
  | no => exact h
section
variable {X : Cx} {T : Nat → Addr} {W : WX} {elt tg iter : Expr} {ifs : List Expr} {scope : Scope} {own : List (Str × Nat)} {pos : Pos} {di : ID} {u : UD} {g : TG} {dc : BD} {de : ED}
theorem gts_nil : PTs X [] (tT X.K T W bYes) := ⟨fun pins s σ H Q I ⟨en, st, as, rs, re, q⟩ => pts_nil.run pins s σ H Q I (q true H as Stp.refl rs rfl)⟩
theorem gts_one {c : Expr} (h : PT X c (tT X.K T W dc)) : PTs X [c] (tT X.K T W dc) := pts_one h
/-- the turns of a comprehension -/
theorem comp_turn {K : PySem.W.Frag} {σ : L2.St} {en : En} {J : It} {it : ItD} {as1 : List Addr} {H1 : Hp} {s1 : Sto} {vs : List Nat} {Dn : Addr} {Qd : Hp → Prop} (gk : gOk K vs u g) (re : RE K as1 H1 σ en) (rs1 : RS K as1 H1 s1) (jr : JR K as1 H1 J it) (hD : H1 Dn = none)
    (q : Post K T (fun as H (_ : Unit) (_ : Unit) => as[s1.length]? = some Dn) WF σ (as1 ++ [Dn]) (upd H1 Dn (.lst [])) (compL it u dc de (wipeE en vs) s1.length 0 it.items (s1 ++ [.lst []])) fun _ H => Qd H) :
    ∃ W : Nat → Nat → Hp → Prop, (∃ m, W 0 m (upd H1 Dn (.lst []))) ∧ ∀ i m H, W i m H →
      (J.stop i H ∧ Qd H) ∨ (J.go i H ∧ ∃ Nx : Hp → Prop, (∀ H', Nx H' → ∃ m', m' < m ∧ W (i + 1) m' H') ∧ ∀ x H', J.yld i H x H' → g x (L2.wipe σ vs) H' fun σ2 H2 => L2.wipe σ2 vs = L2.wipe σ vs ∧ tT K T WF dc σ2 H2 fun b H3 =>
        if b = true then tE K T WF de σ2 H3 fun y H4 => ∃ acc, H4 Dn = some (.lst acc) ∧ acc.length < sizeLine ∧ Nx (upd H4 Dn (.lst (acc ++ [y]))) else Nx H3) := by
  have ww : ∀ σ : L2.St, L2.wipe (L2.wipe σ vs) vs = L2.wipe σ vs := by
    intro σ
    have key : ∀ (ws us : List Nat), (∀ w ∈ ws, w ∈ us) → L2.wipe (L2.wipe σ ws) us = L2.wipe σ us := by
      intro ws
      induction ws with
      | nil => intro us _; rfl
      | cons w ws ih =>
        intro us h
        show L2.wipe ((L2.wipe σ ws).set w none) us = L2.wipe σ us
        rw [show L2.wipe ((L2.wipe σ ws).set w none) us = L2.wipe (L2.wipe σ ws) us from wipe_set _ _ _ _ (h w List.mem_cons_self)]
        exact ih us fun x hx => h x (List.mem_cons_of_mem _ hx)
    exact key vs vs fun _ h => h
  have p0 : Stp as1 H1 (as1 ++ [Dn]) (upd H1 Dn (.lst [])) := Stp.alloc hD
  refine ⟨fun i m H => ∃ as st, Stp (as1 ++ [Dn]) (upd H1 Dn (.lst [])) as H ∧ RS K as H st ∧ m = it.items.length - i ∧ i ≤ it.items.length ∧
      Post K T (fun as H (_ : Unit) (_ : Unit) => as[s1.length]? = some Dn) WF σ as H (compL it u dc de (wipeE en vs) s1.length i (it.items.drop i) st) fun _ H => Qd H,
    ⟨_, as1 ++ [Dn], s1 ++ [.lst []], Stp.refl, (show RS K (as1 ++ [Dn]) (upd H1 Dn (.lst [])) (s1 ++ [Ob.lst []]) from rs1.alloc (x := Ob.lst []) hD ⟨[], upd_same, .nil⟩), rfl, Nat.zero_le _, (by rw [List.drop_zero]; exact q)⟩, ?_⟩
  rintro i m H ⟨as, st, p, rs, rfl, hi, q⟩
  have pd : as[s1.length]? = some Dn := p.get (by rw [← rs1.len, List.getElem?_append_right (Nat.le_refl _), Nat.sub_self]; rfl)
  by_cases hlt : i < it.items.length
  · have hd : it.items[i]? = some it.items[i] := List.getElem?_eq_getElem hlt
    rw [List.drop_eq_getElem_cons hlt] at q
    simp only [compL] at q
    by_cases ok : it.ok i st = true
    · rw [if_pos ok] at q
      obtain ⟨go, yld⟩ := jr.go i as H st (p0.trans p) rs ok _ hd
      refine .inr ⟨go, fun H' => ∃ as' st', Stp (as1 ++ [Dn]) (upd H1 Dn (.lst [])) as' H' ∧ RS K as' H' st' ∧ Post K T (fun as H (_ : Unit) (_ : Unit) => as[s1.length]? = some Dn) WF σ as' H' (compL it u dc de (wipeE en vs) s1.length (i + 1) (it.items.drop (i + 1)) st') fun _ H => Qd H,
        fun H' ⟨as', st', p', rs', q'⟩ => ⟨it.items.length - (i + 1), by omega, as', st', p', rs', rfl, hlt, q'⟩, fun x H' y => ?_⟩
      obtain ⟨py, rs', rx⟩ := yld x H' y
      cases eu : u it.items[i] (wipeE en vs) with
      | none => rw [eu] at q; exact q.elim
      | some en1 =>
        rw [eu] at q
        dsimp only at q
        refine gk as H' _ _ x _ en1 _ (((re.mono (p0.trans p)).mono py).wipe vs) rx eu fun σ2 re2 hw => ⟨hw.trans (ww σ), en1, st, as, rs', re2, ?_⟩
        have q0 := Post.shift q py
        have q1 := q0.bind (rel := relB)
        refine Post.imp (Post.wf q1 (σ' := σ2)) fun b H3 ⟨as3, s3, b', p3, rs3, rb, q3⟩ => ?_
        cases rb
        cases b with
        | false =>
          exact ⟨as3, s3, (p.trans py).trans p3, rs3, q3⟩
        | true =>
          rw [if_pos rfl]
          rw [if_pos rfl] at q3
          refine ⟨en1, s3, as3, rs3, re2.mono p3, Post.imp (Post.wf (q3.bind (rel := RV K))) fun y H4 ⟨as4, s4, dy, p4, rs4, ry, q4⟩ => ?_⟩
          have pd4 : as4[s1.length]? = some Dn := ((py.trans p3).trans p4).get pd
          split at q4
          · rename_i acc hacc
            split at q4
            · rename_i hl
              obtain ⟨ys, ey, r⟩ := rs4.at' pd4 hacc
              refine ⟨ys, ey, by rw [r.length, sizeLine_eq]; exact hl, as4, _, ?_, rs4.write (y := .lst (acc ++ [dy])) pd4 hacc trivial trivial ⟨ys ++ [y], upd_same, ?_⟩, Post.shift q4 (Stp.write pd4 ey trivial)⟩
              · exact (((p.trans py).trans p3).trans p4).trans (Stp.write pd4 ey trivial)
              · exact (r.append (.cons ry .nil)).mono (Stp.write pd4 ey trivial)
            · exact q4.elim
          · exact q4.elim
    · rw [if_neg ok] at q
      exact q.elim
  · have e : i = it.items.length := by omega
    subst e
    rw [List.drop_length] at q
    simp only [compL] at q
    by_cases ok : it.ok it.items.length st = true
    · rw [if_pos ok] at q
      exact .inl ⟨jr.stop as H st (p0.trans p) rs ok, q () H as Stp.refl rs pd⟩
    · rw [if_neg ok] at q
      exact q.elim
theorem g_lc (hc : X.calm = true) (hN : X.N.Nodup) (hi : PI X tg iter (tI X.K T W di)) (ok : BlkOk X.N X.env.scope scope own) (gk : gOk X.K (own.map (·.2)) u g)
    (hg : ∀ (s : Shared) (H : Hp) (C : Addr) (cl : List (Str × Addr)) (fp : List Addr), PG (X.blk s H scope (compEnvC scope cl C X.env) fp) tg g)
    (ht : ∀ (s : Shared) (H : Hp) (C : Addr) (cl : List (Str × Addr)) (fp : List Addr), PTs (X.blk s H scope (compEnvC scope cl C X.env) fp) ifs (tT X.K T WF dc))
    (he : ∀ (s : Shared) (H : Hp) (C : Addr) (cl : List (Str × Addr)) (fp : List Addr), PE (X.blk s H scope (compEnvC scope cl C X.env) fp) elt (tE X.K T WF de)) (hs : ∀ x, foldedSetIterable iter X.env x = pure x := by intro _; rfl) :
    PE X (.ListComp elt [⟨tg, iter, ifs, 0⟩] scope pos) (tE X.K T W (dLC (own.map (·.2)) di u dc de)) := by
  refine pe_mono (pe_lc hc hN hi ok hg ht he hs) fun σ H Q ⟨en, st, as, rs, re, q⟩ => ?_
  refine ⟨en, st, as, rs, re, q.bind.imp fun J H1 ⟨as1, s1, it, p1, rs1, jr, q1⟩ Dn hD => ?_⟩
  refine comp_turn gk (re.mono p1) rs1 jr hD (Qd := Q (.ref Dn)) ?_
  have q2 := Post.shift q1 (Stp.alloc (o := .lst []) hD)
  have q3 := q2.bind (rel := fun as H (_ : Unit) (_ : Unit) => as[s1.length]? = some Dn)
  refine Post.imp (Post.noEr q3) fun v H2 ⟨as2, s2, x, p2, rs2, r2, q4⟩ => ?_
  exact q4 _ H2 as2 Stp.refl rs2 (.obj r2)
theorem gs_setLc {i : Nat} {y : Str} {py spos : Pos} (hc : X.calm = true) (hN : X.N.Nodup) (hy : X.N[i]? = some y) (hyl : X.env.scope.names.lookup y = some .local)
    (hsw : swapsWith (.ListComp elt [⟨tg, iter, ifs, 0⟩] scope pos) (some (.Name y py)) spos.line X.env = pure true) (hi : PI X tg iter (tI X.K T W di)) (ok : BlkOk X.N X.env.scope scope own) (gk : gOk X.K (own.map (·.2)) u g)
    (hg : ∀ (s : Shared) (H : Hp) (C : Addr) (cl : List (Str × Addr)) (fp : List Addr), PG (X.blk s H scope (compEnvC scope cl C X.env) fp) tg g)
    (ht : ∀ (s : Shared) (H : Hp) (C : Addr) (cl : List (Str × Addr)) (fp : List Addr), PTs (X.blk s H scope (compEnvC scope cl C X.env) fp) ifs (tT X.K T WF dc))
    (he : ∀ (s : Shared) (H : Hp) (C : Addr) (cl : List (Str × Addr)) (fp : List Addr), PE (X.blk s H scope (compEnvC scope cl C X.env) fp) elt (tE X.K T WF de)) (hs : ∀ x, foldedSetIterable iter X.env x = pure x := by intro _; rfl) :
    PS X (.Assign [.Name y py] (.ListComp elt [⟨tg, iter, ifs, 0⟩] scope pos) spos) (tS X.K T W (fun en st => (dLC (own.map (·.2)) di u dc de en st).toS en fun x s1 => .nx (en.set i (some x)) s1)) := by
  refine ps_mono (ps_setLc hc hN hy hyl hsw hi ok hg ht he hs) fun D σ H ⟨en, st, as, rs, re, q⟩ => ?_
  have q0 := PostS.bind (rel := RV X.K) re q
  refine ⟨en, st, as, rs, re, (Post.bind (show Post X.K T (RV X.K) W σ as H (dLC (own.map (·.2)) di u dc de en st) _ from q0)).imp fun J H1 ⟨as1, s1, it, p1, rs1, jr, q1⟩ Dn hD => ?_⟩
  refine comp_turn gk (re.mono p1) rs1 jr hD (Qd := fun H => D.nx (σ.set i (some (.ref Dn))) H) ?_
  have q2 := Post.shift q1 (Stp.alloc (o := .lst []) hD)
  have q3 := q2.bind (rel := fun as H (_ : Unit) (_ : Unit) => as[s1.length]? = some Dn)
  refine Post.imp (Post.noEr q3) fun v H2 ⟨as2, s2, x, p2, rs2, r2, q4⟩ => ?_
  obtain ⟨as5, s5, x5, p5, rs5, r5, re5, q5⟩ := q4 _ H2 as2 Stp.refl rs2 (.obj r2)
  exact q5 _ H2 as5 Stp.refl rs5 (re5.set r5)
end
end Gv
namespace Gv
open PySem PySem.Spec L2

/-! ### defs -/
abbrev FnD := List D → Sto → Re D
def dFn (n ar : Nat) (body : SD) : FnD := fun ds st => if ds.length = ar then match body (ds.map some ++ List.replicate (n - ar) none) st with
    | .rt d s => .ok d s
    | .nx _ s => .ok .non s
    | .er e _ s => .er e s
    | _ => .no
  else .no
def spD (K : PySem.W.Frag) (T : Nat → Addr) (ar : Nat) (f : FnD) : Sp := fun vs H Q E => vs.length = ar ∧ ∃ ds st as, RS K as H st ∧ RVs K as H vs ds ∧ Post K T (RV K) (fun cls d _ H => E cls d H) [] as H (f ds st) Q
/-- a def does what f says -/
structure GF (P : Program) (w : World) (K : PySem.W.Frag) (mg : Str → Option Value) (base : Heap) (T : Nat → Addr) (k : Nat) (fa : Addr) (fd : FuncData) (ps : List Str) (f : FnD) : Prop where
  ok : FnOk P w K mg base (L2.CX P w) k fa fd ps (spD K T ps.length f)
  len : ∀ ds st, ds.length ≠ ps.length → f ds st = .no
theorem dFn_len {n ar : Nat} {body : SD} : ∀ ds st, ds.length ≠ ar → dFn n ar body ds st = .no := fun ds st h => if_neg h
theorem RVs.start {K : PySem.W.Frag} {as : List Addr} {H : Hp} : ∀ {vs : List V} {ds : List D} {i : Nat} {d : D} {k : Nat}, RVs K as H vs ds → (ds.map some ++ List.replicate k none)[i]? = some (some d) → ∃ v, (vs.map some ++ List.replicate k none)[i]? = some (some v) ∧ RV K as H v d
  | _, _, i, d, k, .nil, h => by
    rw [List.map_nil, List.nil_append, List.getElem?_replicate] at h
    split at h <;> cases h
  | _, _, 0, d, k, .cons h r, e => by
    simp only [List.map_cons, List.cons_append, List.getElem?_cons_zero, Option.some.injEq] at e
    subst e
    exact ⟨_, rfl, h⟩
  | _, _, i + 1, d, k, .cons h r, e => by
    simp only [List.map_cons, List.cons_append, List.getElem?_cons_succ] at e
    obtain ⟨v, e1, e2⟩ := RVs.start (i := i) r e
    exact ⟨v, by simpa using e1, e2⟩
section
variable {P : Program} {w : World} {K : PySem.W.Frag} {mg : Str → Option Value} {base : Heap} {T : Nat → Addr}
abbrev WE0 (E : XK) : WX := fun cls d _ H => E cls d H
/-- THE RULE for a def by its body -/
theorem g_fn {x qual : Str} {st : Stmt} {f : Addr} {fd : FuncData} {N ps : List Str} {k : Nat} {sd : SD} (F : Fun K x qual st f fd) (S : FnScope N ps (defScope st))
    (hbody : ∀ (cdv : Value) (A : Around) (outer : List Env) (s : Shared) (H : Hp) (E : XK), Room k (A.deeper (PyProof.Rows.envOfC qual (defScope st) s.heap.objs.size f cdv)) →
      Takes (cxOf (L2.CX P w) P w K mg base N qual (defScope st) f cdv A outer s H E) (WE0 E) → PassesOwn (model P w) (A.deeper (PyProof.Rows.envOfC qual (defScope st) s.heap.objs.size f cdv)) (PyProof.Rows.envOfC qual (defScope st) s.heap.objs.size f cdv) (cxOf (L2.CX P w) P w K mg base N qual (defScope st) f cdv A outer s H E).xe →
      PSs (cxOf (L2.CX P w) P w K mg base N qual (defScope st) f cdv A outer s H E) (defBody st) (tS K T (WE0 E) sd)) : GF P w K mg base T (k + 1) f fd ps (dFn N.length ps.length sd) := by
  refine ⟨F.okX S (fun vs H Q E h => h.1) (fun cdv A outer s H vs Q E hr h => ⟨_, hbody cdv A outer s H E hr (takes_of rfl rfl rfl rfl) (passes_of rfl), ?_⟩), dFn_len⟩
  obtain ⟨hl, ds, st0, as, rs, rx, q⟩ := h
  have hd : ds.length = ps.length := by rw [← rx.length]; exact hl
  refine ⟨ds.map some ++ List.replicate (N.length - ps.length) none, st0, as, rs, ⟨?_, fun i d e => ?_⟩, ?_⟩
  · unfold L2.start
    simp only [List.length_append, List.length_map, List.length_replicate, hl, hd]
  · unfold L2.start
    rw [hl]
    exact rx.start e
  · unfold dFn at q
    rw [if_pos hd] at q
    cases e : sd (ds.map some ++ List.replicate (N.length - ps.length) none) st0 with
    | nx en s' => rw [e] at q; exact fun σ' H' as' p rs' re => q .non H' as' p rs' .non
    | rt d s' => rw [e] at q; exact q
    | bk en s' => rw [e] at q; exact q.elim
    | ct en s' => rw [e] at q; exact q.elim
    | er x en s' => rw [e] at q; exact fun cls dx σ' H' as' p rs' re rx => q cls dx H' as' p rs' rx
    | no => rw [e] at q; exact q.elim
/-- a def of which nothing is known -/
theorem g_zero {f : Addr} {fd : FuncData} {ps : List Str} : GF P w K mg base T 0 f fd ps (fun _ _ => .no) :=
  ⟨⟨fun vs H Q E h => h.1, fun A outer s H args us vs Q E _ _ _ _ h => by
    obtain ⟨_, ds, st, as, _, _, q⟩ := h
    exact q.elim⟩, fun _ _ _ => rfl⟩
theorem GF.mono {j k : Nat} {f : Addr} {fd : FuncData} {ps : List Str} {d : FnD} (g : GF P w K mg base T j f fd ps d) (h : j ≤ k) : GF P w K mg base T k f fd ps d := ⟨g.ok.mono h, g.len⟩
end
def dCall (f : FnD) (a : AD) : ED := fun en st => gcD st ((a en st).bind fun xs s1 => f xs s1)
section
variable {X : Cx} {T : Nat → Addr} {W : WX}
theorem g_call {k : Nat} {fa : Addr} {fd : FuncData} {ps : List Str} {f : FnD} {x : Str} {p pos : Pos} {e : Expr} {es : List Expr} {da : AD} (F : GF X.prog X.w X.K X.mg X.base T k fa fd ps f) (hr : Room k X.A) (tk : Takes X W) (hm : X.mg x = some (.ref fa)) (hk : PySem.W.keepIn X.K (.ref fa) = true) (hb : Binds X.K fd ps [])
    (ha : PA X (e :: es) (tA X.K T W da)) (hg : Gl X x := by rfl) (hdb : (x == ("__debug__" : Str)) = false := by decide) (he : starEach (e :: es) X.env = (false, eval e X.env) :: starEach es X.env := by rfl) (hpl : (backTo pos (starEach es X.env)).any (·.1) = false := by rfl) :
    PE X (.Call (.Name x p) (e :: es) [] pos) (tE X.K T W (dCall f da)) := by
  refine pe_mono (pe_callS F.ok hr hg hm hk hb (fun σ => passAt tk σ) ha hdb he hpl) fun σ H Q ⟨en, st, as, rs, re, q⟩ => ?_
  have q0 := Post.gc rs (fun n as H v x r c => r.cut c) q
  refine ⟨en, st, as, rs, re, q0.bind.imp fun vs H1 ⟨as1, s1, xs, p1, rs1, rx, q1⟩ => ?_⟩
  by_cases hl : xs.length = ps.length
  · refine ⟨by rw [rx.length]; exact hl, xs, s1, as1, rs1, rx, ?_⟩
    cases e : f xs s1 with
    | ok a b => rw [e] at q1; exact q1
    | er a b => rw [e] at q1; exact q1
    | no => rw [e] at q1; exact q1
  · rw [F.len xs s1 hl] at q1
    exact q1.elim
/-- built-ins -/
theorem g_callB {id : String} {f : FN} {x : Str} {p pos : Pos} {e : Expr} {es : List Expr} {da : AD} (hc : CallR X (.builtin id) (cOf X.K f)) (hm : X.mg x = none) (hv : bootBuiltins x = some (.builtin id)) (ha : PA X (e :: es) (tA X.K T W da)) (hg : Gl X x := by rfl) (hn : x ≠ "__name__" := by decide) (hdb : (x == ("__debug__" : Str)) = false := by decide)
    (he : starEach (e :: es) X.env = (false, eval e X.env) :: starEach es X.env := by rfl) (hpl : (backTo pos (starEach es X.env)).any (·.1) = false := by rfl) : PE X (.Call (.Name x p) (e :: es) [] pos) (tE X.K T W (dGC (dCB f da))) := by
  refine g_gc (pe_mono (pe_callB hc hg hm hv ha hn hdb he hpl) fun σ H Q ⟨en, st, as, rs, re, q⟩ => ?_)
  refine ⟨en, st, as, rs, re, q.bind.imp fun vs H1 ⟨as1, s1, xs, p1, rs1, rx, q1⟩ => ?_⟩
  exact ⟨as1, s1, xs, rs1, rx, q1.v⟩
theorem g_callT {id : String} {f : FN} {x : Str} {p pos : Pos} {e : Expr} {es : List Expr} {da : AD} (hc : CallR X (.type id) (cOf X.K f)) (hm : X.mg x = none) (hv : bootBuiltins x = some (.type id)) (ha : PA X (e :: es) (tA X.K T W da)) (hg : Gl X x := by rfl) (hn : x ≠ "__name__" := by decide) (hdb : (x == ("__debug__" : Str)) = false := by decide)
    (he : starEach (e :: es) X.env = (false, eval e X.env) :: starEach es X.env := by rfl) (hpl : (backTo pos (starEach es X.env)).any (·.1) = false := by rfl) : PE X (.Call (.Name x p) (e :: es) [] pos) (tE X.K T W (dGC (dCB f da))) := by
  refine g_gc (pe_mono (pe_callTy hc hg hm hv ha hn hdb he hpl) fun σ H Q ⟨en, st, as, rs, re, q⟩ => ?_)
  refine ⟨en, st, as, rs, re, q.bind.imp fun vs H1 ⟨as1, s1, xs, p1, rs1, rx, q1⟩ => ?_⟩
  exact ⟨as1, s1, xs, rs1, rx, q1.v⟩
theorem g_callB0 {id : String} {f : FN} {x : Str} {p pos : Pos} {e : Expr} {es : List Expr} {da : AD} (hc : CallR X (.builtin id) (cOf X.K f)) (hm : X.mg x = none) (hv : bootBuiltins x = some (.builtin id)) (ha : PA X (e :: es) (tA X.K T W da)) (hg : Gl X x := by rfl) (hn : x ≠ "__name__" := by decide) (hdb : (x == ("__debug__" : Str)) = false := by decide)
    (he : starEach (e :: es) X.env = (false, eval e X.env) :: starEach es X.env := by rfl) (hpl : (backTo pos (starEach es X.env)).any (·.1) = false := by rfl) : PE X (.Call (.Name x p) (e :: es) [] pos) (tE X.K T W (dCB f da)) := by
  refine pe_mono (pe_callB hc hg hm hv ha hn hdb he hpl) fun σ H Q ⟨en, st, as, rs, re, q⟩ => ?_
  refine ⟨en, st, as, rs, re, q.bind.imp fun vs H1 ⟨as1, s1, xs, p1, rs1, rx, q1⟩ => ?_⟩
  exact ⟨as1, s1, xs, rs1, rx, q1.v⟩
theorem g_callT0 {id : String} {f : FN} {x : Str} {p pos : Pos} {e : Expr} {es : List Expr} {da : AD} (hc : CallR X (.type id) (cOf X.K f)) (hm : X.mg x = none) (hv : bootBuiltins x = some (.type id)) (ha : PA X (e :: es) (tA X.K T W da)) (hg : Gl X x := by rfl) (hn : x ≠ "__name__" := by decide) (hdb : (x == ("__debug__" : Str)) = false := by decide)
    (he : starEach (e :: es) X.env = (false, eval e X.env) :: starEach es X.env := by rfl) (hpl : (backTo pos (starEach es X.env)).any (·.1) = false := by rfl) : PE X (.Call (.Name x p) (e :: es) [] pos) (tE X.K T W (dCB f da)) := by
  refine pe_mono (pe_callTy hc hg hm hv ha hn hdb he hpl) fun σ H Q ⟨en, st, as, rs, re, q⟩ => ?_
  refine ⟨en, st, as, rs, re, q.bind.imp fun vs H1 ⟨as1, s1, xs, p1, rs1, rx, q1⟩ => ?_⟩
  exact ⟨as1, s1, xs, rs1, rx, q1.v⟩
end

/-! ### statements -/
def sSkip : SD := fun en st => .nx en st
def sSeq (a b : SD) : SD := fun en st => match a en st with
  | .nx en' s' => b en' s'
  | r => r
def sSet (i : Nat) (e : ED) : SD := fun en st => (e en st).toS en fun x s1 => .nx (en.set i (some x)) s1
def sUn (u : UD) (e : ED) : SD := fun en st => (e en st).toS en fun x s1 => match u x en with
  | some en' => .nx en' s1
  | none => .no
def sPar (i j : Nat) (a : AD) : SD := fun en st => (a en st).toS en fun xs s1 => match xs with
  | [v, w] => .nx ((en.set i (some v)).set j (some w)) s1
  | _ => .no
def sPar3 (i j l : Nat) (a : AD) : SD := fun en st => (a en st).toS en fun xs s1 => match xs with
  | [u, v, w] => .nx (((en.set i (some u)).set j (some v)).set l (some w)) s1
  | _ => .no
def sEx (e : ED) : SD := fun en st => (e en st).toS en fun _ s1 => .nx en s1
def sRet (e : ED) : SD := fun en st => (e en st).toS en fun x s1 => .rt x s1
def sRetN : SD := fun en st => .rt .non st
def sIf (c : BD) (a b : SD) : SD := fun en st => (c en st).toS en fun k s1 => if k = true then a en s1 else b en s1
def sBrk : SD := fun en st => .bk en st
def sCt : SD := fun en st => .ct en st
def forL (it : ItD) (u : UD) (body : SD) : Nat → List D → En → Sto → Rs
  | k, [], en, st => if it.ok k st = true then .nx en st else .no
  | k, d :: ds, en, st => if it.ok k st = true then match u d en with
      | some en1 => match body en1 st with
        | .nx en2 s2 => forL it u body (k + 1) ds en2 s2
        | .ct en2 s2 => forL it u body (k + 1) ds en2 s2
        | .bk en2 s2 => .nx en2 s2
        | r => r
      | none => .no
    else .no
def sFor (i : ID) (u : UD) (body : SD) : SD := fun en st => (i en st).toS en fun it s1 => forL it u body 0 it.items en s1
def whileF (c : BD) (body : SD) : Nat → En → Sto → Rs
  | 0, _, _ => .no
  | n + 1, en, st => (c en st).toS en fun k s1 => if k = true then match body en s1 with
      | .nx en2 s2 => whileF c body n en2 s2
      | .ct en2 s2 => whileF c body n en2 s2
      | .bk en2 s2 => .nx en2 s2
      | r => r
    else .nx en s1
def sWhile (c : BD) (body : SD) : SD := fun en st => whileF c body 1000000 en st
section
variable {X : Cx} {T : Nat → Addr} {W : WX} {s : Stmt} {ss : List Stmt} {da db di : SD} {a b c e : Expr} {de df dg : ED} {bc : BD} {pos : Pos}
theorem gs_nil : PSs X [] (tS X.K T W sSkip) := pss_mono pss_nil fun D σ H ⟨en, st, as, rs, re, q⟩ => q σ H as Stp.refl rs re
theorem gs_cons (h1 : PS X s (tS X.K T W da)) (h2 : PSs X ss (tS X.K T W db)) : PSs X (s :: ss) (tS X.K T W (sSeq da db)) := by
  refine pss_mono (pss_cons h1 h2) fun D σ H ⟨en, st, as, rs, re, q⟩ => ⟨en, st, as, rs, re, ?_⟩
  unfold sSeq at q
  cases e : da en st with
  | nx en' s' => rw [e] at q; exact fun σ' H' as' p rs' re' => ⟨en', s', as', rs', re', q.shift p⟩
  | rt d s' => rw [e] at q; exact q
  | bk d s' => rw [e] at q; exact q
  | ct d s' => rw [e] at q; exact q
  | er x d s' => rw [e] at q; exact q
  | no => rw [e] at q; exact q
theorem gs_one (h1 : PS X s (tS X.K T W da)) : PSs X [s] (tS X.K T W da) := pss_one h1
theorem gs_set {i : Nat} {x : Str} {pos' : Pos} (hN : X.N.Nodup) (hi : X.N[i]? = some x) (hx : Loc X.env.scope x) (he : PE X e (tE X.K T W de)) (hs : swapsWith e (some (.Name x pos')) pos.line X.env = pure false := by rfl) (hf : X.fn x = true ∨ X.env.scope.names.lookup x = some .local := by first | exact .inl rfl | exact .inr rfl | assumption) :
    PS X (.Assign [.Name x pos'] e pos) (tS X.K T W (sSet i de)) := by
  refine ps_mono (ps_set hN hi hx he hs hf) fun D σ H ⟨en, st, as, rs, re, q⟩ => ?_
  refine ⟨en, st, as, rs, re, (PostS.bind re q).imp fun v H1 ⟨as1, s1, x, p1, rs1, rx, re1, q1⟩ => ?_⟩
  exact q1 _ H1 as1 Stp.refl rs1 (re1.set rx)
theorem gs_un {vs : List Nat} {u : UD} {g : TG} (he : PE X e (tE X.K T W de)) (hg : PG X a g) (gk : gOk X.K vs u g) (hs : swapsWithSole [a] e pos.line X.env = pure false := by rfl) (hw : swappedStores [a] e X.env = pure none := by rfl)
    (h1 : (assignEach [a] X.env).map (·.2) = [assign a X.env] := by rfl) : PS X (.Assign [a] e pos) (tS X.K T W (sUn u de)) := by
  refine ps_mono (ps_asg he hg hs hw h1) fun D σ H ⟨en, st, as, rs, re, q⟩ => ?_
  refine ⟨en, st, as, rs, re, (PostS.bind re q).imp fun v H1 ⟨as1, s1, x, p1, rs1, rx, re1, q1⟩ => ?_⟩
  cases eu : u x en with
  | none => rw [eu] at q1; exact q1.elim
  | some en' =>
    rw [eu] at q1
    exact gk as1 H1 σ en v x en' _ re1 rx eu fun σ' re' _ => q1 σ' H1 as1 Stp.refl rs1 re'
theorem gs_par {i j : Nat} {x y : Str} {ds : AD} {px py pt : Pos} {kt k2 pt2} (hc : X.calm = true) (hN : X.N.Nodup) (hi : X.N[i]? = some x) (hj : X.N[j]? = some y) (hij : i ≠ j)
    (hx : X.env.scope.names.lookup x = some .local) (hy : X.env.scope.names.lookup y = some .local) (ha : PA X [a, b] (tA X.K T W ds))
    (hw : swappedStores [.Tuple [.Name x px, .Name y py] kt pt] (.Tuple [a, b] k2 pt2) X.env = pure (some [x, y]))
    (hs : swapsWithSole [.Tuple [.Name x px, .Name y py] kt pt] (.Tuple [a, b] k2 pt2) pos.line X.env = pure false := by rfl) :
    PS X (.Assign [.Tuple [.Name x px, .Name y py] kt pt] (.Tuple [a, b] k2 pt2) pos) (tS X.K T W (sPar i j ds)) := by
  refine ps_mono (ps_par hc hN hi hj hij hx hy ha hw hs) fun D σ H ⟨en, st, as, rs, re, q⟩ => ?_
  refine ⟨en, st, as, rs, re, (PostS.bind re q).imp fun vs H1 ⟨as1, s1, xs, p1, rs1, rx, re1, q1⟩ => ?_⟩
  split at q1
  · cases rx with
    | @cons v1 _ _ _ r1 rx =>
    cases rx with
    | @cons v2 _ _ _ r2 rx =>
    cases rx
    exact ⟨v1, v2, rfl, q1 _ H1 as1 Stp.refl rs1 ((re1.set r1).set r2)⟩
  · exact q1.elim
theorem gs_ex (he : PE X e (tE X.K T W de)) (hs : swapsWith e none pos.line X.env = pure false := by rfl) : PS X (.Expr e pos) (tS X.K T W (sEx de)) := by
  refine ps_mono (ps_expr he hs) fun D σ H ⟨en, st, as, rs, re, q⟩ => ?_
  refine ⟨en, st, as, rs, re, (PostS.bind re q).imp fun v H1 ⟨as1, s1, x, p1, rs1, rx, re1, q1⟩ => ?_⟩
  exact q1 _ H1 as1 Stp.refl rs1 re1
theorem gs_ret (he : PE X e (tE X.K T W de)) : PS X (.Return (some e) pos) (tS X.K T W (sRet de)) := by
  refine ps_mono (ps_ret he) fun D σ H ⟨en, st, as, rs, re, q⟩ => ?_
  refine ⟨en, st, as, rs, re, (PostS.bind re q).imp fun v H1 ⟨as1, s1, x, p1, rs1, rx, re1, q1⟩ => ?_⟩
  exact q1 _ H1 as1 Stp.refl rs1 rx
theorem gs_retN : PS X (.Return none pos) (tS X.K T W sRetN) := ps_mono ps_retN fun D σ H ⟨en, st, as, rs, re, q⟩ => q .non H as Stp.refl rs .non
theorem gs_if {sa sb : List Stmt} (hc : PT X c (tT X.K T W bc)) (ha : PSs X sa (tS X.K T W da)) (hb : PSs X sb (tS X.K T W db)) : PS X (.If c sa sb pos) (tS X.K T W (sIf bc da db)) := by
  refine ps_mono (ps_if hc ha hb) fun D σ H ⟨en, st, as, rs, re, q⟩ => ?_
  refine ⟨en, st, as, rs, re, (PostS.bind re q).imp fun k H1 ⟨as1, s1, kk, p1, rs1, rk, re1, q1⟩ => ?_⟩
  cases rk
  cases k with
  | true => rw [if_pos rfl]; exact ⟨en, s1, as1, rs1, re1, q1⟩
  | false => rw [if_neg Bool.false_ne_true]; exact ⟨en, s1, as1, rs1, re1, q1⟩
theorem gs_brk : PS X (.Break pos) (tS X.K T W sBrk) := ps_mono ps_break fun D σ H ⟨en, st, as, rs, re, q⟩ => q σ H as Stp.refl rs re
theorem gs_ct : PS X (.Continue pos) (tS X.K T W sCt) := ps_mono ps_continue fun D σ H ⟨en, st, as, rs, re, q⟩ => q σ H as Stp.refl rs re
theorem gs_for {tg iter : Expr} {body : List Stmt} {vs : List Nat} {u : UD} {g : TG} {ii : ID} {sb : SD} (hp : PassesOwn (model X.prog X.w) X.A X.env X.xe) (hc : X.calm = true) (hi : PI X tg iter (tI X.K T W ii)) (hg : PG X tg g) (gk : gOk X.K vs u g) (hb : PSs X body (tS X.K T W sb))
    (hs : ∀ x, foldedSetIterable iter X.env x = pure x := by intro _; rfl) : PS X (.For tg iter body [] pos) (tS X.K T W (sFor ii u sb)) := by
  refine ps_mono (ps_for hp hc hi hg hb hs) fun D σ H ⟨en, st, as, rs, re, q⟩ => ?_
  refine ⟨en, st, as, rs, re, (PostS.bind re q).imp fun J H1 ⟨as1, s1, it, p1, rs1, jr, re1, q1⟩ => ?_⟩
  refine ⟨fun i m σ' H' => ∃ en' st' as', Stp as1 H1 as' H' ∧ RS X.K as' H' st' ∧ RE X.K as' H' σ' en' ∧ m = it.items.length - i ∧ i ≤ it.items.length ∧ PostS X.K T W as' H' (forL it u sb i (it.items.drop i) en' st') D,
    ⟨_, en, s1, as1, Stp.refl, rs1, re1, rfl, Nat.zero_le _, (by rw [List.drop_zero]; exact q1)⟩, ?_⟩
  rintro i m σ' H' ⟨en', st', as', p, rs', re', rfl, hi', q'⟩
  by_cases hlt : i < it.items.length
  · have hd : it.items[i]? = some it.items[i] := List.getElem?_eq_getElem hlt
    rw [List.drop_eq_getElem_cons hlt] at q'
    simp only [forL] at q'
    by_cases ok : it.ok i st' = true
    · rw [if_pos ok] at q'
      obtain ⟨go, yld⟩ := jr.go i as' H' st' p rs' ok _ hd
      refine .inr ⟨go, fun σ2 H2 => ∃ en2 st2 as2, Stp as1 H1 as2 H2 ∧ RS X.K as2 H2 st2 ∧ RE X.K as2 H2 σ2 en2 ∧ PostS X.K T W as2 H2 (forL it u sb (i + 1) (it.items.drop (i + 1)) en2 st2) D,
        fun σ2 H2 ⟨en2, st2, as2, p2, rs2, re2, q2⟩ => ⟨it.items.length - (i + 1), by omega, en2, st2, as2, p2, rs2, re2, rfl, hlt, q2⟩, fun x H'' y => ?_⟩
      obtain ⟨py, rs'', rx⟩ := yld x H'' y
      cases eu : u it.items[i] en' with
      | none => rw [eu] at q'; exact q'.elim
      | some en1 =>
        rw [eu] at q'
        dsimp only at q'
        refine gk as' H'' σ' en' x _ en1 _ (re'.mono py) rx eu fun σ2 re2 _ => ⟨en1, st', as', rs'', re2, ?_⟩
        have q0 := PostS.shift q' py
        cases eb : sb en1 st' with
        | nx en2 s2 => rw [eb] at q0; exact fun σ3 H3 as3 p3 rs3 re3 => ⟨en2, s2, as3, (p.trans py).trans p3, rs3, re3, PostS.shift q0 p3⟩
        | ct en2 s2 => rw [eb] at q0; exact fun σ3 H3 as3 p3 rs3 re3 => ⟨en2, s2, as3, (p.trans py).trans p3, rs3, re3, PostS.shift q0 p3⟩
        | bk en2 s2 => rw [eb] at q0; exact q0
        | rt d s2 => rw [eb] at q0; exact q0
        | er ex en2 s2 => rw [eb] at q0; exact q0
        | no => rw [eb] at q0; exact q0
    · rw [if_neg ok] at q'
      exact q'.elim
  · have e : i = it.items.length := by omega
    subst e
    rw [List.drop_length] at q'
    simp only [forL] at q'
    by_cases ok : it.ok it.items.length st' = true
    · rw [if_pos ok] at q'
      exact .inl ⟨jr.stop as' H' st' p rs' ok, q' σ' H' as' Stp.refl rs' re'⟩
    · rw [if_neg ok] at q'
      exact q'.elim
theorem gs_while {body : List Stmt} {sb : SD} (hp : PassesOwn (model X.prog X.w) X.A X.env X.xe) (hc : PT X c (tT X.K T W bc)) (hb : PSs X body (tS X.K T W sb)) : PS X (.While c body [] pos) (tS X.K T W (sWhile bc sb)) := by
  refine ps_mono (ps_while hp hc hb) fun D σ H ⟨en, st, as, rs, re, q⟩ => ?_
  refine ⟨fun m σ' H' => ∃ en' st' as', RS X.K as' H' st' ∧ RE X.K as' H' σ' en' ∧ PostS X.K T W as' H' (whileF bc sb m en' st') D, ⟨1000000, en, st, as, rs, re, q⟩, ?_⟩
  rintro m σ' H' ⟨en', st', as', rs', re', q'⟩
  cases m with
  | zero => exact q'.elim
  | succ m =>
    simp only [whileF] at q'
    refine ⟨en', st', as', rs', re', (PostS.bind re' q').imp fun k H1 ⟨as1, s1, kk, p1, rs1, rk, re1, q1⟩ => ?_⟩
    cases rk
    cases k with
    | false => rw [if_neg Bool.false_ne_true]; exact q1 σ' H1 as1 Stp.refl rs1 re1
    | true =>
      rw [if_pos rfl]
      rw [if_pos rfl] at q1
      refine ⟨fun σ2 H2 => ∃ en2 st2 as2, RS X.K as2 H2 st2 ∧ RE X.K as2 H2 σ2 en2 ∧ PostS X.K T W as2 H2 (whileF bc sb m en2 st2) D, fun σ2 H2 ⟨en2, st2, as2, h1, h2, h3⟩ => ⟨m, Nat.lt_succ_self _, en2, st2, as2, h1, h2, h3⟩, en', s1, as1, rs1, re1, ?_⟩
      cases eb : sb en' s1 with
      | nx en2 s2 => rw [eb] at q1; exact fun σ3 H3 as3 p3 rs3 re3 => ⟨en2, s2, as3, rs3, re3, PostS.shift q1 p3⟩
      | ct en2 s2 => rw [eb] at q1; exact fun σ3 H3 as3 p3 rs3 re3 => ⟨en2, s2, as3, rs3, re3, PostS.shift q1 p3⟩
      | bk en2 s2 => rw [eb] at q1; exact q1
      | rt d s2 => rw [eb] at q1; exact q1
      | er ex en2 s2 => rw [eb] at q1; exact q1
      | no => rw [eb] at q1; exact q1
end
end Gv
namespace Gv
open PySem PySem.Spec L2

/-! ### keys of dicts -/
def keyD : D → Option Key
  | .int i => some (.inl i)
  | .str x => some (.inr x)
  | _ => none
def keysD : List D → Option (List Key)
  | [] => some []
  | d :: ds => match keyD d, keysD ds with
    | some k, some ks => some (k :: ks)
    | _, _ => none
def valD {κ : Type} [DecidableEq κ] (kvs : List (κ × D)) (k : κ) : Option D := (kvs.find? fun kv => decide (kv.1 = k)).map (·.2)
def putD {κ : Type} [DecidableEq κ] (kvs : List (κ × D)) (k : κ) (v : D) : List (κ × D) := if (kvs.any fun kv => decide (kv.1 = k)) = true then kvs.map fun kv => if kv.1 = k then (kv.1, v) else kv else kvs ++ [(k, v)]
/-- d[k]: none: no such dict or key kind -/
def getO (o : Ob) (k : D) : Option (Option D) := match o with
  | .dK kvs => (keyD k).map fun j => valD kvs j
  | .dT kvs => match k with
    | .tup ks => (keysD ks).map fun js => valD kvs js
    | _ => none
  | _ => none
def putO (o : Ob) (k v : D) : Option Ob := match o with
  | .dK kvs => if kvs.length < 16777216 then (keyD k).map fun j => .dK (putD kvs j v) else none
  | .dT kvs => if kvs.length < 16777216 then match k with
    | .tup ks => (keysD ks).map fun js => .dT (putD kvs js v)
    | _ => none
    else none
  | _ => none
section
variable {K : PySem.W.Frag} {as : List Addr} {H : Hp} {st : Sto}
theorem keyD_kV {d : D} {k : Key} {v : V} (r : RV K as H v d) (e : keyD d = some k) : v = kV k := by
  cases r <;> first | (cases e; rfl) | cases e
theorem keysD_kV : ∀ {ds : List D} {ks : List Key} {vs : List V}, RVs K as H vs ds → keysD ds = some ks → vs = ks.map kV
  | [], _, _, .nil, e => by cases e; rfl
  | d :: ds, _, _, .cons r rs, e => by
    simp only [keysD] at e
    cases e1 : keyD d with
    | none => rw [e1] at e; cases e
    | some k =>
      cases e2 : keysD ds with
      | none => rw [e1, e2] at e; cases e
      | some ks =>
        rw [e1, e2] at e
        cases e
        rw [keyD_kV r e1, keysD_kV rs e2]
        rfl
theorem RKs.val {κ : Type} [DecidableEq κ] {k : κ} : ∀ {xs : List (κ × V)} {ys : List (κ × D)}, RKs K as H xs ys → (∀ d, valD ys k = some d → ∃ v, valV xs k = some v ∧ RV K as H v d) ∧ (valD ys k = none → valV xs k = none)
  | _, _, .nil => ⟨fun d e => (nomatch (show (none : Option D) = some d from e)), fun _ => rfl⟩
  | (a, v) :: xs, (b, d) :: ys, .cons h r => by
    obtain ⟨e, hv⟩ := h
    have e : a = b := e
    subst e
    obtain ⟨h1, h2⟩ := RKs.val (k := k) r
    by_cases c : a = k
    · have c1 : valD ((a, d) :: ys) k = some d := by simp [valD, List.find?_cons, c]
      have c2 : valV ((a, v) :: xs) k = some v := valV_pos c
      rw [c1, c2]
      exact ⟨fun d' e => by cases e; exact ⟨v, rfl, hv⟩, fun e => by cases e⟩
    · have c1 : valD ((a, d) :: ys) k = valD ys k := by simp [valD, List.find?_cons, c]
      have c2 : valV ((a, v) :: xs) k = valV xs k := valV_neg c
      rw [c1, c2]
      exact ⟨h1, h2⟩
theorem RKs.any {κ : Type} [DecidableEq κ] {k : κ} {xs : List (κ × V)} {ys : List (κ × D)} (r : RKs K as H xs ys) : (xs.any fun kv => decide (kv.1 = k)) = (ys.any fun kv => decide (kv.1 = k)) := by
  induction r with
  | nil => rfl
  | cons h r ih => rw [List.any_cons, List.any_cons, ih, h.1]
theorem RKs.repl {κ : Type} [DecidableEq κ] {k : κ} {v : V} {d : D} (h : RV K as H v d) : ∀ {xs : List (κ × V)} {ys : List (κ × D)}, RKs K as H xs ys → RKs K as H (xs.map fun kv => if kv.1 = k then (kv.1, v) else kv) (ys.map fun kv => if kv.1 = k then (kv.1, d) else kv)
  | _, _, .nil => .nil
  | (a, x) :: xs, (b, y) :: ys, .cons h' r => by
    rw [List.map_cons, List.map_cons]
    refine .cons ?_ (RKs.repl h r)
    obtain ⟨e, hv⟩ := h'
    have e : a = b := e
    subst e
    by_cases c : a = k
    · rw [if_pos c, if_pos c]
      exact ⟨rfl, h⟩
    · rw [if_neg c, if_neg c]
      exact ⟨rfl, hv⟩
theorem RKs.put {κ : Type} [DecidableEq κ] {k : κ} {v : V} {d : D} {xs : List (κ × V)} {ys : List (κ × D)} (r : RKs K as H xs ys) (h : RV K as H v d) : RKs K as H (putK xs k v) (putD ys k d) := by
  unfold putK putD
  rw [r.any]
  split
  · exact RKs.repl h r
  · exact Paired.snoc r ⟨rfl, h⟩
theorem RKs.length {κ : Type} {xs : List (κ × V)} {ys : List (κ × D)} (r : RKs K as H xs ys) : xs.length = ys.length := Paired.length r
/-- what a key finds -/
theorem getO_dget {a : Addr} {o : Ob} {k : D} {y : V} {r : Option D} (ro : RO K as H a o) (ry : RV K as H y k) (e : getO o k = some r) : ∃ v, DGet H a y v ∧ (∀ d, r = some d → ∃ x, v = some x ∧ RV K as H x d) ∧ (r = none → v = none) := by
  cases o with
  | lst _ => cases e
  | fls _ => cases e
  | dK kvs =>
    obtain ⟨ks, ea, rk⟩ := ro
    simp only [getO] at e
    cases e1 : keyD k with
    | none => rw [e1] at e; cases e
    | some j =>
      rw [e1] at e
      cases e
      rw [keyD_kV ry e1]
      exact ⟨_, DGet.k ea, fun d h => rk.val.1 d h, rk.val.2⟩
  | dT kvs =>
    obtain ⟨ks, ea, rk⟩ := ro
    simp only [getO] at e
    split at e
    · rename_i ds
      cases e1 : keysD ds with
      | none => rw [e1] at e; cases e
      | some js =>
        rw [e1] at e
        cases e
        cases ry with
        | @tup b vs _ h r =>
          rw [keysD_kV r e1] at h
          exact ⟨_, DGet.t ea h, fun d h => rk.val.1 d h, rk.val.2⟩
    · cases e
theorem putO_dput {a : Addr} {o o' : Ob} {k x : D} {y v : V} (ro : RO K as H a o) (ry : RV K as H y k) (rv : RV K as H v x) (e : putO o k x = some o') : o.mu ∧ o'.mu ∧ ∃ ho, (∃ u, H a = some u ∧ Wr u) ∧ DPut H a y v (upd H a ho) ∧ ∀ as', Stp as H as' (upd H a ho) → RO K as' (upd H a ho) a o' := by
  cases o with
  | lst _ => cases e
  | fls _ => cases e
  | dK kvs =>
    obtain ⟨ks, ea, rk⟩ := ro
    simp only [putO] at e
    split at e
    · rename_i hl
      cases e1 : keyD k with
      | none => rw [e1] at e; cases e
      | some j =>
        rw [e1] at e
        cases e
        rw [keyD_kV ry e1]
        exact ⟨trivial, trivial, _, ⟨_, ea, trivial⟩, DPut.k ea (by rw [rk.length, sizeLine_eq]; exact hl), fun as' p => ⟨_, upd_same, (rk.put rv).mono p⟩⟩
    · cases e
  | dT kvs =>
    obtain ⟨ks, ea, rk⟩ := ro
    simp only [putO] at e
    split at e
    · rename_i hl
      split at e
      · rename_i ds
        cases e1 : keysD ds with
        | none => rw [e1] at e; cases e
        | some js =>
          rw [e1] at e
          cases e
          cases ry with
          | @tup b vs _ h r =>
            rw [keysD_kV r e1] at h
            exact ⟨trivial, trivial, _, ⟨_, ea, trivial⟩, DPut.t ea h (by rw [rk.length, sizeLine_eq]; exact hl), fun as' p => ⟨_, upd_same, (rk.put rv).mono p⟩⟩
      · cases e
    · cases e
end

/-! ### subscripts -/
def fIx : F2 := fun x y st => match x with
  | .tup xs => match y with
    | .int i => (atI xs i).map fun d => (d, st)
    | _ => none
  | .str z => match y with
    | .int i => if z.length ≤ 16777216 then (atI z.cps.toList i).map fun c => (.str ⟨#[c]⟩, st) else none
    | _ => none
  | .obj k => match st[k]? with
    | some (.lst xs) => match y with
      | .int i => (atI xs i).map fun d => (d, st)
      | _ => none
    | some (.fls xs) => match y with
      | .int i => (atI xs i).map fun d => (d, st)
      | _ => none
    | some o => match getO o y with
      | some (some d) => some (d, st)
      | _ => none
    | none => none
  | _ => none
def isDct (st : Sto) : D → Bool
  | .obj k => match st[k]? with
    | some (.dK _) => true
    | some (.dT _) => true
    | _ => false
  | _ => false
section
variable {K : PySem.W.Frag} {as : List Addr} {H : Hp} {st : Sto}
theorem atI_rv {vs : List V} {ds : List D} {i : Int} {d : D} (r : RVs K as H vs ds) (e : atI ds i = some d) : ∃ v, atI vs i = some v ∧ RV K as H v d := by
  unfold atI at e ⊢
  rw [r.length]
  cases e1 : ixN ds.length i with
  | none => rw [e1] at e; cases e
  | some j =>
    rw [e1] at e
    exact r.get e
end
section
variable {X : Cx} {T : Nat → Addr} {W : WX} {a b e : Expr} {da db de : ED} {pos : Pos}
theorem fix_seq {as : List Addr} {H : Hp} {st : Sto} {dx dy : D} {x y : V} {Q : VK} (rs : RS X.K as H st) (rx : RV X.K as H x dx) (ry : RV X.K as H y dy) (nd : isDct st dx = false) (q : PostV X.K as H (fIx dx dy st) Q) : rIx X.K x y H Q := by
  cases dx with
  | tup xs =>
    cases rx with
    | @tup p vs _ h r =>
      cases dy with
      | int i =>
        cases ry
        simp only [fIx] at q
        cases e : atI xs i with
        | none => rw [e] at q; exact q.elim
        | some d =>
          rw [e] at q
          obtain ⟨v, ev, rv⟩ := atI_rv r e
          exact .inr (.inl ⟨p, vs, i, v, rfl, rfl, SqT.of h, ev, postv1 rs rv q⟩)
      | _ => exact q.elim
  | str z =>
    cases rx
    cases dy with
    | int i =>
      cases ry
      simp only [fIx] at q
      split at q
      · rename_i hz
        cases e : atI z.cps.toList i with
        | none => rw [e] at q; exact q.elim
        | some c =>
          rw [e] at q
          exact .inr (.inr ⟨z, i, c, rfl, rfl, by rw [sizeLine_eq]; exact hz, e, postv1 rs (.str _) q⟩)
      · exact q.elim
    | _ => exact q.elim
  | obj k =>
    simp only [fIx] at q
    simp only [isDct] at nd
    split at q
    · rename_i xs hx
      obtain ⟨p, rfl, _, vs, ev, r⟩ := rs.obj rx hx
      cases dy with
      | int i =>
        cases ry
        dsimp only at q
        cases e : atI xs i with
        | none => rw [e] at q; exact q.elim
        | some d =>
          rw [e] at q
          obtain ⟨v, ev', rv⟩ := atI_rv r e
          exact .inl ⟨p, vs, i, v, rfl, rfl, SqL.of ev, ev', postv1 rs rv q⟩
      | _ => exact q.elim
    · rename_i xs hx
      obtain ⟨p, rfl, _, vs, ev, r⟩ := rs.obj rx hx
      cases dy with
      | int i =>
        cases ry
        dsimp only at q
        cases e : atI xs i with
        | none => rw [e] at q; exact q.elim
        | some d =>
          rw [e] at q
          obtain ⟨v, ev', rv⟩ := atI_rv r e
          exact .inl ⟨p, vs, i, v, rfl, rfl, ev.sq, ev', postv1 rs rv q⟩
      | _ => exact q.elim
    · rename_i o h1 h2 h3
      rw [h3] at nd
      cases o with
      | lst xs => exact absurd rfl (h1 xs)
      | fls xs => exact absurd rfl (h2 xs)
      | dK _ => cases nd
      | dT _ => cases nd
    · exact q.elim
  | _ => exact q.elim
theorem fix_dct {as : List Addr} {H : Hp} {st : Sto} {dx dy : D} {x y : V} {Q : VK} (rs : RS X.K as H st) (rx : RV X.K as H x dx) (ry : RV X.K as H y dy) (nd : isDct st dx = true) (q : PostV X.K as H (fIx dx dy st) Q) : ∃ a v, x = .ref a ∧ DGet H a y (some v) ∧ Q v H := by
  cases dx with
  | obj k =>
    simp only [isDct] at nd
    have key : ∀ o, st[k]? = some o → getO o dy = getO o dy → (∀ xs, o ≠ .lst xs) → (∀ xs, o ≠ .fls xs) → fIx (.obj k) dy st = (match getO o dy with | some (some d) => some (d, st) | _ => none) := by
      intro o ho _ h1 h2
      simp only [fIx]
      rw [ho]
      cases o with
      | lst xs => exact absurd rfl (h1 xs)
      | fls xs => exact absurd rfl (h2 xs)
      | dK _ => rfl
      | dT _ => rfl
    cases ho : st[k]? with
    | none => rw [ho] at nd; cases nd
    | some o =>
      rw [ho] at nd
      have h1 : ∀ xs, o ≠ .lst xs := fun xs z => by subst z; cases nd
      have h2 : ∀ xs, o ≠ .fls xs := fun xs z => by subst z; cases nd
      rw [key o ho rfl h1 h2] at q
      obtain ⟨p, rfl, _, ro⟩ := rs.obj rx ho
      cases e : getO o dy with
      | none => rw [e] at q; exact q.elim
      | some r =>
        cases r with
        | none => rw [e] at q; exact q.elim
        | some d =>
          rw [e] at q
          obtain ⟨v, g, h3, _⟩ := getO_dget ro ry e
          obtain ⟨xv, rfl, rv⟩ := h3 d rfl
          exact ⟨p, xv, rfl, g, postv1 rs rv q⟩
  | _ => cases nd
theorem ix_g (hu : X.A.units + 1 < cLine) : IxR X (rOf X.K fIx) := by
  intro value slice pins s σ H x y v u Q I rx ry ⟨as, st, dx, dy, rs, hx, hy, q⟩ hs
  cases nd : isDct st dx with
  | false => exact ix_seq value slice pins s σ H x y v u Q I rx ry (fix_seq rs hx hy nd q) hs
  | true =>
    obtain ⟨a, w', rfl, g, q1⟩ := fix_dct rs hx hy nd q
    obtain rfl : v = Value.ref a := rx
    exact PyProof.Rows.tail_any (dict_typeIs I g) PySem.F.slot_dict_getitem.lookup (d_getItem hu I g ry fun w2 s3 I3 rw' => ⟨w', H, I3, rw', q1⟩) hs
theorem g_ix (hu : X.A.units + 1 < cLine) (ha : PE X a (tE X.K T W da)) (hb : PE X b (tE X.K T W db)) (hs : PlainIx b := by intro _ _; rfl) : PE X (.Subscript a b pos) (tE X.K T W (dOp fIx da db)) := by
  refine pe_mono (pe_ix (ix_g hu) ha hb hs) fun σ H Q ⟨en, st, as, rs, re, q⟩ => ?_
  refine ⟨en, st, as, rs, re, q.bind.imp fun x H1 ⟨as1, s1, dx, p1, rs1, rx, q1⟩ => ?_⟩
  refine ⟨en, s1, as1, rs1, re.mono p1, q1.bind.imp fun y H2 ⟨as2, s2, dy, p2, rs2, ry, q2⟩ => ?_⟩
  exact ⟨as2, s2, dx, dy, rs2, rx.mono p2, ry, q2.v⟩
end

/-! ### o[i] = v -/
def setV (o i x : D) (st : Sto) : Option Sto := match o with
  | .obj k => match st[k]? with
    | some (.lst xs) => match i with
      | .int j => (ixN xs.length j).map fun m => st.set k (.lst (xs.set m x))
      | _ => none
    | some o => (putO o i x).map fun o' => st.set k o'
    | none => none
  | _ => none
def sSub (o i e : ED) : SD := fun en st => (e en st).toS en fun x s1 => (o en s1).toS en fun y s2 => (i en s2).toS en fun z s3 => match setV y z x s3 with
  | some s4 => .nx en s4
  | none => .no
section
variable {X : Cx} {T : Nat → Addr} {W : WX} {a b e : Expr} {da db de : ED} {pos pos' : Pos}
def tSetV (K : PySem.W.Frag) : TSet := fun o i v H Q => ∃ as st dO dI dV, RS K as H st ∧ RV K as H o dO ∧ RV K as H i dI ∧ RV K as H v dV ∧ match setV dO dI dV st with
  | some st' => ∀ H' as', Stp as H as' H' → RS K as' H' st' → Q H'
  | none => False
theorem set_g (hu : X.A.units + 1 < cLine) : PSet X (tSetV X.K) := by
  intro pins s σ H o i v ov iv u Q I ro ri rv ⟨as, st, dO, dI, dV, rs, hO, hI, hV, q⟩
  cases dO with
  | obj k =>
    simp only [setV] at q
    split at q
    · rename_i st' e
      split at e
      · rename_i xs hx
        obtain ⟨p, rfl, hp, vs, ev, r⟩ := rs.obj hO hx
        split at e
        · rename_i j
          cases hI
          cases em : ixN xs.length j with
          | none => rw [em] at e; cases e
          | some m =>
            rw [em] at e
            cases e
            refine set_list pins s σ H _ _ v ov iv u Q I ro ri rv ⟨p, vs, j, m, rfl, rfl, ev, by rw [r.length]; exact em, ?_⟩
            exact q _ as (Stp.write hp ev trivial) (rs.write hp hx trivial trivial ⟨_, upd_same, (r.set hV m).mono (Stp.write hp ev trivial)⟩)
        · cases e
      · rename_i ob hne hob
        obtain ⟨p, rfl, hp, roo⟩ := rs.obj hO hob
        cases ep : putO ob dI dV with
        | none => rw [ep] at e; cases e
        | some o' =>
          rw [ep] at e
          cases e
          obtain ⟨m1, m2, ho, ⟨w0, hw, ww⟩, dp, hro⟩ := putO_dput roo hI hV ep
          obtain rfl : ov = Value.ref p := ro
          exact d_setItem hu I dp ri rv fun s4 I4 => ⟨_, I4, q _ as (Stp.write hp hw ww) (rs.write hp hob m1 m2 (hro as (Stp.write hp hw ww)))⟩
      · cases e
    · exact q.elim
  | _ => exact q.elim
theorem gs_sub (hu : X.A.units + 1 < cLine) (ha : PE X a (tE X.K T W da)) (hb : PE X b (tE X.K T W db)) (he : PE X e (tE X.K T W de))
    (hsb : ∀ v, assign (.Subscript a b pos') X.env v = (do
      let ov ← holding [v] (eval a X.env)
      let iv ← holding [v, ov] (eval b X.env)
      standAt pos'
      holding [v, ov, iv] (setItem ov iv v)
      release [v, ov, iv] []) := by intro _; rfl)
    (hs : swapsWithSole [.Subscript a b pos'] e pos.line X.env = pure false := by rfl) (hw : swappedStores [.Subscript a b pos'] e X.env = pure none := by rfl)
    (h1 : (assignEach [.Subscript a b pos'] X.env).map (·.2) = [assign (.Subscript a b pos') X.env] := by rfl) : PS X (.Assign [.Subscript a b pos'] e pos) (tS X.K T W (sSub da db de)) := by
  refine ps_mono (ps_asg he (pg_sub ha hb (set_g hu) hsb) hs hw h1) fun D σ H ⟨en, st, as, rs, re, q⟩ => ?_
  refine ⟨en, st, as, rs, re, (PostS.bind re q).imp fun v H1 ⟨as1, s1, x, p1, rs1, rx, re1, q1⟩ => ?_⟩
  refine ⟨en, s1, as1, rs1, re1, (PostS.bind re1 q1).imp fun o H2 ⟨as2, s2, y, p2, rs2, ry, re2, q2⟩ => ?_⟩
  refine ⟨en, s2, as2, rs2, re2, (PostS.bind re2 q2).imp fun i H3 ⟨as3, s3, z, p3, rs3, rz, re3, q3⟩ => ?_⟩
  refine ⟨as3, s3, y, z, x, rs3, ry.mono p3, rz, (rx.mono p2).mono p3, ?_⟩
  cases es : setV y z x s3 with
  | none => rw [es] at q3; exact q3.elim
  | some s4 =>
    rw [es] at q3
    exact fun H' as' p rs' => q3 σ H' as' p rs' (re3.mono p)
end

/-! ### in -/
def fIn (neg : Bool) : F2 := fun x y st => match y with
  | .tup xs => match pd x, pds xs with
    | some p, some ps => if SeqAt.shaped p = true ∧ SeqAt.shaped (.list ps) = true then some (.bl (if neg then !(ps.any fun z => PyData.eqv z p) else ps.any fun z => PyData.eqv z p), st) else none
    | _, _ => none
  | .str b => match x with
    | .str a => some (.bl (if neg then !(!(Builtin.Str.occurrences b a 0 b.length 1).isEmpty) else !(Builtin.Str.occurrences b a 0 b.length 1).isEmpty), st)
    | _ => none
  | .obj k => match st[k]? with
    | some (.lst xs) => match pd x, pds xs with
      | some p, some ps => if SeqAt.shaped p = true ∧ SeqAt.shaped (.list ps) = true then some (.bl (if neg then !(ps.any fun z => PyData.eqv z p) else ps.any fun z => PyData.eqv z p), st) else none
      | _, _ => none
    | some (.fls _) => none
    | some o => match getO o x with
      | some r => some (.bl (if neg then !r.isSome else r.isSome), st)
      | none => none
    | none => none
  | _ => none
section
variable {X : Cx}
theorem og_in (hu : X.A.units + 65 < cLine) : OpR X (compareOp .In) (rOf X.K (fIn false)) := by
  intro pins s σ H x y v u Q I rx ry ⟨as, st, dx, dy, rs, hx, hy, q⟩
  cases dy with
  | tup xs =>
    simp only [fIn] at q
    cases hy with
    | @tup a vs _ h r =>
      split at q
      · rename_i p ps e1 e2
        split at q
        · rename_i hs
          obtain ⟨as1, r1⟩ := Dp.reads I p x v (pd_dp hx e1) rx
          obtain ⟨as2, r2⟩ := Dp.reads I (.tuple ps) (.ref a) u (.tup (SqT.of h) (pds_dp r e2)) ry
          have hc : PyData.canLayAll0 ps = true := SeqAt.canLay_of_shaped hs.2
          exact SeqAt.in_tuple_reads r2 r1 hc (SeqAt.canLay_of_shaped hs.1) (PyProof.Rows.room_in_shaped hs.1 hu) ⟨.bl _, H, I, rfl, postv1 rs (.bl _) q⟩
        · exact q.elim
      · exact q.elim
  | str b =>
    simp only [fIn] at q
    cases hy
    split at q
    · cases hx
      exact op_in_str pins s σ H _ _ v u Q I rx ry ⟨_, _, rfl, rfl, postv1 rs (.bl _) q⟩
    · exact q.elim
  | obj k =>
    simp only [fIn] at q
    split at q
    · rename_i xs hk
      obtain ⟨a, rfl, _, vs, ev, r⟩ := rs.obj hy hk
      split at q
      · rename_i p ps e1 e2
        split at q
        · rename_i hs
          exact op_inD hu pins s σ H x _ v u Q I rx ry ⟨p, ps, pd_dp hx e1, .lst (SqL.of ev) (pds_dp r e2), hs.1, hs.2, postv1 rs (.bl _) q⟩
        · exact q.elim
      · exact q.elim
    · exact q.elim
    · rename_i o h1 h2 ho
      obtain ⟨a, rfl, _, ro⟩ := rs.obj hy ho
      split at q
      · rename_i r e
        obtain ⟨ov, g, g1, g2⟩ := getO_dget ro hx e
        obtain rfl : u = Value.ref a := ry
        refine d_in (by omega) I g rx fun s3 I3 => ⟨.bl ov.isSome, H, I3, rfl, ?_⟩
        have : ov.isSome = r.isSome := by
          cases r with
          | none => rw [g2 rfl]; rfl
          | some d => obtain ⟨z, rfl, _⟩ := g1 d rfl; rfl
        rw [this]
        exact postv1 rs (.bl _) q
      · exact q.elim
    · exact q.elim
  | _ => exact q.elim
theorem og_notIn (hu : X.A.units + 65 < cLine) : OpR X (compareOp .NotIn) (rOf X.K (fIn true)) := by
  intro pins s σ H x y v u Q I rx ry ⟨as, st, dx, dy, rs, hx, hy, q⟩
  cases dy with
  | tup xs =>
    simp only [fIn] at q
    cases hy with
    | @tup a vs _ h r =>
      split at q
      · rename_i p ps e1 e2
        split at q
        · rename_i hs
          obtain ⟨as1, r1⟩ := Dp.reads I p x v (pd_dp hx e1) rx
          obtain ⟨as2, r2⟩ := Dp.reads I (.tuple ps) (.ref a) u (.tup (SqT.of h) (pds_dp r e2)) ry
          have hc : PyData.canLayAll0 ps = true := SeqAt.canLay_of_shaped hs.2
          exact SeqAt.notIn_tuple_reads r2 r1 hc (SeqAt.canLay_of_shaped hs.1) (PyProof.Rows.room_in_shaped hs.1 hu) ⟨.bl _, H, I, rfl, postv1 rs (.bl _) q⟩
        · exact q.elim
      · exact q.elim
  | str b =>
    simp only [fIn] at q
    cases hy
    split at q
    · cases hx
      exact op_notin_str pins s σ H _ _ v u Q I rx ry ⟨_, _, rfl, rfl, postv1 rs (.bl _) q⟩
    · exact q.elim
  | obj k =>
    simp only [fIn] at q
    split at q
    · rename_i xs hk
      obtain ⟨a, rfl, _, vs, ev, r⟩ := rs.obj hy hk
      split at q
      · rename_i p ps e1 e2
        split at q
        · rename_i hs
          exact op_notInD hu pins s σ H x _ v u Q I rx ry ⟨p, ps, pd_dp hx e1, .lst (SqL.of ev) (pds_dp r e2), hs.1, hs.2, postv1 rs (.bl _) q⟩
        · exact q.elim
      · exact q.elim
    · exact q.elim
    · rename_i o h1 h2 ho
      obtain ⟨a, rfl, _, ro⟩ := rs.obj hy ho
      split at q
      · rename_i r e
        obtain ⟨ov, g, g1, g2⟩ := getO_dget ro hx e
        obtain rfl : u = Value.ref a := ry
        refine d_notIn (by omega) I g rx fun s3 I3 => ⟨.bl (!ov.isSome), H, I3, rfl, ?_⟩
        have : ov.isSome = r.isSome := by
          cases r with
          | none => rw [g2 rfl]; rfl
          | some d => obtain ⟨z, rfl, _⟩ := g1 d rfl; rfl
        rw [this]
        exact postv1 rs (.bl _) q
      · exact q.elim
    · exact q.elim
  | _ => exact q.elim
end
end Gv
/-! enumerate over a tuple -/
namespace PySem
open PySem.Spec
set_option maxHeartbeats 1000000 in
theorem gv_enum_new1 {v : Value} {o : Obj} {H : Heap → Prop} (B : Begins v o H) :
    Meets (Builtin.«enumerate.__new__» ⟨[.type "enumerate", v], []⟩) (fun _ R s => H s.heap ∧
      R (.ok (.ret (.ref (s.heap.push o).objs.size))) { s with heap := (s.heap.push o).push { cls := .type "enumerate", data := .fields #[.none, .bool false, .ref s.heap.objs.size, rawInt 0, .none, .none] } }) :=
  .of_wp fun prog w A R s h => by
    obtain ⟨hp, g, d, tk, os⟩ := s; obtain ⟨h1, h⟩ := h
    have hsub := sub_enumerate
    have q1 : ∀ {A' : Around} {E : Value → Shared → Prop} {Q : Value → Shared → Prop}, Q (.ref hp.objs.size) ⟨hp.push o, g, d, tk, os⟩ → wpAny (model prog w) A' (pyIter v) Q E ⟨hp, g, d, tk, os⟩ :=
      fun q => B.iter prog w _ _ ⟨hp, g, d, tk, os⟩ _ h1 q
    wp_walk using q1
    refine wpAny_stack_any fun st => wpAny_pure ?_
    split
    · rename_i c _ _ _ _ _
      cases (c == Value.type "enumerate")
      · wp_walk using q1
        exact ⟨_, rfl, h⟩
      · wp_walk using q1
        exact ⟨_, rfl, h⟩
    · wp_walk using q1
      exact ⟨_, rfl, h⟩
section
variable {prog : Program} {w : World} {A : Around} {E : Value → Shared → Prop} {s : Shared}
theorem gv_enum_begins {v : Value} {o : Obj} {H : Heap → Prop} {Q : Value → Shared → Prop} (B : Begins v o H) (h1 : H s.heap)
    (h : ∀ h', IsEnum h' (s.heap.objs.size + 1) s.heap.objs.size 0 .none → h'.get? s.heap.objs.size = some o → h'.objs.size = s.heap.objs.size + 2 →
      (∀ b o, s.heap.get? b = some o → h'.get? b = some o) → Q (.ref (s.heap.objs.size + 1)) { s with heap := h' }) :
    wpAny (model prog w) A (call (.type "enumerate") [v]) Q E s := by
  refine callType_new F.called_enumerate (by decide) (F.typeCall_enumerate_1 _) (F.newCall_enumerate_1 _) (fun obj => F.args_object_init_2 obj _) F.entry_enumerate_new
    (gv_enum_new1 B) ⟨h1, ?_⟩
  have hz : (s.heap.push o).objs.size = s.heap.objs.size + 1 := Heap.size_push ..
  show _ ∧ _
  rw [hz]
  have he : IsEnum ((s.heap.push o).push { cls := .type "enumerate", data := .fields #[.none, .bool false, .ref s.heap.objs.size, rawInt 0, .none, .none] }) (s.heap.objs.size + 1) s.heap.objs.size 0 .none := by
    have := Heap.get?_push_size (s.heap.push o) (o := { cls := .type "enumerate", data := .fields #[.none, .bool false, .ref s.heap.objs.size, rawInt 0, .none, .none] }) rfl
    rw [hz] at this; exact this
  refine ⟨⟨_, he, rfl⟩, h _ he (Heap.get?_push_of_some _ (Heap.get?_push_size _ B.free)) (by rw [Heap.size_push, hz]) fun b o x => Heap.get?_push_of_some _ (Heap.get?_push_of_some _ x)⟩
theorem gv_enum_endT {e it l : Addr} {i : Nat} {items : Array Value} {old : Value} {Q : Option Value → Shared → Prop} (hh : A.handled = none)
    (he : IsEnum s.heap e it i old) (hit : s.heap.IsTupleIter it l i) (hl : s.heap.IsTuple l items) (hx : items[i]? = none)
    (hQ : ∀ h', Heap.ExtBut it s.heap h' → Q none { s with heap := h' }) : wpAny (model prog w) A (pyNext (.ref e)) Q E s := by
  have hT : s.TypeIs (.ref e) "enumerate" := ⟨_, he, rfl⟩
  unfold pyNext
  refine wpAny_bind (wpAny_attempt (wpAny_callSpecial?_slot (name := Str.ofString "__next__") hT F.slot_enumerate_next
    (wpAny_call_entry F.slot_enumerate_next hT F.entry_enumerate_next ?_ (F.args_enumerate_next_1 _))))
  show wpAny _ _ (field (.ref e) 2 >>= _) _ _ _
  refine wpAny_bind (wpAny_field he rfl (x := .ref it) rfl ?_)
  refine wpAny_bind (wpAny_nextOf_tuple_end hh hit hl hx fun h' x he' hx' => ?_)
  obtain ⟨o, ho, hc⟩ := hx'
  refine wpAny_bind (wpAny_isInstance (T := "StopIteration") (b := true) ⟨o, ho, hc⟩ isSubtype_stop ?_)
  exact wpAny_pure (hQ _ he')
end
end PySem
namespace Gv
open PySem PySem.Spec L2 PyProof.Rows
/-- the tuple at a, each item in a new pair -/
def Itet (K : PySem.W.Frag) (a : Addr) : It :=
  ⟨fun i H => ∃ (xs : List V) (x : V), SqT K H a xs ∧ xs[i]? = some x, fun i H v H' => ∃ T x, v = .ref T ∧ H T = none ∧ H' = upd H T (.tup [.int (i : Nat), x]) ∧ ∀ xs, SqT K H a xs → xs[i]? = some x, fun i H => ∃ xs : List V, SqT K H a xs ∧ xs.length ≤ i⟩
theorem turn_enumT {P : Program} {w : World} {K : PySem.W.Frag} {elts : List Expr} {kk : Nat} {tpos : Pos} (a e it : Addr) :
    Turn P w K (.Tuple elts kk tpos) (Itet K a) [e, it] e (fun i h => (∃ old, IsEnum h e it ((i : Nat) : Int) old) ∧ h.IsTupleIter it a i ∧ e ≠ it) where
  mem := by simp
  obj := fun i h st b hb => by
    obtain ⟨⟨old, he⟩, ⟨o, ho, hc, hd⟩, _⟩ := st
    have e' : b = e ∨ b = it := by simpa using hb
    rcases e' with z | z
    · rw [z]; exact ⟨_, he, fun v q => nomatch q⟩
    · rw [z]; exact ⟨o, ho, fun v q => by rw [hd] at q; cases q⟩
  keep := fun i h h' st k => let ⟨⟨old, he⟩, hi, hne⟩ := st; ⟨⟨old, k e (by simp) _ he⟩, hi.at fun o q => k it (by simp) o q, hne⟩
  item := by
    intro X hP hw hK hc i pins s σ H E I hf st hg
    subst hP hw hK
    obtain ⟨⟨old, he⟩, hit, hne⟩ := st
    obtain ⟨xs, x, hq, hx⟩ := hg
    obtain ⟨its, rv, p, hz⟩ := I.tuple hq
    obtain ⟨u, hu, ru⟩ := rv.get hx
    have hel : e < s.heap.objs.size := Heap.lt_size he
    have hil : it < s.heap.objs.size := by obtain ⟨_, q, _⟩ := hit; exact Heap.lt_size q
    have hai : a ≠ it := by
      rintro rfl
      obtain ⟨o, ho, hc', _⟩ := p
      obtain ⟨o', ho', hc'', _⟩ := hit
      rw [ho] at ho'; cases ho'
      rw [hc'] at hc''
      injection hc'' with z
      exact absurd z (by decide)
    have hea : e ≠ a := by
      rintro rfl
      obtain ⟨o, ho, hc', _⟩ := p
      rw [he] at ho; cases ho
      injection hc' with z
      exact absurd z (by decide)
    have D := Draws.tuple (prog := X.prog) (w := X.w) (A := X.A.in1) (I.ok.hd hc) it a hai its.toArray
    have hlt : i < its.toArray.size := by
      have := (List.getElem?_eq_some_iff.mp hu).1
      simpa using this
    refine wpAny_pyNext_enum_itemD D he ⟨hit, p⟩ hlt hne (by simp [hne, hea]) fun y h' tk hy ho hst' hT hsz hk => ?_
    have ey : y = u := by
      rw [show its.toArray[i]? = some u from by simpa using hu] at hy
      cases hy
      rfl
    subst ey
    refine ⟨_, rfl, wpAny_letOwnedTupleGo_enum (s := { s with heap := h', toks := tk + 1 }) ho fun h'' he' sb => ?_⟩
    have hT2 : h''.get? s.heap.objs.size = some { cls := .type "tuple", data := .seq #[.int i tk, y] } := (sb.2 _ (Nat.ne_of_gt hel)).trans hT
    have new : ObjOk X.prog X.w (upd H s.heap.objs.size (.tup [.int (i : Nat), x])) h'' s.heap.objs.size (.tup [.int (i : Nat), x]) :=
      ⟨by show 2 ≤ sizeLine; decide, [.int i tk, y], .cons ⟨_, rfl⟩ (.cons ru .nil), ⟨_, hT2, rfl, _, rfl⟩⟩
    have I1 : Inv X pins σ (upd H s.heap.objs.size (.tup [.int (i : Nat), x])) { s with heap := h'', toks := tk + 1 } :=
      I.turnedNew (ch := [e, it]) (fun b ob hb q => (sb.2 b (fun z => hb (by simp [z]))).trans (hk b ob (fun z => hb (by simp [z])) (fun z => hb (by simp [z])) q)) hf (Nat.le_refl _) new
    refine ⟨.ref s.heap.objs.size, _, I1, rfl, ⟨_, x, rfl, I.hok.fresh (Nat.le_refl _), rfl, fun ys hy => by rw [I.tuple_inj hy hq]; exact hx⟩, ⟨⟨y, ?_⟩, hst'.1.at fun o q => (sb.2 it (Ne.symm hne)).trans q, hne⟩, fun b hb => ?_⟩
    · have e1 : ((i + 1 : Nat) : Int) = (i : Int) + 1 := by omega
      rw [e1]; exact he'
    · have hb' : b < s.heap.objs.size := by
        have e' : b = e ∨ b = it := by simpa using hb
        rcases e' with z | z
        · rw [z]; exact hel
        · rw [z]; exact hil
      rw [upd_ne (Nat.ne_of_lt hb')]
      exact (hf b hb).1
  done := by
    intro X hP hw hK hc i pins s σ H E I hf st hg
    subst hP hw hK
    obtain ⟨⟨old, he⟩, hit, hne⟩ := st
    obtain ⟨xs, hq, hx⟩ := hg
    obtain ⟨its, rv, p, hz⟩ := I.tuple hq
    obtain ⟨f0, f1, f2, f3, f4, f5⟩ := hf it (by simp)
    have hl := rv.length
    exact gv_enum_endT (I.ok.hd hc) he hit p (by simp; omega) fun h' eb => ⟨rfl, I.turned (t' := s.toks) (fun b o hb q => eb b o hb q) f0 f1 f3 f4 f5⟩
  self := fun A i s Q E st h => let ⟨⟨_, he⟩, _⟩ := st; wpAny_pyIter_enum he h

theorem pi_enumT {X : Cx} {e : Expr} {ta : TA} {p pos tpos : Pos} {elts : List Expr} {kk : Nat} (hg : Gl X "enumerate") (hm : X.mg "enumerate" = none) (ha : PA X [e] ta) (hs : starEach [e] X.env = [(false, eval e X.env)] := by rfl) :
    PI X (.Tuple elts kk tpos) (.Call (.Name "enumerate" p) [e] [] pos) (fun σ H R => ta σ H fun vs H1 => ∃ a xs, vs = [.ref a] ∧ SqT X.K H1 a xs ∧ R (Itet X.K a) H1) := by
  refine ⟨fun pins s σ H R I h => ?_⟩
  refine Call_ (ld_blt I hg hm boot_enumerate (PyProof.Rows.callWith_type1 (thn (ha.run pos pins s σ H _ I h) fun us s1 ⟨vs, H1, I1, r1, q1⟩ => ?_) hs rfl))
  obtain ⟨a, xs, ex, hq, q⟩ := q1
  subst ex
  cases r1 with
  | cons r rr =>
    cases rr
    cases r
    obtain ⟨its, rv, p', hz⟩ := I1.tuple hq
    refine gv_enum_begins (begins_tuple a its.toArray) p' fun h' he hit hsz hk => wpAny_pyIter_enum he ?_
    have I2 : Inv X pins σ H1 { s1 with heap := h' } := I1.kept (t' := s1.toks) hk
    refine ⟨s1.heap.objs.size + 1, [s1.heap.objs.size + 1, s1.heap.objs.size], _, _, H1, rfl, I2, turn_enumT a (s1.heap.objs.size + 1) s1.heap.objs.size, ⟨⟨.none, he⟩, ⟨_, hit, rfl, rfl⟩, Nat.succ_ne_self _⟩, fun b hb => ?_, q⟩
    have e' : b = s1.heap.objs.size + 1 ∨ b = s1.heap.objs.size := by simpa using hb
    have hle : s1.heap.objs.size ≤ b := by
      rcases e' with z | z
      · rw [z]; exact Nat.le_add_right _ _
      · rw [z]; exact Nat.le_refl _
    exact I1.fpOk hle (I1.hok.fresh hle)
/-- enumerate(list or tuple), zip of two -/
def enumL (k : Nat) : List D → List D
  | [] => []
  | d :: ds => .tup [.int k, d] :: enumL (k + 1) ds
theorem enumL_len : ∀ (ds : List D) (k : Nat), (enumL k ds).length = ds.length
  | [], _ => rfl
  | _ :: ds, k => by rw [enumL, List.length_cons, List.length_cons, enumL_len ds]
theorem enumL_get : ∀ (ds : List D) (k i : Nat) (d : D), ds[i]? = some d → (enumL k ds)[i]? = some (.tup [.int ((k + i : Nat) : Int), d])
  | [], _, _, _, h => by simp at h
  | a :: ds, k, 0, d, h => by simp at h; subst h; rfl
  | a :: ds, k, i + 1, d, h => by
    rw [enumL, List.getElem?_cons_succ, enumL_get ds (k + 1) i d (by simpa using h)]
    congr 4
    omega
theorem enumL_back (ds : List D) (i : Nat) (d : D) (h : (enumL 0 ds)[i]? = some d) : ∃ x, ds[i]? = some x ∧ d = .tup [.int (i : Nat), x] := by
  have hi : i < ds.length := by
    have := (List.getElem?_eq_some_iff.mp h).1
    rw [enumL_len] at this
    exact this
  have e := enumL_get ds 0 i ds[i] (List.getElem?_eq_getElem hi)
  rw [h] at e
  cases e
  exact ⟨ds[i], List.getElem?_eq_getElem hi, by simp⟩
def iEn (a : AD) : ID := fun en st => (a en st).bind fun xs s1 => match xs with
  | [.tup ds] => .ok ⟨enumL 0 ds, none⟩ s1
  | [.obj i] => match s1[i]? with
    | some (.lst ds) => .ok ⟨enumL 0 ds, some (i, ds)⟩ s1
    | some (.fls ds) => .ok ⟨enumL 0 ds, some (i, ds)⟩ s1
    | _ => .no
  | _ => .no
theorem jr_enL {K : PySem.W.Frag} {as0 : List Addr} {H0 : Hp} {a : Addr} {i0 : Nat} {xs : List D} (h : as0[i0]? = some a) : JR K as0 H0 (Ite K a) ⟨enumL 0 xs, some (i0, xs)⟩ where
  go := fun i as H st p rs ok d hd => by
    obtain ⟨vs, sq, g1, _⟩ := guard_at rs (p.get h) ok
    obtain ⟨x, hx, rfl⟩ := enumL_back xs i d hd
    obtain ⟨v, hv, rv⟩ := g1 x hx
    refine ⟨⟨vs, v, sq, hv⟩, fun z H' y => ?_⟩
    obtain ⟨Tp, w', rfl, hT, rfl, hy⟩ := y
    have := hy vs sq
    rw [hv] at this
    cases this
    exact ⟨Stp.new hT, rs.new hT, .tup upd_same (.cons (.int _) (.cons (rv.mono (Stp.new hT)) .nil))⟩
  stop := fun as H st p rs ok => by
    obtain ⟨vs, sq, _, g2⟩ := guard_at rs (p.get h) ok
    refine ⟨vs, sq, ?_⟩
    show vs.length ≤ (enumL 0 xs).length
    exact g2 (List.getElem?_eq_none (by show xs.length ≤ (enumL 0 xs).length; rw [enumL_len]; exact Nat.le_refl _))
theorem jr_enT {K : PySem.W.Frag} {as0 : List Addr} {H0 : Hp} {a : Addr} {ys : List V} {xs : List D} (h : H0 a = some (.tup ys)) (r : RVs K as0 H0 ys xs) : JR K as0 H0 (Itet K a) ⟨enumL 0 xs, none⟩ where
  go := fun i as H st p rs ok d hd => by
    have h' := p.tup _ _ h
    obtain ⟨x, hx, rfl⟩ := enumL_back xs i d hd
    obtain ⟨v, hv, rv⟩ := (r.mono p).get hx
    refine ⟨⟨ys, v, SqT.of h', hv⟩, fun z H' y => ?_⟩
    obtain ⟨Tp, w', rfl, hT, rfl, hy⟩ := y
    have := hy ys (SqT.of h')
    rw [hv] at this
    cases this
    exact ⟨Stp.new hT, rs.new hT, .tup upd_same (.cons (.int _) (.cons (rv.mono (Stp.new hT)) .nil))⟩
  stop := fun as H st p rs ok => ⟨ys, SqT.of (p.tup _ _ h), by rw [r.length]; show xs.length ≤ (enumL 0 xs).length; rw [enumL_len]; exact Nat.le_refl _⟩
section
variable {X : Cx} {T : Nat → Addr} {W : WX} {a b : Expr} {ds : AD} {pos p tpos : Pos} {elts : List Expr} {kk : Nat}
theorem gi_enum (ha : PA X [a] (tA X.K T W ds)) (hm : X.mg "enumerate" = none) (hg : Gl X "enumerate" := by rfl) (hs : starEach [a] X.env = [(false, eval a X.env)] := by rfl) : PI X (.Tuple elts kk tpos) (.Call (.Name "enumerate" p) [a] [] pos) (tI X.K T W (iEn ds)) := by
  refine pi_mono (pi_orT' (pi_enum hg hm ha hs) (pi_enumT hg hm ha hs)) fun σ H R ⟨en, st, as, rs, re, q⟩ => ?_
  unfold iEn at q
  cases e : ds en st with
  | no => rw [e] at q; exact q.elim
  | er x s =>
    refine .inl ⟨en, st, as, rs, re, ?_⟩
    rw [e] at q ⊢
    exact q
  | ok xs s1 =>
    rw [e] at q
    dsimp only [Re.bind] at q
    split at q
    · rename_i us
      refine .inr ⟨en, st, as, rs, re, ?_⟩
      rw [e]
      intro vs H' as' p rs' rv
      cases rv with
      | cons r1 rr =>
        cases rr
        cases r1 with
        | @tup a ys _ h r => exact ⟨a, ys, rfl, SqT.of h, q _ H' as' p rs' (jr_enT h r)⟩
    · rename_i i
      refine .inl ⟨en, st, as, rs, re, ?_⟩
      rw [e]
      split at q
      · rename_i us hx
        intro vs H' as' p rs' rv
        cases rv with
        | cons r1 rr =>
          cases rr
          cases r1 with
          | @obj a _ h =>
            obtain ⟨ys, sq, r⟩ := Sq_of rs' h (.inl hx)
            exact ⟨a, ys, rfl, sq, q _ H' as' p rs' (jr_enL h)⟩
      · rename_i us hx
        intro vs H' as' p rs' rv
        cases rv with
        | cons r1 rr =>
          cases rr
          cases r1 with
          | @obj a _ h =>
            obtain ⟨ys, sq, r⟩ := Sq_of rs' h (.inr hx)
            exact ⟨a, ys, rfl, sq, q _ H' as' p rs' (jr_enL h)⟩
      · exact q.elim
    · exact q.elim
end
end Gv
namespace Gv
open PySem PySem.Spec L2

/-! ### built-ins -/
def fLen : FN := fun ds st => match ds with
  | [.tup xs] => some (.int xs.length, st)
  | [.str y] => if y.length ≤ 16777216 then some (.int y.length, st) else none
  | [.obj i] => match st[i]? with
    | some (.lst xs) => some (.int xs.length, st)
    | some (.fls xs) => some (.int xs.length, st)
    | _ => none
  | _ => none
def fAbs : FN := fun ds st => match ds with
  | [.int i] => some (.int (if i < 0 then -i else i), st)
  | _ => none
def fMax2 : FN := fun ds st => match ds with
  | [.int i, .int j] => some (.int (if j > i then j else i), st)
  | _ => none
def fMin2 : FN := fun ds st => match ds with
  | [.int i, .int j] => some (.int (if j < i then j else i), st)
  | _ => none
def fInt1 : FN := fun ds st => match ds with
  | [.int i] => some (.int i, st)
  | [.bl k] => some (.int (if k then 1 else 0), st)
  | _ => none
def seqOf (st : Sto) : D → Option (List D)
  | .tup xs => some xs
  | .obj i => (st[i]?).bind Ob.seq
  | _ => none
def fList : FN := fun ds st => match ds with
  | [d] => (seqOf st d).map fun xs => (.obj st.length, st ++ [.lst xs])
  | _ => none
def fTuple : FN := fun ds st => match ds with
  | [d] => (seqOf st d).map fun xs => (.tup xs, st)
  | _ => none
def blsD : List D → Option (List Bool)
  | [] => some []
  | .bl b :: ds => (blsD ds).map fun bs => b :: bs
  | _ => none
def intsD : List D → Option (List Int)
  | [] => some []
  | .int b :: ds => (intsD ds).map fun bs => b :: bs
  | _ => none
def lstOf (st : Sto) : D → Option (List D)
  | .obj i => (st[i]?).bind Ob.seq
  | _ => none
def fAny : FN := fun ds st => match ds with
  | [d] => ((lstOf st d).bind blsD).map fun bs => (.bl (bs.any id), st)
  | _ => none
def fAll : FN := fun ds st => match ds with
  | [d] => ((lstOf st d).bind blsD).map fun bs => (.bl (bs.all id), st)
  | _ => none
def fSum : FN := fun ds st => match ds with
  | [d] => ((lstOf st d).bind intsD).map fun ns => (.int ns.sum, st)
  | _ => none
def fMin1 : FN := fun ds st => match ds with
  | [d] => ((seqOf st d).bind intsD).bind fun ns => match ns with
    | n :: ns => if ns.length < 1000000 then some (.int (ns.foldl min n), st) else none
    | [] => none
  | _ => none
def fMax1 : FN := fun ds st => match ds with
  | [d] => ((seqOf st d).bind intsD).bind fun ns => match ns with
    | n :: ns => if ns.length < 1000000 then some (.int (ns.foldl max n), st) else none
    | [] => none
  | _ => none
section
variable {K : PySem.W.Frag} {as : List Addr} {H : Hp} {st : Sto}
theorem RVs.one {vs : List V} {d : D} (r : RVs K as H vs [d]) : ∃ v, vs = [v] ∧ RV K as H v d := by
  cases r with
  | cons h r => cases r; exact ⟨_, rfl, h⟩
theorem RVs.two {vs : List V} {d e : D} (r : RVs K as H vs [d, e]) : ∃ v w, vs = [v, w] ∧ RV K as H v d ∧ RV K as H w e := by
  cases r with
  | cons h r => cases r with
    | cons h2 r => cases r; exact ⟨_, _, rfl, h, h2⟩
theorem seqOf_sq (rs : RS K as H st) {d : D} {v : V} {xs : List D} (r : RV K as H v d) (e : seqOf st d = some xs) : ∃ p ys, v = .ref p ∧ (SqL K H p ys ∨ SqT K H p ys) ∧ RVs K as H ys xs ∧ (∀ i, d = .obj i → SqL K H p ys) ∧ ((∀ i, d ≠ .obj i) → H p = some (.tup ys)) := by
  cases d with
  | tup zs =>
    cases e
    cases r with
    | @tup a ys _ h r => exact ⟨a, ys, rfl, .inr (SqT.of h), r, (fun i z => nomatch z), fun _ => h⟩
  | obj i =>
    simp only [seqOf] at e
    cases eo : st[i]? with
    | none => rw [eo] at e; cases e
    | some o =>
      rw [eo] at e
      obtain ⟨a, rfl, _, ro⟩ := rs.obj r eo
      obtain ⟨ys, sq, r⟩ := ro.seq e
      exact ⟨a, ys, rfl, .inl sq, r, fun _ _ => sq, fun z => absurd rfl (z i)⟩
  | _ => cases e
theorem lstOf_sq (rs : RS K as H st) {d : D} {v : V} {xs : List D} (r : RV K as H v d) (e : lstOf st d = some xs) : ∃ p ys, v = .ref p ∧ SqL K H p ys ∧ RVs K as H ys xs := by
  cases d with
  | obj i =>
    obtain ⟨p, ys, e1, _, r1, h, _⟩ := seqOf_sq rs r (show seqOf st (.obj i) = some xs from e)
    exact ⟨p, ys, e1, h i rfl, r1⟩
  | _ => cases e
theorem blsD_rv : ∀ {ds : List D} {bs : List Bool} {vs : List V}, RVs K as H vs ds → blsD ds = some bs → vs = bs.map V.bl
  | [], _, _, .nil, e => by cases e; rfl
  | d :: ds, bs, _, .cons h r, e => by
    cases d with
    | bl b =>
      simp only [blsD] at e
      cases e1 : blsD ds with
      | none => rw [e1] at e; cases e
      | some cs => rw [e1] at e; cases e; cases h; rw [blsD_rv r e1]; rfl
    | _ => cases e
theorem intsD_rv : ∀ {ds : List D} {bs : List Int} {vs : List V}, RVs K as H vs ds → intsD ds = some bs → vs = bs.map V.int
  | [], _, _, .nil, e => by cases e; rfl
  | d :: ds, bs, _, .cons h r, e => by
    cases d with
    | int b =>
      simp only [intsD] at e
      cases e1 : intsD ds with
      | none => rw [e1] at e; cases e
      | some cs => rw [e1] at e; cases e; cases h; rw [intsD_rv r e1]; rfl
    | _ => cases e
end
section
variable {X : Cx}
theorem cg_len : CallR X (.builtin "len") (cOf X.K fLen) := by
  intro pins s σ H xs us Q I r ⟨as, st, ds, rs, rx, q⟩
  unfold fLen at q
  split at q
  · obtain ⟨v, rfl, rv⟩ := rx.one
    cases rv with
    | @tup a ys _ h r' => exact call_len pins s σ H _ us Q I r ⟨_, ys.length, rfl, .inr ⟨ys, SqT.of h, rfl⟩, by rw [r'.length]; exact postv1 rs (.int _) q⟩
  · obtain ⟨v, rfl, rv⟩ := rx.one
    cases rv
    split at q
    · exact call_len pins s σ H _ us Q I r ⟨_, _, rfl, ⟨by rw [sizeLine_eq]; assumption, rfl⟩, postv1 rs (.int _) q⟩
    · exact q.elim
  · obtain ⟨v, rfl, rv⟩ := rx.one
    split at q
    · rename_i zs hz
      obtain ⟨a, rfl, _, ys, ey, r'⟩ := rs.obj rv hz
      exact call_len pins s σ H _ us Q I r ⟨_, ys.length, rfl, .inl ⟨ys, SqL.of ey, rfl⟩, by rw [r'.length]; exact postv1 rs (.int _) q⟩
    · rename_i zs hz
      obtain ⟨a, rfl, _, ys, ey, r'⟩ := rs.obj rv hz
      exact call_len pins s σ H _ us Q I r ⟨_, ys.length, rfl, .inl ⟨ys, ey.sq, rfl⟩, by rw [r'.length]; exact postv1 rs (.int _) q⟩
    · exact q.elim
  · exact q.elim
theorem cg_abs : CallR X (.builtin "abs") (cOf X.K fAbs) := by
  intro pins s σ H xs us Q I r ⟨as, st, ds, rs, rx, q⟩
  unfold fAbs at q
  split at q
  · obtain ⟨v, rfl, rv⟩ := rx.one
    cases rv
    exact call_abs pins s σ H _ us Q I r ⟨_, rfl, postv1 rs (.int _) q⟩
  · exact q.elim
theorem cg_max2 (hc : X.calm = true) : CallR X (.builtin "max") (cOf X.K fMax2) := by
  intro pins s σ H xs us Q I r ⟨as, st, ds, rs, rx, q⟩
  unfold fMax2 at q
  split at q
  · obtain ⟨v, w, rfl, rv, rw'⟩ := rx.two
    cases rv; cases rw'
    exact call_max2 hc pins s σ H _ us Q I r ⟨_, _, rfl, postv1 rs (.int _) q⟩
  · exact q.elim
theorem cg_min2 (hc : X.calm = true) : CallR X (.builtin "min") (cOf X.K fMin2) := by
  intro pins s σ H xs us Q I r ⟨as, st, ds, rs, rx, q⟩
  unfold fMin2 at q
  split at q
  · obtain ⟨v, w, rfl, rv, rw'⟩ := rx.two
    cases rv; cases rw'
    exact call_min2 hc pins s σ H _ us Q I r ⟨_, _, rfl, postv1 rs (.int _) q⟩
  · exact q.elim
theorem cg_int : CallR X (.type "int") (cOf X.K fInt1) := by
  intro pins s σ H xs us Q I r ⟨as, st, ds, rs, rx, q⟩
  unfold fInt1 at q
  split at q
  · obtain ⟨v, rfl, rv⟩ := rx.one
    cases rv
    exact call_int1 pins s σ H _ us Q I r (.inl ⟨_, rfl, postv1 rs (.int _) q⟩)
  · obtain ⟨v, rfl, rv⟩ := rx.one
    cases rv
    exact call_int1 pins s σ H _ us Q I r (.inr ⟨_, rfl, postv1 rs (.int _) q⟩)
  · exact q.elim
theorem cg_list : CallR X (.type "list") (cOf X.K fList) := by
  intro pins s σ H xs us Q I r ⟨as, st, ds, rs, rx, q⟩
  unfold fList at q
  split at q
  · rename_i d
    obtain ⟨v, rfl, rv⟩ := rx.one
    cases e : seqOf st d with
    | none => rw [e] at q; exact q.elim
    | some zs =>
      rw [e] at q
      obtain ⟨p, ys, rfl, sq, r', _, _⟩ := seqOf_sq rs rv e
      exact call_list_of pins s σ H _ us Q I r ⟨p, ys, rfl, sq, fun l hl => q _ _ (as ++ [l]) (Stp.alloc hl) (rs.alloc hl ⟨ys, upd_same, r'.mono (Stp.alloc hl)⟩) (newAt rs)⟩
  · exact q.elim
theorem cg_tuple : CallR X (.type "tuple") (cOf X.K fTuple) := by
  intro pins s σ H xs us Q I r ⟨as, st, ds, rs, rx, q⟩
  unfold fTuple at q
  split at q
  · rename_i d
    obtain ⟨v, rfl, rv⟩ := rx.one
    cases e : seqOf st d with
    | none => rw [e] at q; exact q.elim
    | some zs =>
      rw [e] at q
      obtain ⟨p, ys, rfl, sq, r', h1, h2⟩ := seqOf_sq rs rv e
      by_cases ho : ∃ i, d = .obj i
      · obtain ⟨i, rfl⟩ := ho
        exact call_tuple_of pins s σ H _ us Q I r ⟨p, ys, rfl, .inl ⟨h1 i rfl, fun l hl => q _ _ as (Stp.new hl) (rs.new hl) (.tup upd_same (r'.mono (Stp.new hl)))⟩⟩
      · have ht := h2 fun i z => ho ⟨i, z⟩
        exact call_tuple_of pins s σ H _ us Q I r ⟨p, ys, rfl, .inr ⟨SqT.of ht, postv1 rs (.tup ht r') q⟩⟩
  · exact q.elim
theorem cg_any (hc : X.calm = true) : CallR X (.builtin "any") (cOf X.K fAny) := by
  intro pins s σ H xs us Q I r ⟨as, st, ds, rs, rx, q⟩
  unfold fAny at q
  split at q
  · rename_i d
    obtain ⟨v, rfl, rv⟩ := rx.one
    cases e : lstOf st d with
    | none => rw [e] at q; exact q.elim
    | some zs =>
      rw [e] at q
      cases e2 : blsD zs with
      | none => simp only [Option.bind_some, e2] at q; exact q.elim
      | some bs =>
        simp only [Option.bind_some, e2] at q
        obtain ⟨p, ys, rfl, sq, r'⟩ := lstOf_sq rs rv e
        rw [blsD_rv r' e2] at sq
        exact cr_any hc pins s σ H _ us Q I r ⟨p, bs, rfl, sq, postv1 rs (.bl _) q⟩
  · exact q.elim
theorem cg_all (hc : X.calm = true) : CallR X (.builtin "all") (cOf X.K fAll) := by
  intro pins s σ H xs us Q I r ⟨as, st, ds, rs, rx, q⟩
  unfold fAll at q
  split at q
  · rename_i d
    obtain ⟨v, rfl, rv⟩ := rx.one
    cases e : lstOf st d with
    | none => rw [e] at q; exact q.elim
    | some zs =>
      rw [e] at q
      cases e2 : blsD zs with
      | none => simp only [Option.bind_some, e2] at q; exact q.elim
      | some bs =>
        simp only [Option.bind_some, e2] at q
        obtain ⟨p, ys, rfl, sq, r'⟩ := lstOf_sq rs rv e
        rw [blsD_rv r' e2] at sq
        exact cr_all hc pins s σ H _ us Q I r ⟨p, bs, rfl, sq, postv1 rs (.bl _) q⟩
  · exact q.elim
theorem cg_sum (hc : X.calm = true) : CallR X (.builtin "sum") (cOf X.K fSum) := by
  intro pins s σ H xs us Q I r ⟨as, st, ds, rs, rx, q⟩
  unfold fSum at q
  split at q
  · rename_i d
    obtain ⟨v, rfl, rv⟩ := rx.one
    cases e : lstOf st d with
    | none => rw [e] at q; exact q.elim
    | some zs =>
      rw [e] at q
      cases e2 : intsD zs with
      | none => simp only [Option.bind_some, e2] at q; exact q.elim
      | some bs =>
        simp only [Option.bind_some, e2] at q
        obtain ⟨p, ys, rfl, sq, r'⟩ := lstOf_sq rs rv e
        rw [intsD_rv r' e2] at sq
        exact cr_sum hc pins s σ H _ us Q I r ⟨p, bs, rfl, sq, postv1 rs (.int _) q⟩
  · exact q.elim
/-! least, greatest of ints -/
theorem readsAll_ints {h : Heap} : ∀ {ns : List Int} {us : List Value}, Vals (ns.map V.int) us → ∃ as, ReadsAll h us (ns.map PyData.int) as
  | [], _, .nil => ⟨_, .nil⟩
  | n :: ns, _, .cons r t => by
    obtain ⟨t', rfl⟩ := r
    obtain ⟨as, q⟩ := readsAll_ints (h := h) (ns := ns) t
    exact ⟨_, .cons (.int n t') q⟩
theorem depth_ints : ∀ ns : List Int, PyData.depthAll (ns.map PyData.int) = 0
  | [] => by simp [PyData.depthAll]
  | n :: ns => by simp [PyData.depthAll, PyData.depth, depth_ints ns]
theorem cg_min1 (hc : X.calm = true) (hu : X.A.units + 64 < cLine) : CallR X (.builtin "min") (cOf X.K fMin1) := by
  intro pins s σ H xs us Q I r ⟨as, st, ds, rs, rx, q⟩
  unfold fMin1 at q
  split at q
  · rename_i d
    obtain ⟨v, rfl, rv⟩ := rx.one
    cases e : seqOf st d with
    | none => rw [e] at q; exact q.elim
    | some zs =>
      rw [e] at q
      cases e2 : intsD zs with
      | none => simp only [Option.bind_some, e2] at q; exact q.elim
      | some bs =>
        simp only [Option.bind_some, e2] at q
        cases bs with
        | nil => exact q.elim
        | cons n ns =>
          dsimp only at q
          split at q
          · obtain ⟨p, ys, rfl, sq, r', _, _⟩ := seqOf_sq rs rv e
            have ey := intsD_rv r' e2
            subst ey
            rw [Vals.ref1 r]
            have al : PySem.W.AlikeAll ((n :: ns).map PyData.int) := ⟨fun x hx y hy => by
              obtain ⟨a, _, rfl⟩ := List.mem_map.mp hx
              obtain ⟨b, _, rfl⟩ := List.mem_map.mp hy
              rfl, fun x hx => by
              obtain ⟨a, _, rfl⟩ := List.mem_map.mp hx
              exact fun z => nomatch z⟩
            have dp : X.A.units + 1 + PyData.depthAll ((n :: ns).map PyData.int) < cLine := by rw [depth_ints]; omega
            have fin : ∀ (i : Nat) (v : Value) (h' : Heap) (tk : Nat) (bs : List Addr), Reads h' v (PySem.W.minD (.int n) (ns.map .int)) bs → (∀ b o, s.heap.get? b = some o → h'.get? b = some o) → EP X pins σ Q v { s with heap := h', toks := tk } := fun i v h' tk bs rd k => by
              rw [PySem.W.minD_ints] at rd
              cases rd
              exact ⟨.int _, H, I.kept k, ⟨_, rfl⟩, postv1 rs (.int _) q⟩
            rcases sq with sq | sq
            · obtain ⟨its, rv', hl, _⟩ := I.list sq
              obtain ⟨as', ra⟩ := readsAll_ints (h := s.heap) rv'
              exact PySem.W.min_list_data (I.ok.hd hc) hl.isList (by simpa using ra) al dp fun i v h' tk bs _ rd k => fin i v h' tk bs rd k
            · obtain ⟨its, rv', hl, _⟩ := I.tuple sq
              obtain ⟨as', ra⟩ := readsAll_ints (h := s.heap) rv'
              exact PySem.W.min_tuple_data (I.ok.hd hc) (show s.heap.IsTuple _ its.toArray from hl) (by simpa using ra) al dp fun i v h' tk bs _ rd k => fin i v h' tk bs rd k
          · exact q.elim
  · exact q.elim
theorem cg_max1 (hc : X.calm = true) (hu : X.A.units + 64 < cLine) : CallR X (.builtin "max") (cOf X.K fMax1) := by
  intro pins s σ H xs us Q I r ⟨as, st, ds, rs, rx, q⟩
  unfold fMax1 at q
  split at q
  · rename_i d
    obtain ⟨v, rfl, rv⟩ := rx.one
    cases e : seqOf st d with
    | none => rw [e] at q; exact q.elim
    | some zs =>
      rw [e] at q
      cases e2 : intsD zs with
      | none => simp only [Option.bind_some, e2] at q; exact q.elim
      | some bs =>
        simp only [Option.bind_some, e2] at q
        cases bs with
        | nil => exact q.elim
        | cons n ns =>
          dsimp only at q
          split at q
          · obtain ⟨p, ys, rfl, sq, r', _, _⟩ := seqOf_sq rs rv e
            have ey := intsD_rv r' e2
            subst ey
            rw [Vals.ref1 r]
            have al : PySem.W.AlikeAll ((n :: ns).map PyData.int) := ⟨fun x hx y hy => by
              obtain ⟨a, _, rfl⟩ := List.mem_map.mp hx
              obtain ⟨b, _, rfl⟩ := List.mem_map.mp hy
              rfl, fun x hx => by
              obtain ⟨a, _, rfl⟩ := List.mem_map.mp hx
              exact fun z => nomatch z⟩
            have dp : X.A.units + 1 + PyData.depthAll ((n :: ns).map PyData.int) < cLine := by rw [depth_ints]; omega
            have fin : ∀ (i : Nat) (v : Value) (h' : Heap) (tk : Nat) (bs : List Addr), Reads h' v (PySem.W.maxD (.int n) (ns.map .int)) bs → (∀ b o, s.heap.get? b = some o → h'.get? b = some o) → EP X pins σ Q v { s with heap := h', toks := tk } := fun i v h' tk bs rd k => by
              rw [PySem.W.maxD_ints] at rd
              cases rd
              exact ⟨.int _, H, I.kept k, ⟨_, rfl⟩, postv1 rs (.int _) q⟩
            rcases sq with sq | sq
            · obtain ⟨its, rv', hl, _⟩ := I.list sq
              obtain ⟨as', ra⟩ := readsAll_ints (h := s.heap) rv'
              exact PySem.W.max_list_data (I.ok.hd hc) hl.isList (by simpa using ra) al dp fun i v h' tk bs _ rd k => fin i v h' tk bs rd k
            · obtain ⟨its, rv', hl, _⟩ := I.tuple sq
              obtain ⟨as', ra⟩ := readsAll_ints (h := s.heap) rv'
              exact PySem.W.max_tuple_data (I.ok.hd hc) (show s.heap.IsTuple _ its.toArray from hl) (by simpa using ra) al dp fun i v h' tk bs _ rd k => fin i v h' tk bs rd k
          · exact q.elim
  · exact q.elim
end
end Gv
namespace Gv
open PySem PySem.Spec L2

/-! ### methods -/
def isL (st : Sto) : D → Bool
  | .obj i => match st[i]? with
    | some (.lst _) => true
    | some (.fls _) => true
    | _ => false
  | _ => false
abbrev FM := D → List D → Sto → Vr
def dM (chk : Sto → D → Bool) (f : FM) (o : ED) (a : AD) : ED := fun en st => (o en st).bind fun x s1 => if chk s1 x = true then (a en s1).bind fun xs s2 => (f x xs s2).re else .no
def mOf (K : PySem.W.Frag) (f : FM) : V → List V → Hp → VK → Prop := fun x vs H Q => ∃ as st dx ds, RS K as H st ∧ RV K as H x dx ∧ RVs K as H vs ds ∧ PostV K as H (f dx ds st) Q
def fAppend : FM := fun x ds st => match x, ds with
  | .obj i, [y] => match st[i]? with
    | some (.lst xs) => if xs.length < 16777216 then some (.non, st.set i (.lst (xs ++ [y]))) else none
    | _ => none
  | _, _ => none
def fExtend : FM := fun x ds st => match x, ds with
  | .obj i, [.obj j] => match st[i]?, st[j]? with
    | some (.lst xs), some (.lst ys) => if xs.length + ys.length ≤ 16777216 then some (.non, st.set i (.lst (xs ++ ys))) else none
    | _, _ => none
  | _, _ => none
def fPop : FM := fun x ds st => match x, ds with
  | .obj i, [] => match st[i]? with
    | some (.lst xs) => match xs[xs.length - 1]? with
      | some y => some (y, st.set i (.lst xs.dropLast))
      | none => none
    | _ => none
  | _, _ => none
section
variable {K : PySem.W.Frag} {as : List Addr} {H : Hp} {st : Sto}
theorem isL_ty {x : V} {d : D} (rs : RS K as H st) (rx : RV K as H x d) (e : isL st d = true) : tyV K "list" x H := by
  cases d with
  | obj i =>
    simp only [isL] at e
    split at e
    · rename_i xs hx
      obtain ⟨a, rfl, _, ys, ey, _⟩ := rs.obj rx hx
      exact .inl ⟨rfl, _, SqL.of ey⟩
    · rename_i xs hx
      obtain ⟨a, rfl, _, ys, ey, _⟩ := rs.obj rx hx
      exact .inl ⟨rfl, _, ey.sq⟩
    · cases e
  | _ => cases e
end
section
variable {X : Cx} {T : Nat → Addr} {W : WX} {o e : Expr} {es : List Expr} {dO : ED} {da : AD} {apos cpos : Pos} {name : Str} {id : String} {f : FM}
theorem g_m (slot : Slot "list" name id) (hty : typeOf (.builtin id) = pure (.type "method_descriptor")) (hm : MtR X id (mOf X.K f)) (ho : PE X o (tE X.K T W dO)) (ha : PA X (e :: es) (tA X.K T W da))
    (hbase : attributeBase o name X.env (eval o X.env) = eval o X.env := by rfl)
    (hfew : ((backTo cpos (starEach (e :: es) X.env)).all (fun x => !x.1) && (backToKw cpos (keywordEach [] X.env)).all (fun x => x.1.isSome)
      && decide ((e :: es).length + ([] : List Keyword).length + (if ([] : List Keyword).isEmpty then 0 else 1) < 30)) = true := by rfl)
    (hline : (apos.endLine == cpos.line) = true := by rfl) (hs : starEach (e :: es) X.env = (false, eval e X.env) :: starEach es X.env := by rfl) (hplain : (backTo cpos (starEach es X.env)).any (·.1) = false := by rfl) :
    PE X (.Call (.Attribute o name apos) (e :: es) [] cpos) (tE X.K T W (dM isL f dO da)) := by
  refine pe_mono (pe_bm PySem.F.plainAttrs_list slot hty hm ho ha hbase hfew hline hs hplain) fun σ H Q ⟨en, st, as, rs, re, q⟩ => ?_
  refine ⟨en, st, as, rs, re, q.bind.imp fun x H1 ⟨as1, s1, dx, p1, rs1, rx, q1⟩ => ?_⟩
  split at q1
  · rename_i c
    refine ⟨isL_ty rs1 rx c, en, s1, as1, rs1, re.mono p1, q1.bind.imp fun xs H2 ⟨as2, s2, dxs, p2, rs2, rxs, q2⟩ => ?_⟩
    exact ⟨as2, s2, dx, dxs, rs2, rx.mono p2, rxs, q2.v⟩
  · exact q1.elim
theorem g_m0 (slot : Slot "list" name id) (hty : typeOf (.builtin id) = pure (.type "method_descriptor")) (hm : MtR X id (mOf X.K f)) (ho : PE X o (tE X.K T W dO))
    (hbase : attributeBase o name X.env (eval o X.env) = eval o X.env := by rfl) (hline : (apos.endLine == cpos.line) = true := by rfl) :
    PE X (.Call (.Attribute o name apos) [] [] cpos) (tE X.K T W (dM isL f dO dNil)) := by
  refine pe_mono (pe_bm0 PySem.F.plainAttrs_list slot hty hm ho hbase hline) fun σ H Q ⟨en, st, as, rs, re, q⟩ => ?_
  refine ⟨en, st, as, rs, re, q.bind.imp fun x H1 ⟨as1, s1, dx, p1, rs1, rx, q1⟩ => ?_⟩
  split at q1
  · rename_i c
    exact ⟨isL_ty rs1 rx c, as1, s1, dx, [], rs1, rx, .nil, Post.v q1⟩
  · exact q1.elim
theorem mg_append : MtR X "list.append" (mOf X.K fAppend) := by
  intro pins s σ H x xs v us Q I rx rxs ⟨as, st, dx, ds, rs, hx, hxs, q⟩
  unfold fAppend at q
  split at q
  · rename_i i y
    split at q
    · rename_i zs hz
      split at q
      · rename_i hl
        obtain ⟨a, rfl, ha, ys, ey, r⟩ := rs.obj hx hz
        obtain ⟨w', rfl, rw'⟩ := hxs.one
        refine mt_append pins s σ H _ _ v us Q I rx rxs ⟨a, ys, w', rfl, rfl, ey, by rw [r.length, sizeLine_eq]; exact hl, ?_⟩
        exact q _ _ as (Stp.write ha ey trivial) (rs.write (y := .lst (zs ++ [y])) ha hz trivial trivial ⟨_, upd_same, (r.append (.cons rw' .nil)).mono (Stp.write ha ey trivial)⟩) .non
      · exact q.elim
    · exact q.elim
  · exact q.elim
theorem mg_extend : MtR X "list.extend" (mOf X.K fExtend) := by
  intro pins s σ H x xs v us Q I rx rxs ⟨as, st, dx, ds, rs, hx, hxs, q⟩
  unfold fExtend at q
  split at q
  · rename_i i j
    split at q
    · rename_i zs ws hz hw
      split at q
      · rename_i hl
        obtain ⟨a, rfl, ha, ys, ey, r⟩ := rs.obj hx hz
        obtain ⟨w', rfl, rw'⟩ := hxs.one
        obtain ⟨b, rfl, hb, ys2, ey2, r2⟩ := rs.obj rw' hw
        refine mt_extend pins s σ H _ _ v us Q I rx rxs ⟨a, b, ys, ys2, rfl, rfl, ey, ey2, by rw [r.length, r2.length, sizeLine_eq]; exact hl, ?_⟩
        exact q _ _ as (Stp.write ha ey trivial) (rs.write (y := .lst (zs ++ ws)) ha hz trivial trivial ⟨_, upd_same, (r.append r2).mono (Stp.write ha ey trivial)⟩) .non
      · exact q.elim
    · exact q.elim
  · exact q.elim
theorem mg_pop : MtR X "list.pop" (mOf X.K fPop) := by
  intro pins s σ H x xs v us Q I rx rxs ⟨as, st, dx, ds, rs, hx, hxs, q⟩
  unfold fPop at q
  split at q
  · split at q
    · rename_i zs hz
      split at q
      · rename_i y hy
        obtain ⟨a, rfl, ha, ys, ey, r⟩ := rs.obj hx hz
        cases hxs
        obtain ⟨w', hw, rw'⟩ := r.get hy
        refine mt_pop pins s σ H _ _ v us Q I rx rxs ⟨a, ys, w', rfl, rfl, ey, by rw [r.length]; exact hw, ?_⟩
        exact q _ _ as (Stp.write ha ey trivial) (rs.write (y := .lst zs.dropLast) ha hz trivial trivial ⟨_, upd_same, r.dropLast.mono (Stp.write ha ey trivial)⟩) (rw'.mono (Stp.write ha ey trivial))
      · exact q.elim
    · exact q.elim
  · exact q.elim
end

/-! ### slices -/
def cutD {α : Type} (xs : List α) (lo hi : Option Int) : List α := (xs.drop (HT.sIx xs.length 0 lo)).take (HT.sIx xs.length xs.length hi - HT.sIx xs.length 0 lo)
def fSl (x : D) (lo hi : Option Int) (st : Sto) : Vr := match x with
  | .tup xs => some (.tup (cutD xs lo hi), st)
  | .obj i => match (st[i]?).bind Ob.seq with
    | some xs => some (.obj st.length, st ++ [.lst (cutD xs lo hi)])
    | none => none
  | _ => none
/-- a part of a slice -/
abbrev OD := En → Sto → Re (Option Int)
def oNo : OD := fun _ st => .ok none st
def oSo (a : ED) : OD := fun en st => (a en st).bind fun x s1 => match x with
  | .int i => .ok (some i) s1
  | _ => .no
def dSl (a : ED) (l h : OD) : ED := fun en st => (a en st).bind fun x s1 => (l en s1).bind fun i s2 => (h en s2).bind fun j s3 => (fSl x i j s3).re
def relO (_ : List Addr) (_ : Hp) (b c : Option Int) : Prop := b = c
def tO (K : PySem.W.Frag) (T : Nat → Addr) (W : WX) (d : OD) : TO := fun σ H Q => ∃ en st as, RS K as H st ∧ RE K as H σ en ∧ Post K T relO W σ as H (d en st) Q
theorem RVs.slice {K : PySem.W.Frag} {as : List Addr} {H : Hp} {vs : List V} {ds : List D} (r : RVs K as H vs ds) (lo hi : Option Int) : RVs K as H (cutV vs lo hi) (cutD ds lo hi) := by
  unfold cutV cutD
  rw [r.length]
  exact (r.drop _).take _
theorem HT_le (n : Nat) (o : Option Int) : HT.sIx n n o ≤ n := HT.sIx_le n n (Nat.le_refl _) o
section
variable {X : Cx} {T : Nat → Addr} {W : WX} {a : Expr} {lo hi : Option Expr} {da : ED} {dl dh : OD} {pos p2 : Pos}
theorem go_no : PO X none (tO X.K T W oNo) := ⟨fun pins s σ H Q I ⟨en, st, as, rs, re, q⟩ => po_none.run pins s σ H Q I (q none H as Stp.refl rs rfl)⟩
theorem go_so (h : PE X a (tE X.K T W da)) : PO X (some a) (tO X.K T W (oSo da)) := ⟨fun pins s σ H Q I ⟨en, st, as, rs, re, q⟩ => (po_some h).run pins s σ H Q I
  ⟨en, st, as, rs, re, q.bind.imp fun x H1 ⟨as1, s1, dx, p1, rs1, rx, q1⟩ => by
    cases rx with
    | int i => exact ⟨i, rfl, q1 _ H1 as1 Stp.refl rs1 rfl⟩
    | _ => exact q1.elim⟩⟩
theorem sl_g : SlR X (fun x l h H Q => ∃ as st dx, RS X.K as H st ∧ RV X.K as H x dx ∧ PostV X.K as H (fSl dx l h st) Q) := by
  intro pins s σ H x v vl vu l h sl Q I rx hs pl pu ⟨as, st, dx, rs, hx, q⟩
  cases dx with
  | tup xs =>
    cases hx with
    | @tup a ys _ hh r =>
      refine sl_tupA pins s σ H _ v vl vu l h sl Q I rx hs pl pu ⟨a, ys, rfl, SqT.of hh, fun hw => ?_, fun hw p hp => q _ _ as (Stp.new hp) (rs.new hp) (.tup upd_same ((r.slice l h).mono (Stp.new hp)))⟩
      have e : cutD xs l h = xs := by
        unfold cutD
        rw [← r.length, hw.1, hw.2, List.drop_zero, Nat.sub_zero, r.length, List.take_length]
      simp only [fSl, e] at q
      exact postv1 rs (.tup hh r) q
  | obj i =>
    simp only [fSl] at q
    split at q
    · rename_i xs e
      cases eo : st[i]? with
      | none => rw [eo] at e; cases e
      | some o =>
        rw [eo] at e
        obtain ⟨a, rfl, _, ro⟩ := rs.obj hx eo
        obtain ⟨ys, sq, r⟩ := ro.seq e
        exact sl_list pins s σ H _ v vl vu l h sl Q I rx hs pl pu ⟨a, ys, rfl, sq, fun p hp => q _ _ (as ++ [p]) (Stp.alloc hp) (rs.alloc hp ⟨_, upd_same, (r.slice l h).mono (Stp.alloc hp)⟩) (newAt rs)⟩
    · exact q.elim
  | _ => exact q.elim
theorem g_sl (ha : PE X a (tE X.K T W da)) (hl : PO X lo (tO X.K T W dl)) (hh : PO X hi (tO X.K T W dh)) : PE X (.Subscript a (.Slice lo hi none p2) pos) (tE X.K T W (dSl da dl dh)) := by
  refine pe_mono (pe_slice sl_g ha hl hh) fun σ H Q ⟨en, st, as, rs, re, q⟩ => ?_
  refine ⟨en, st, as, rs, re, q.bind.imp fun x H1 ⟨as1, s1, dx, p1, rs1, rx, q1⟩ => ?_⟩
  refine ⟨en, s1, as1, rs1, re.mono p1, (Post.bind (rel := relO) q1).imp fun i H2 ⟨as2, s2, i', p2, rs2, ri, q2⟩ => ?_⟩
  cases ri
  refine ⟨en, s2, as2, rs2, (re.mono p1).mono p2, (Post.bind (rel := relO) q2).imp fun j H3 ⟨as3, s3, j', p3, rs3, rj, q3⟩ => ?_⟩
  cases rj
  exact ⟨as3, s3, dx, rs3, (rx.mono p2).mono p3, q3.v⟩
end

/-! ### {}, is, isinstance -/
def dNewK : ED := fun _ st => .ok (.obj st.length) (st ++ [.dK []])
def dNewT : ED := fun _ st => .ok (.obj st.length) (st ++ [.dT []])
def nonB : D → Bool
  | .non => true
  | _ => false
def fIs (neg : Bool) : F2 := fun x y st => match y with
  | .non => some (.bl (if neg then !nonB x else nonB x), st)
  | .bl b => match x with
    | .bl a => some (.bl (if neg then !decide (a = b) else decide (a = b)), st)
    | _ => none
  | _ => none
def tyD : D → String
  | .non => "NoneType" | .bl _ => "bool" | .int _ => "int" | .str _ => "str" | .tup _ => "tuple" | .obj _ => "?"
def dIsI (n : String) (a : ED) : ED := fun en st => (a en st).bind fun x s1 => if tyD x = n then .ok (.bl true) s1 else .no
section
variable {X : Cx} {T : Nat → Addr} {W : WX} {a : Expr} {da : ED} {pos p p2 : Pos}
theorem g_newK : PE X (.Dict [] [] pos) (tE X.K T W dNewK) := pe_mono pe_dnewK fun σ H Q ⟨en, st, as, rs, re, q⟩ l hl => q _ _ (as ++ [l]) (Stp.alloc hl) (rs.alloc hl ⟨[], upd_same, .nil⟩) (newAt rs)
theorem g_newT : PE X (.Dict [] [] pos) (tE X.K T W dNewT) := pe_mono pe_dnewT fun σ H Q ⟨en, st, as, rs, re, q⟩ l hl => q _ _ (as ++ [l]) (Stp.alloc hl) (rs.alloc hl ⟨[], upd_same, .nil⟩) (newAt rs)
theorem RV.isN {K : PySem.W.Frag} {as : List Addr} {H : Hp} {x : V} {d : D} (r : RV K as H x d) : decide (x = .non) = nonB d := by
  cases r <;> simp [nonB]
theorem og_is : OpR X (compareOp .Is) (rOf X.K (fIs false)) := by
  intro pins s σ H x y v u Q I rx ry ⟨as, st, dx, dy, rs, hx, hy, q⟩
  cases dy with
  | non =>
    cases hy
    refine op_isN pins s σ H _ _ v u Q I rx ry ⟨rfl, ?_⟩
    rw [hx.isN]
    exact postv1 rs (.bl _) q
  | bl b =>
    cases hy
    cases dx with
    | bl a => cases hx; exact op_isBl pins s σ H _ _ v u Q I rx ry ⟨_, _, rfl, rfl, postv1 rs (.bl _) q⟩
    | _ => exact q.elim
  | _ => exact q.elim
theorem og_isNot : OpR X (compareOp .IsNot) (rOf X.K (fIs true)) := by
  intro pins s σ H x y v u Q I rx ry ⟨as, st, dx, dy, rs, hx, hy, q⟩
  cases dy with
  | non =>
    cases hy
    refine op_notN pins s σ H _ _ v u Q I rx ry ⟨rfl, ?_⟩
    rw [hx.isN]
    exact postv1 rs (.bl _) q
  | bl b =>
    cases hy
    cases dx with
    | bl a => cases hx; exact op_notBl pins s σ H _ _ v u Q I rx ry ⟨_, _, rfl, rfl, postv1 rs (.bl _) q⟩
    | _ => exact q.elim
  | _ => exact q.elim
theorem tyD_ty {K : PySem.W.Frag} {as : List Addr} {H : Hp} {x : V} {d : D} {n : String} (r : RV K as H x d) (e : tyD d = n) (hn : n ≠ "?") : TyOf K H x (.type n) := by
  subst e
  cases r with
  | non => exact .non
  | bl b => exact .bl b
  | int i => exact .int i
  | str z => exact .str z
  | tup h _ => exact .tup h
  | obj h => exact absurd rfl hn
theorem g_isi {n : String} {x : Str} (ha : PE X a (tE X.K T W da)) (hm : X.mg "isinstance" = none) (hm2 : X.mg x = none) (hv : bootBuiltins x = some (.type n)) (hn : n ≠ "?") (hg : Gl X "isinstance" := by rfl) (hg2 : Gl X x := by rfl) (hnn : x ≠ "__name__" := by decide) (hdb : (x == ("__debug__" : Str)) = false := by decide)
    (he : starEach [a, .Name x p2] X.env = (false, eval a X.env) :: starEach [.Name x p2] X.env := by rfl) (he2 : starEach [Expr.Name x p2] X.env = (false, eval (.Name x p2) X.env) :: starEach [] X.env := by rfl) (hpl : (backTo pos (starEach [Expr.Name x p2] X.env)).any (·.1) = false := by rfl) :
    PE X (.Call (.Name "isinstance" p) [a, .Name x p2] [] pos) (tE X.K T W (dIsI n da)) := by
  refine pe_mono (pe_callB call_isi hg hm (by decide +kernel) (pa_cons ha (pa_cons (pe_bltn (v := .ty n) hg2 hm2 hv rfl hnn hdb) pa_nil he2) he) (by decide) (by decide) he hpl) fun σ H Q ⟨en, st, as, rs, re, q⟩ => ?_
  refine ⟨en, st, as, rs, re, q.bind.imp fun x H1 ⟨as1, s1, dx, p1, rs1, rx, q1⟩ => ?_⟩
  split at q1
  · rename_i e
    exact ⟨x, .ty n, .type n, .type n, true, rfl, .ty n, .base (tyD_ty rx e hn), if_pos (beq_self_eq_true _), q1 _ H1 as1 Stp.refl rs1 (.bl _)⟩
  · exact q1.elim
end
end Gv
namespace Gv
open PySem PySem.Spec L2

/-! ### errors of the program's own: __init__(self, code, place = 0) -/
def iSc : Scope := { kind := .function, names := [(PySem.Str.ofString "self", .local), (PySem.Str.ofString "code", .local), (PySem.Str.ofString "place", .local)], isGenerator := false, isCoroutine := false, more := [] }
def iBd (p1 p2 p3 p4 p5 p6 p7 p8 : Pos) : List Stmt := [.Assign [.Attribute (.Name "self" p1) "code" p2] (.Name "code" p3) p4, .Assign [.Attribute (.Name "self" p5) "place" p6] (.Name "place" p7) p8]
def iAr (p1 p2 p3 p4 : Pos) : Arguments := { posonlyargs := [], args := [{ arg := "self", annotation := none, pos := p1 }, { arg := "code", annotation := none, pos := p2 }, { arg := "place", annotation := none, pos := p3 }], vararg := none, kwonlyargs := [], kw_defaults := [], kwarg := none, defaults := [.Constant (.int 0) 0 p4] }
/-- what stands of an error's class -/
structure XC (K : PySem.W.Frag) (C fI : Addr) : Prop where
  ox : OexC K C
  xf : XfC K C
  iC : PySem.W.findIn K (.ref C) "__init__" = some (some (.ref fI))
  tI : PySem.W.typeIn K (.ref fI) = some (.type "function")
  noc : PySem.W.findIn K (.ref C) "code" = some none
  nop : PySem.W.findIn K (.ref C) "place" = some none
  ex : PySem.W.exmOne K (.ref C) (.ref C) = some true
def spI (K : PySem.W.Frag) : Sp := fun vs H Q _ => ∃ (a C : Addr) (c p : V), vs = [.ref a, c, p] ∧ OexC K C ∧ PySem.W.findIn K (.ref C) "code" = some none ∧ PySem.W.findIn K (.ref C) "place" = some none ∧ H a = some (exo a C none) ∧
  ∀ d, H d = none → d ≠ a → Q .non (upd (upd (upd H d (exd d [("code", c)])) a (exo a C (some d))) d (exd d [("place", p), ("code", c)]))
theorem iScope : FnScope ["self", "code", "place"] ["self", "code", "place"] iSc := ⟨rfl, rfl, rfl, by decide +kernel, rfl, by decide +kernel, by decide +kernel⟩
section
variable {P : Program} {w : World} {K : PySem.W.Frag} {mg : Str → Option Value} {base : Heap}
theorem ok_init {fI : Addr} {fd : FuncData} {params : Arguments} {p1 p2 p3 p4 p5 p6 p7 p8 : Pos} (F : FunD K "__init__" "HallError.__init__" params (iBd p1 p2 p3 p4 p5 p6 p7 p8) iSc [.int 0] [] fI fd) : FnOk P w K mg base (L2.CX P w) 1 fI fd ["self", "code", "place"] (spI K) := by
  refine F.ok iScope (fun vs H Q E h => ?_) (fun cdv A outer s H vs Q E hr h => ?_)
  · obtain ⟨a, C, c, p, rfl, _⟩ := h
    rfl
  · obtain ⟨a, C, c, p, rfl, ox, nc, np, ha, q⟩ := h
    refine ⟨_, pss_cons (ps_ost (pv 0) (pv 1)) (pss_one (ps_ost (pv 0) (pv 2))), ?_⟩
    refine ⟨c, rfl, .ref a, rfl, a, C, rfl, ox, nc, .inl ⟨ha, fun d hd hne => ?_⟩⟩
    refine ⟨p, rfl, .ref a, rfl, a, C, rfl, ox, np, .inr ⟨d, [("code", c)], upd_same, ?_, (by show 1 ≤ 900; decide), ?_⟩⟩
    · rw [upd_ne hne]
      exact upd_same
    · exact q d hd hne
end
section
variable {K : PySem.W.Frag}
/-- the heap behind a made error -/
theorem made_heap {H : Hp} {a d C : Addr} {fs gs : List (Str × V)} (hd : d ≠ a) (ha : H a = none) :
    upd (del (upd (upd (upd (upd H a (exo a C none)) d (exd d fs)) a (exo a C (some d))) d (exd d gs)) a) d (.xd gs) = upd H d (.xd gs) := by
  funext b
  unfold upd del
  by_cases h1 : b = d
  · simp [h1]
  · by_cases h2 : b = a
    · subst h2
      simp [h1, ha]
    · simp [h1, h2]
end
def sRs (c : Nat) (a : AD) : SD := fun en st => (a en st).toS en fun xs s1 => match xs with
  | [x, y] => .er ⟨c, x, y⟩ en s1
  | [x] => .er ⟨c, x, .int 0⟩ en s1
  | _ => .no
section
variable {X : Cx} {T : Nat → Addr} {W : WX} {e : Expr} {es : List Expr} {ds : AD} {x : Str} {p pos pos2 : Pos}
/-- raise X(code, place) -/
theorem gs_rs2 {c fI k : Nat} {fd : FuncData} {C : Addr} (hc : X.calm = true) (tk : Takes X W) (xc : XC X.K C fI) (hC : T c = C) (F : FnOk X.prog X.w X.K X.mg X.base (L2.CX X.prog X.w) k fI fd ["self", "code", "place"] (spI X.K)) (hr : Room (k + 1) X.A) (hb : Binds X.K fd ["self", "code", "place"] [])
    (hm : X.mg x = some (.ref C)) (ha : PA X (e :: es) (tA X.K T W ds)) (hlen : (e :: es).length = 2) (hg : Gl X x := by rfl) (hdb : (x == ("__debug__" : Str)) = false := by decide) (he : starEach (e :: es) X.env = (false, eval e X.env) :: starEach es X.env := by rfl) (hpl : (backTo pos (starEach es X.env)).any (·.1) = false := by rfl) :
    PS X (.Raise (some (.Call (.Name x p) (e :: es) [] pos)) none pos2) (tS X.K T W (fun en st => (ds en st).toS en fun xs s1 => match xs with
  | [x, y] => .er ⟨c, x, y⟩ en s1
  | _ => .no)) := by
  refine ps_mono (ps_raise hc tk (pmk_oex xc.ox xc.iC xc.tI F hr hb .nil passL hg hm ha hdb he hpl)) fun D σ H ⟨en, st, as, rs, re, q⟩ => ?_
  refine ⟨en, st, as, rs, re, (PostS.bind re q).imp fun vs H1 ⟨as1, s1, xs, p1, rs1, rx, re1, q1⟩ => ?_⟩
  split at q1
  · rename_i x y
    obtain ⟨v1, v2, rfl, r1, r2⟩ := rx.two
    refine ⟨(by show 2 ≤ 1000; decide), fun a han => ⟨a, C, v1, v2, rfl, xc.ox, xc.noc, xc.nop, upd_same, fun d hd hne => ⟨rfl, d, _, ?_, upd_same, ?_, ?_⟩⟩⟩
    · rw [upd_ne hne.symm]
      exact upd_same
    · rw [upd_ne hne] at hd
      exact hd
    · have hd' : H1 d = none := by rw [upd_ne hne] at hd; exact hd
      rw [made_heap hne han, ← hC]
      exact q1 _ _ σ _ as1 (Stp.new hd') (rs1.new hd') (re1.mono (Stp.new hd')) ⟨rfl, d, v1, v2, rfl, upd_same, r1.mono (Stp.new hd'), r2.mono (Stp.new hd')⟩
  · exact q1.elim
/-- raise X(code) -/
theorem gs_rs1 {c fI k : Nat} {fd : FuncData} {C : Addr} {dv : List Value} (hc : X.calm = true) (tk : Takes X W) (xc : XC X.K C fI) (hC : T c = C) (F : FnOk X.prog X.w X.K X.mg X.base (L2.CX X.prog X.w) k fI fd ["self", "code", "place"] (spI X.K)) (hr : Room (k + 1) X.A) (hb : Binds X.K fd ["self", "code", "place"] dv) (hd : Vals [.int 0] dv)
    (hm : X.mg x = some (.ref C)) (ha : PA X [e] (tA X.K T W ds)) (hg : Gl X x := by rfl) (hdb : (x == ("__debug__" : Str)) = false := by decide) (he : starEach [e] X.env = (false, eval e X.env) :: starEach [] X.env := by rfl) (hpl : (backTo pos (starEach [] X.env)).any (·.1) = false := by rfl) :
    PS X (.Raise (some (.Call (.Name x p) [e] [] pos)) none pos2) (tS X.K T W (fun en st => (ds en st).toS en fun xs s1 => match xs with
  | [x] => .er ⟨c, x, .int 0⟩ en s1
  | _ => .no)) := by
  refine ps_mono (ps_raise hc tk (pmk_oex xc.ox xc.iC xc.tI F hr hb hd passL hg hm ha hdb he hpl)) fun D σ H ⟨en, st, as, rs, re, q⟩ => ?_
  refine ⟨en, st, as, rs, re, (PostS.bind re q).imp fun vs H1 ⟨as1, s1, xs, p1, rs1, rx, re1, q1⟩ => ?_⟩
  split at q1
  · rename_i x
    obtain ⟨v1, rfl, r1⟩ := rx.one
    refine ⟨(by show 1 ≤ 1000; decide), fun a han => ⟨a, C, v1, .int 0, rfl, xc.ox, xc.noc, xc.nop, upd_same, fun d hd hne => ⟨rfl, d, _, ?_, upd_same, ?_, ?_⟩⟩⟩
    · rw [upd_ne hne.symm]
      exact upd_same
    · rw [upd_ne hne] at hd
      exact hd
    · have hd' : H1 d = none := by rw [upd_ne hne] at hd; exact hd
      rw [made_heap hne han, ← hC]
      exact q1 _ _ σ _ as1 (Stp.new hd') (rs1.new hd') (re1.mono (Stp.new hd')) ⟨rfl, d, v1, .int 0, rfl, upd_same, r1.mono (Stp.new hd'), .int 0⟩
  · exact q1.elim
end
def sRs2 (c : Nat) (a : AD) : SD := fun en st => (a en st).toS en fun xs s1 => match xs with
  | [x, y] => .er ⟨c, x, y⟩ en s1
  | _ => .no
def sRs1 (c : Nat) (a : AD) : SD := fun en st => (a en st).toS en fun xs s1 => match xs with
  | [x] => .er ⟨c, x, .int 0⟩ en s1
  | _ => .no

/-! ### try: .. except X as e: return e.code | return (e.code, e.place) -/
def sTry (c i : Nat) (f : Ex → D) (body : SD) : SD := fun en st => match body en st with
  | .er x en1 s1 => if x.cls = c ∧ i < en1.length then .rt (f x) s1 else .no
  | r => r
section
variable {X : Cx} {T : Nat → Addr} {W : WX} {x n : Str} {i c : Nat} {C fI : Addr} {body : List Stmt} {np pos pos' q1 q2 q3 q4 q5 q6 : Pos} {sb : SD} {kk : Nat}
theorem gs_tryC (hs : X.stack = X.env :: X.outer) (hf : X.env.frame = some X.env.locals) (hN : X.N.Nodup) (hi : X.N[i]? = some n) (hln : X.env.kindOf n = some .local) (hm : X.mg x = some (.ref C)) (tk : Takes X W) (xc : XC X.K C fI) (hC : T c = C)
    (hb : ∀ (W : WX) (pn : List (Addr × Obj)) (xe : Value → Shared → Prop), Takes (X.tr pn xe) W → PassesOwn (model X.prog X.w) X.A X.env xe → PSs (X.tr pn xe) body (tS X.K T W sb))
    (hat : attributeBase (.Name n q1) "code" X.env (eval (.Name n q1) X.env) = eval (.Name n q1) X.env) (hg : Gl X x := by rfl) (hdb : (x == ("__debug__" : Str)) = false := by decide) (hdn : (n == ("__debug__" : Str)) = false := by decide) (hcn : (n == ("__classdict__" : Str)) = false := by decide) :
    PS X (.Try body [.ExceptHandler (some (.Name x np)) (some n) [.Return (some (.Attribute (.Name n q1) "code" q2)) q3] pos'] [] [] pos) (tS X.K T W (sTry c i Ex.code sb)) := by
  refine ps_mono (ps_try_as (Wout := WF) (ts := fun a cls d => tRet (tXf a cls d C "code" (tVar i))) hs hf hN hi hln ⟨hg, hdb, .inl hm⟩ takes0 hb
    (fun a oe cls d pn hz hfd => pss_one (ps_ret (pe_xf (X := X) xc.xf xc.noc hz hfd (pe_var hi (.inl hln) hdn hcn) hat)))) fun D σ H ⟨en, st, as, rs, re, q⟩ => ?_
  refine ⟨en, st, as, rs, re, ?_⟩
  unfold sTry at q
  cases e : sb en st with
  | er ex en1 s1 =>
    rw [e] at q
    dsimp only at q
    split at q
    · rename_i hcl
      intro cls dx σ' H' as' p rs' re' rx
      obtain ⟨rfl, d, vc, vp, rfl, hd, r1, r2⟩ := rx
      rw [hcl.1, hC]
      refine ⟨true, xc.ex, fun _ a ha => ?_, fun z => nomatch z⟩
      refine ⟨.ref a, List.getElem?_set_self (by rw [re'.len]; exact hcl.2), rfl, rfl, d, _, vc, rfl, hd, by rfl, ?_⟩
      exact q vc H' as' p rs' r1
    · exact q.elim
  | nx a b => rw [e] at q; exact q
  | rt a b => rw [e] at q; exact q
  | bk a b => rw [e] at q; exact q
  | ct a b => rw [e] at q; exact q
  | no => rw [e] at q; exact q
theorem gs_tryP (hs : X.stack = X.env :: X.outer) (hf : X.env.frame = some X.env.locals) (hN : X.N.Nodup) (hi : X.N[i]? = some n) (hln : X.env.kindOf n = some .local) (hm : X.mg x = some (.ref C)) (tk : Takes X W) (xc : XC X.K C fI) (hC : T c = C)
    (hb : ∀ (W : WX) (pn : List (Addr × Obj)) (xe : Value → Shared → Prop), Takes (X.tr pn xe) W → PassesOwn (model X.prog X.w) X.A X.env xe → PSs (X.tr pn xe) body (tS X.K T W sb))
    (hat : attributeBase (.Name n q1) "code" X.env (eval (.Name n q1) X.env) = eval (.Name n q1) X.env) (hat2 : attributeBase (.Name n q3) "place" X.env (eval (.Name n q3) X.env) = eval (.Name n q3) X.env)
    (hs1 : starEach [Expr.Attribute (.Name n q1) "code" q2, .Attribute (.Name n q3) "place" q4] X.env = (false, eval (Expr.Attribute (.Name n q1) "code" q2) X.env) :: starEach [Expr.Attribute (.Name n q3) "place" q4] X.env)
    (hs2 : starEach [Expr.Attribute (.Name n q3) "place" q4] X.env = (false, eval (Expr.Attribute (.Name n q3) "place" q4) X.env) :: starEach [] X.env) (hg : Gl X x := by rfl) (hdb : (x == ("__debug__" : Str)) = false := by decide) (hdn : (n == ("__debug__" : Str)) = false := by decide) (hcn : (n == ("__classdict__" : Str)) = false := by decide) :
    PS X (.Try body [.ExceptHandler (some (.Name x np)) (some n) [.Return (some (.Tuple [.Attribute (.Name n q1) "code" q2, .Attribute (.Name n q3) "place" q4] kk q5)) q6] pos'] [] [] pos) (tS X.K T W (sTry c i (fun e => .tup [e.code, e.place]) sb)) := by
  refine ps_mono (ps_try_as (Wout := WF) (ts := fun a cls d => tRet (tTup (tCons (tXf a cls d C "code" (tVar i)) (tCons (tXf a cls d C "place" (tVar i)) tNil)))) hs hf hN hi hln ⟨hg, hdb, .inl hm⟩ takes0 hb
    (fun a oe cls d pn hz hfd => pss_one (ps_ret (pe_tup (pa_cons (pe_xf (X := X) xc.xf xc.noc hz hfd (pe_var hi (.inl hln) hdn hcn) hat) (pa_cons (pe_xf (X := X) xc.xf xc.nop hz hfd (pe_var hi (.inl hln) hdn hcn) hat2) pa_nil hs2) hs1))))) fun D σ H ⟨en, st, as, rs, re, q⟩ => ?_
  refine ⟨en, st, as, rs, re, ?_⟩
  unfold sTry at q
  cases e : sb en st with
  | er ex en1 s1 =>
    rw [e] at q
    dsimp only at q
    split at q
    · rename_i hcl
      intro cls dx σ' H' as' p rs' re' rx
      obtain ⟨rfl, d, vc, vp, rfl, hd, r1, r2⟩ := rx
      rw [hcl.1, hC]
      refine ⟨true, xc.ex, fun _ a ha => ?_, fun z => nomatch z⟩
      have hg' : (σ'.set i (some (V.ref a)))[i]? = some (some (.ref a)) := List.getElem?_set_self (by rw [re'.len]; exact hcl.2)
      refine ⟨.ref a, hg', rfl, rfl, d, _, vc, rfl, hd, by rfl, ?_⟩
      refine ⟨.ref a, hg', rfl, rfl, d, _, vp, rfl, hd, by rfl, ?_⟩
      refine ⟨by show 2 ≤ sizeLine; decide, fun t ht => ?_⟩
      exact q _ _ as' (p.trans (Stp.new ht)) (rs'.new ht) (.tup upd_same (.cons (r1.mono (Stp.new ht)) (.cons (r2.mono (Stp.new ht)) .nil)))
    · exact q.elim
  | nx a b => rw [e] at q; exact q
  | rt a b => rw [e] at q; exact q
  | bk a b => rw [e] at q; exact q
  | ct a b => rw [e] at q; exact q
  | no => rw [e] at q; exact q
end
end Gv
namespace Gv
open PySem PySem.Spec L2

/-! ### calls on the part of the store that the arguments reach -/
mutual
def D.objs : D → List Nat
  | .tup xs => objsL xs
  | .obj i => [i]
  | _ => []
def objsL : List D → List Nat
  | [] => []
  | x :: xs => x.objs ++ objsL xs
end
mutual
def D.ren (f : Nat → Nat) : D → D
  | .tup xs => .tup (renL f xs)
  | .obj i => .obj (f i)
  | d => d
def renL (f : Nat → Nat) : List D → List D
  | [] => []
  | x :: xs => x.ren f :: renL f xs
end
def Ob.vals : Ob → List D
  | .lst xs => xs
  | .fls xs => xs
  | .dK kvs => kvs.map (·.2)
  | .dT kvs => kvs.map (·.2)
def Ob.ren (f : Nat → Nat) : Ob → Ob
  | .lst xs => .lst (renL f xs)
  | .fls xs => .fls (renL f xs)
  | .dK kvs => .dK (kvs.map fun p => (p.1, p.2.ren f))
  | .dT kvs => .dT (kvs.map fun p => (p.1, p.2.ren f))
def Ob.muB : Ob → Bool
  | .fls _ => false
  | _ => true
def Ob.objs (o : Ob) : List Nat := objsL o.vals
def subB (xs R : List Nat) : Bool := xs.all fun x => R.contains x
def reachF (st : Sto) : Nat → List Nat → List Nat → List Nat
  | 0, _, acc => acc
  | _ + 1, [], acc => acc
  | n + 1, i :: todo, acc => if acc.contains i then reachF st n todo acc else match st[i]? with
    | some o => reachF st n (o.objs ++ todo) (acc ++ [i])
    | none => acc
def nodB : List Nat → Bool
  | [] => true
  | x :: xs => !xs.contains x && nodB xs
/-- R is closed in st -/
def closB (st : Sto) (R : List Nat) : Bool := nodB R && R.all fun r => match st[r]? with
  | some o => subB o.objs R
  | none => false
def mutB (st : Sto) (R : List Nat) : Bool := R.all fun r => match st[r]? with
  | some o => o.muB
  | none => false
def idx (R : List Nat) (i : Nat) : Nat := R.idxOf i
def nthO (st : Sto) (i : Nat) : Ob := match st[i]? with
  | some o => o
  | none => .lst []
def sel (st : Sto) (R : List Nat) : Sto := R.map fun r => (nthO st r).ren (idx R)
def selA (as : List Addr) (R : List Nat) : List Addr := R.map fun r => as.getD r 0
/-- what is new and not held goes -/
def canR (n : Nat) (s : Sto) (x : List D) : List Nat := reachF s 1000000 (objsL x ++ objsL ((s.take n).map Ob.vals).flatten) (List.range n)
def canOk (n : Nat) (s : Sto) (x : List D) : Bool := let R := canR n s x
  closB s R && subB (objsL x) R && decide (n ≤ s.length)
def canon (n : Nat) (r : Re D) : Re D := match r with
  | .ok x s => if canOk n s [x] = true then .ok (x.ren (idx (canR n s [x]))) (sel s (canR n s [x])) else .no
  | .er e s => if canOk n s [e.code, e.place] = true then .er ⟨e.cls, e.code.ren (idx (canR n s [e.code, e.place])), e.place.ren (idx (canR n s [e.code, e.place]))⟩ (sel s (canR n s [e.code, e.place])) else .no
  | .no => .no
/-- index in the small store to index in the whole -/
def upI (N : Nat) (R : List Nat) (j : Nat) : Nat := match R[j]? with
  | some r => r
  | none => N + (j - R.length)
def wrB (st' : Sto) (N : Nat) (R : List Nat) : Nat → Sto → Sto
  | _, [] => []
  | i, o :: st => (if R.contains i then (nthO st' (idx R i)).ren (upI N R) else o) :: wrB st' N R (i + 1) st
def merge (st st' : Sto) (R : List Nat) : Sto := wrB st' st.length R 0 st ++ (st'.drop R.length).map (Ob.ren (upI st.length R))
def callX (f : FnD) (xs : List D) (st : Sto) : Re D :=
  let R := reachF st 1000000 (objsL xs) []
  if closB st R && mutB st R && subB (objsL xs) R then match f (renL (idx R) xs) (sel st R) with
    | .ok x s => .ok (x.ren (upI st.length R)) (merge st s R)
    | .er e s => .er ⟨e.cls, e.code.ren (upI st.length R), e.place.ren (upI st.length R)⟩ (merge st s R)
    | .no => .no
  else .no

section
variable {K : PySem.W.Frag} {as as' as0 : List Addr} {H H' : Hp} {st st' s : Sto} {f : Nat → Nat}
theorem subB_mem {xs R : List Nat} (h : subB xs R = true) {i : Nat} (hi : i ∈ xs) : i ∈ R := by
  have := List.all_eq_true.mp h i hi
  simpa using this
mutual
theorem RV.ren : ∀ {d : D} {v : V}, RV K as H v d → (∀ i ∈ d.objs, ∀ a, as[i]? = some a → as'[f i]? = some a) → RV K as' H v (d.ren f)
  | .non, _, .non, _ => .non
  | .bl _, _, .bl b, _ => .bl b
  | .int _, _, .int i, _ => .int i
  | .str _, _, .str x, _ => .str x
  | .tup _, _, .tup h r, k => .tup h (RVs.ren r (by simpa [D.objs] using k))
  | .obj i, _, .obj h, k => .obj (k i (by simp [D.objs]) _ h)
theorem RVs.ren : ∀ {ds : List D} {vs : List V}, RVs K as H vs ds → (∀ i ∈ objsL ds, ∀ a, as[i]? = some a → as'[f i]? = some a) → RVs K as' H vs (renL f ds)
  | [], _, .nil, _ => .nil
  | d :: ds, _, .cons h r, k => .cons (RV.ren h fun i hi => k i (by simp [objsL, hi])) (RVs.ren r fun i hi => k i (by simp [objsL, hi]))
end
theorem RKs.ren {κ : Type} : ∀ {xs : List (κ × V)} {ys : List (κ × D)}, RKs K as H xs ys → (∀ i ∈ objsL (ys.map (·.2)), ∀ a, as[i]? = some a → as'[f i]? = some a) → RKs K as' H xs (ys.map fun p => (p.1, p.2.ren f))
  | _, _, .nil, _ => .nil
  | _, _, .cons h r, k => .cons ⟨h.1, h.2.ren fun i hi => k i (by simp [objsL, hi])⟩ (RKs.ren r fun i hi => k i (by simp [objsL, hi]))
theorem RO.ren {a : Addr} {o : Ob} (h : RO K as H a o) (k : ∀ i ∈ o.objs, ∀ a, as[i]? = some a → as'[f i]? = some a) : RO K as' H a (o.ren f) := by
  cases o with
  | lst ds => obtain ⟨xs, e, r⟩ := h; exact ⟨xs, e, r.ren k⟩
  | fls ds => obtain ⟨xs, e, r⟩ := h; exact ⟨xs, e, r.ren k⟩
  | dK ds => obtain ⟨xs, e, r⟩ := h; exact ⟨xs, e, r.ren k⟩
  | dT ds => obtain ⟨xs, e, r⟩ := h; exact ⟨xs, e, r.ren k⟩
theorem Ob.ren_mu {o : Ob} : (o.ren f).mu ↔ o.mu := by cases o <;> exact Iff.rfl
theorem Ob.muB_mu {o : Ob} (h : o.muB = true) : o.mu := by cases o <;> first | exact trivial | cases h
theorem nodB_nod : ∀ {R : List Nat}, nodB R = true → R.Nodup
  | [], _ => .nil
  | x :: R, h => by
    simp only [nodB, Bool.and_eq_true, Bool.not_eq_true'] at h
    refine List.nodup_cons.mpr ⟨fun hm => ?_, nodB_nod h.2⟩
    have : R.contains x = true := by simpa using hm
    rw [this] at h
    cases h.1
theorem idx_get {R : List Nat} {i : Nat} (h : i ∈ R) : R[idx R i]? = some i := by
  have hl : R.idxOf i < R.length := List.idxOf_lt_length_of_mem h
  rw [show idx R i = R.idxOf i from rfl, List.getElem?_eq_getElem hl, List.getElem_idxOf hl]
theorem idx_of {R : List Nat} (hn : R.Nodup) {i j : Nat} (h : R[j]? = some i) : idx R i = j := by
  have hm : i ∈ R := List.mem_of_getElem? h
  have h2 := idx_get hm
  obtain ⟨l1, e1⟩ := List.getElem?_eq_some_iff.mp h
  obtain ⟨l2, e2⟩ := List.getElem?_eq_some_iff.mp h2
  exact (List.getElem_inj hn).mp (e2.trans e1.symm)
theorem selA_get {R : List Nat} {j r : Nat} {a : Addr} (h : R[j]? = some r) (ha : as[r]? = some a) : (selA as R)[j]? = some a := by
  unfold selA
  rw [List.getElem?_map, h, Option.map_some, List.getD_eq_getElem?_getD, ha]
  rfl
theorem clos_get {R : List Nat} (h : closB st R = true) : R.Nodup ∧ ∀ r ∈ R, ∃ o, st[r]? = some o ∧ ∀ i ∈ o.objs, i ∈ R := by
  simp only [closB, Bool.and_eq_true] at h
  refine ⟨nodB_nod h.1, fun r hr => ?_⟩
  have := List.all_eq_true.mp h.2 r hr
  cases e : st[r]? with
  | none => rw [e] at this; cases this
  | some o => rw [e] at this; exact ⟨o, rfl, fun i hi => subB_mem this hi⟩
theorem sel_get {R : List Nat} {j r : Nat} {o : Ob} (h : R[j]? = some r) (ho : st[r]? = some o) : (sel st R)[j]? = some (o.ren (idx R)) := by
  unfold sel
  rw [List.getElem?_map, h, Option.map_some]
  simp only [nthO, ho]
theorem RS.reach (rs : RS K as H st) {R : List Nat} (h : closB st R = true) {i : Nat} (hi : i ∈ R) {a : Addr} (ha : as[i]? = some a) : (selA as R)[idx R i]? = some a := selA_get (idx_get hi) ha
/-- the part R of the store -/
theorem RS.sel (rs : RS K as H st) {R : List Nat} (h : closB st R = true) : RS K (selA as R) H (Gv.sel st R) := by
  obtain ⟨hn, hc⟩ := clos_get h
  have get : ∀ {j : Nat} {o : Ob}, (Gv.sel st R)[j]? = some o → ∃ r u, R[j]? = some r ∧ st[r]? = some u ∧ o = u.ren (idx R) := fun {j o} e => by
    cases er : R[j]? with
    | none => simp [Gv.sel, er] at e
    | some r =>
      obtain ⟨u, hu, _⟩ := hc r (List.mem_of_getElem? er)
      rw [sel_get er hu] at e
      cases e
      exact ⟨r, u, rfl, hu, rfl⟩
  refine ⟨by simp [selA, Gv.sel], fun i j a o u h1 h2 h3 h4 m1 m2 => ?_, fun j o e => ?_⟩
  · obtain ⟨r1, u1, g1, g2, rfl⟩ := get h3
    obtain ⟨r2, u2, k1, k2, rfl⟩ := get h4
    obtain ⟨a1, e1, _⟩ := rs.ob r1 u1 g2
    obtain ⟨a2, e2, _⟩ := rs.ob r2 u2 k2
    rw [selA_get g1 e1] at h1
    rw [selA_get k1 e2] at h2
    cases h1
    cases h2
    have := rs.inj r1 r2 _ u1 u2 e1 e2 g2 k2 (Ob.ren_mu.mp m1) (Ob.ren_mu.mp m2)
    subst this
    rw [← idx_of hn g1, ← idx_of hn k1]
  · obtain ⟨r, u, g1, g2, rfl⟩ := get e
    obtain ⟨a, e1, ro⟩ := rs.ob r u g2
    refine ⟨a, selA_get g1 e1, ro.ren fun i hi b hb => ?_⟩
    obtain ⟨u', hu', hs⟩ := hc r (List.mem_of_getElem? g1)
    rw [g2] at hu'
    cases hu'
    exact selA_get (idx_get (hs i hi)) hb
theorem wrB_get {N : Nat} {R : List Nat} : ∀ {st : Sto} (k i : Nat), (wrB st' N R k st)[i]? = (st[i]?).map fun o => if R.contains (k + i) then (nthO st' (idx R (k + i))).ren (upI N R) else o
  | [], k, i => by simp [wrB]
  | o :: st, k, 0 => by simp [wrB]
  | o :: st, k, i + 1 => by
    rw [wrB, List.getElem?_cons_succ, List.getElem?_cons_succ, wrB_get (st := st) (k + 1) i, show k + 1 + i = k + (i + 1) by omega]
theorem wrB_len {N : Nat} {R : List Nat} : ∀ {st : Sto} (k : Nat), (wrB st' N R k st).length = st.length
  | [], k => rfl
  | o :: st, k => by rw [wrB, List.length_cons, List.length_cons, wrB_len (st := st) (k + 1)]
/-- back from the part into the whole -/
theorem RS.merge (rs : RS K as H st) {R : List Nat} (h : closB st R = true) (hm : mutB st R = true) {e : List Addr} (p : Stp (selA as R) H (selA as R ++ e) H') (rs' : RS K (selA as R ++ e) H' st') :
    Stp as H (as ++ e) H' ∧ RS K (as ++ e) H' (Gv.merge st st' R) ∧ ∀ i a, (selA as R ++ e)[i]? = some a → (as ++ e)[upI st.length R i]? = some a := by
  obtain ⟨hn, hc⟩ := clos_get h
  have hmu : ∀ r ∈ R, ∀ o, st[r]? = some o → o.mu := fun r hr o ho => by
    have := List.all_eq_true.mp hm r hr
    rw [ho] at this
    exact Ob.muB_mu this
  have hsl : (selA as R).length = R.length := by simp [selA]
  have hl := rs.len
  have mem0 : ∀ {b : Addr}, b ∈ selA as R → ∃ (r : Nat) (o : Ob), r ∈ R ∧ as[r]? = some b ∧ st[r]? = some o ∧ o.mu := fun {b} hb => by
    obtain ⟨r, hr, e1⟩ := List.mem_map.mp hb
    obtain ⟨o, ho, _⟩ := hc r hr
    obtain ⟨a, ha, _⟩ := rs.ob r o ho
    rw [List.getD_eq_getElem?_getD, ha] at e1
    exact ⟨r, o, hr, by rw [ha]; exact congrArg some e1, ho, hmu r hr o ho⟩
  have fresh : ∀ a ∈ e, H a = none := by
    obtain ⟨⟨e', he, hf⟩, _⟩ := p
    have := List.append_cancel_left he
    subst this
    exact hf
  have S : Stp as H (as ++ e) H' := ⟨⟨e, rfl, fresh⟩, p.tup, fun b o hb ho => p.fr b o (fun hb' => by
    obtain ⟨r, _, _, h1, _⟩ := mem0 hb'
    exact hb (List.mem_of_getElem? h1)) ho, p.lv⟩
  have up : ∀ i a, (selA as R ++ e)[i]? = some a → (as ++ e)[upI st.length R i]? = some a := fun i a hi => by
    unfold upI
    cases er : R[i]? with
    | some r =>
      have hlt := (List.getElem?_eq_some_iff.mp er).1
      rw [List.getElem?_append_left (by omega)] at hi
      obtain ⟨o, ho, _⟩ := hc r (List.mem_of_getElem? er)
      obtain ⟨b, hb, _⟩ := rs.ob r o ho
      rw [selA_get er hb] at hi
      have hr := (List.getElem?_eq_some_iff.mp hb).1
      dsimp only
      rw [List.getElem?_append_left hr, hb]
      exact hi
    | none =>
      have hge : R.length ≤ i := List.getElem?_eq_none_iff.mp er
      rw [List.getElem?_append_right (by omega)] at hi
      dsimp only
      rw [List.getElem?_append_right (by omega), show st.length + (i - R.length) - as.length = i - (selA as R).length by omega]
      exact hi
  have hl' := rs'.len
  rw [List.length_append, hsl] at hl'
  -- what stands at an index
  have look : ∀ {i : Nat} {o : Ob}, (Gv.merge st st' R)[i]? = some o → (i < st.length ∧ i ∉ R ∧ st[i]? = some o) ∨
      (∃ j u, st'[j]? = some u ∧ o = u.ren (upI st.length R) ∧ i = upI st.length R j ∧ (R[j]? = some i ∨ (R.length ≤ j ∧ i = st.length + (j - R.length)))) := fun {i o} e1 => by
    unfold Gv.merge at e1
    by_cases hi : i < st.length
    · rw [List.getElem?_append_left (by rw [wrB_len]; exact hi), wrB_get, List.getElem?_eq_getElem hi, Option.map_some, Nat.zero_add] at e1
      by_cases hr : i ∈ R
      · rw [if_pos (by simpa using hr)] at e1
        have g := idx_get hr
        have hlt := (List.getElem?_eq_some_iff.mp g).1
        have hj : idx R i < st'.length := by omega
        refine .inr ⟨idx R i, st'[idx R i], List.getElem?_eq_getElem hj, ?_, ?_, .inl g⟩
        · simp only [Option.some.injEq] at e1
          rw [← e1]
          simp only [nthO, List.getElem?_eq_getElem hj]
        · simp only [upI, g]
      · rw [if_neg (by simpa using hr)] at e1
        exact .inl ⟨hi, hr, by rw [List.getElem?_eq_getElem hi]; exact e1⟩
    · rw [List.getElem?_append_right (by rw [wrB_len]; omega), wrB_len, List.getElem?_map, List.getElem?_drop] at e1
      cases eu : st'[R.length + (i - st.length)]? with
      | none => rw [eu] at e1; cases e1
      | some u =>
        rw [eu] at e1
        cases e1
        have hnone : R[R.length + (i - st.length)]? = none := List.getElem?_eq_none_iff.mpr (by omega)
        exact .inr ⟨_, u, eu, rfl, by simp only [upI, hnone]; omega, .inr ⟨by omega, by omega⟩⟩
  refine ⟨S, ⟨?_, fun i j a o u h1 h2 h3 h4 m1 m2 => ?_, fun i o e1 => ?_⟩, up⟩
  · unfold Gv.merge
    rw [List.length_append, List.length_append, wrB_len, List.length_map, List.length_drop]
    omega
  · have outin : ∀ {i j : Nat} {a : Addr} {o : Ob}, i < st.length → i ∉ R → st[i]? = some o → o.mu → (as ++ e)[i]? = some a → (as ++ e)[j]? = some a → (∃ k, R[k]? = some j ∨ (R.length ≤ k ∧ j = st.length + (k - R.length))) → False := fun {i j a o} hi hr ho mo g1 g2 hk => by
      rw [List.getElem?_append_left (by omega)] at g1
      obtain ⟨a', ha', ro⟩ := rs.ob i o ho
      rw [g1] at ha'
      cases ha'
      obtain ⟨w, hw, _⟩ := ro.ex mo
      obtain ⟨k, hk | hk⟩ := hk
      · have hj := List.mem_of_getElem? hk
        obtain ⟨u, hu, _⟩ := hc j hj
        have hjl := (List.getElem?_eq_some_iff.mp hu).1
        rw [List.getElem?_append_left (by omega)] at g2
        have := rs.inj i j a o u g1 g2 ho hu mo (hmu j hj u hu)
        subst this
        exact hr hj
      · rw [List.getElem?_append_right (by omega)] at g2
        rw [fresh a (List.mem_of_getElem? g2)] at hw
        cases hw
    rcases look h3 with ⟨a1, a2, a3⟩ | ⟨j1, u1, b1, rfl, b3, b4⟩ <;> rcases look h4 with ⟨c1, c2, c3⟩ | ⟨j2, u2, d1, rfl, d3, d4⟩
    · rw [List.getElem?_append_left (by omega)] at h1 h2
      exact rs.inj i j a o u h1 h2 a3 c3 m1 m2
    · exact (outin a1 a2 a3 m1 h1 h2 ⟨j2, d4⟩).elim
    · exact (outin c1 c2 c3 m2 h2 h1 ⟨j1, b4⟩).elim
    · obtain ⟨x1, y1, _⟩ := rs'.ob j1 u1 b1
      obtain ⟨x2, y2, _⟩ := rs'.ob j2 u2 d1
      have z1 := up _ _ y1
      have z2 := up _ _ y2
      rw [← b3, h1] at z1
      rw [← d3, h2] at z2
      cases z1
      cases z2
      have := rs'.inj j1 j2 a u1 u2 y1 y2 b1 d1 (Ob.ren_mu.mp m1) (Ob.ren_mu.mp m2)
      rw [b3, d3, this]
  · rcases look e1 with ⟨a1, a2, a3⟩ | ⟨j, u, b1, rfl, b3, _⟩
    · obtain ⟨a, ha, ro⟩ := rs.ob i o a3
      have keep : ∀ w, H a = some w → ¬ (∃ r o', r ∈ R ∧ as[r]? = some a ∧ st[r]? = some o' ∧ o'.mu) → H' a = some w := fun w hw hno => p.fr a w (fun hb => hno (mem0 hb)) hw
      refine ⟨a, by rw [List.getElem?_append_left (by omega)]; exact ha, ?_⟩
      have nomut : o.mu → ¬ (∃ r o', r ∈ R ∧ as[r]? = some a ∧ st[r]? = some o' ∧ o'.mu) := fun m ⟨r, o', hr, g1, g2, g3⟩ => by
        have := rs.inj i r a o o' ha g1 a3 g2 m g3
        subst this
        exact a2 hr
      cases o with
      | lst ds => obtain ⟨xs, ex, r⟩ := ro; exact ⟨xs, keep _ ex (nomut trivial), r.mono S⟩
      | dK ds => obtain ⟨xs, ex, r⟩ := ro; exact ⟨xs, keep _ ex (nomut trivial), r.mono S⟩
      | dT ds => obtain ⟨xs, ex, r⟩ := ro; exact ⟨xs, keep _ ex (nomut trivial), r.mono S⟩
      | fls ds =>
        obtain ⟨xs, ex, r⟩ := ro
        refine ⟨xs, ?_, r.mono S⟩
        rcases ex with ⟨q, hq⟩ | hq
        · refine .inl ⟨q, keep _ hq fun ⟨r, o', hr, g1, g2, g3⟩ => ?_⟩
          obtain ⟨b, hb, ro'⟩ := rs.ob r o' g2
          rw [g1] at hb
          cases hb
          obtain ⟨w, hw, ww⟩ := ro'.ex g3
          rw [hq] at hw
          cases hw
          exact ww
        · exact .inr hq
    · obtain ⟨a, ha, ro⟩ := rs'.ob j u b1
      exact ⟨a, by rw [b3]; exact up _ _ ha, ro.ren fun i _ a ha => up i a ha⟩
end

/-! ### the rules -/
section
variable {K : PySem.W.Frag} {T : Nat → Addr} {as as' : List Addr} {H H' : Hp} {st s : Sto} {W : WX} {σ : L2.St}
theorem reachF_pre : ∀ (k : Nat) (todo acc : List Nat), ∃ t, reachF s k todo acc = acc ++ t
  | 0, _, acc => ⟨[], by simp [reachF]⟩
  | k + 1, [], acc => ⟨[], by simp [reachF]⟩
  | k + 1, i :: todo, acc => by
    rw [reachF]
    split
    · exact reachF_pre k todo acc
    · split
      · rename_i o _
        obtain ⟨t, h⟩ := reachF_pre k (o.objs ++ todo) (acc ++ [i])
        exact ⟨i :: t, by rw [h, List.append_assoc]; rfl⟩
      · exact ⟨[], (List.append_nil _).symm⟩
theorem selA_pre {e : List Addr} {t : List Nat} {n : Nat} (hn : as.length = n) (hR : (List.range n ++ t).Nodup) (hl : ∀ r ∈ t, r < (as ++ e).length) : selA (as ++ e) (List.range n ++ t) = as ++ selA (as ++ e) t ∧ ∀ a ∈ selA (as ++ e) t, a ∈ e := by
  refine ⟨?_, fun a ha => ?_⟩
  · unfold selA
    rw [List.map_append]
    congr 1
    apply List.ext_getElem?
    intro i
    rw [List.getElem?_map]
    by_cases hi : i < n
    · rw [List.getElem?_range hi, Option.map_some, List.getD_eq_getElem?_getD, List.getElem?_append_left (by omega), List.getElem?_eq_getElem (by omega)]
      rfl
    · rw [List.getElem?_eq_none (by simp; omega), List.getElem?_eq_none (by omega)]
      rfl
  · obtain ⟨r, hr, e1⟩ := List.mem_map.mp ha
    have h1 := hl r hr
    have h2 : n ≤ r := by
      have := (List.nodup_append.mp hR).2.2
      rcases Nat.lt_or_ge r n with h | h
      · exact absurd rfl (this r (List.mem_range.mpr h) r hr)
      · exact h
    rw [List.getD_eq_getElem?_getD, List.getElem?_append_right (by omega)] at e1
    rw [List.length_append] at h1
    rw [List.getElem?_eq_getElem (by omega)] at e1
    rw [← e1]
    exact List.getElem_mem _
theorem canon_step {n : Nat} {xs : List D} {R : List Nat} (eR : R = canR n s xs) (hn : as.length = n) (hc : closB s R = true) (hx : subB (objsL xs) R = true) (p : Stp as H as' H') (rs : RS K as' H' s) :
    ∃ t, Stp as H (as ++ t) H' ∧ RS K (as ++ t) H' (Gv.sel s R) ∧ ∀ i, i ∈ R → ∀ a, as'[i]? = some a → (as ++ t)[idx R i]? = some a := by
  have rs2 := rs.sel hc
  obtain ⟨t, ht⟩ := reachF_pre (s := s) 1000000 (objsL xs ++ objsL ((s.take n).map Ob.vals).flatten) (List.range n)
  rw [show R = List.range n ++ t from eR.trans ht] at hc hx rs2 ⊢
  obtain ⟨hnod, hcl⟩ := clos_get hc
  obtain ⟨⟨e, rfl, hf⟩, ptup, pfr, plv⟩ := p
  obtain ⟨e1, e2⟩ := selA_pre (as := as) (e := e) hn hnod fun r hr => by
    obtain ⟨o, ho, _⟩ := hcl r (List.mem_append_right _ hr)
    rw [rs.len]
    exact (List.getElem?_eq_some_iff.mp ho).1
  rw [e1] at rs2
  exact ⟨_, ⟨⟨_, rfl, fun a ha => hf a (e2 a ha)⟩, ptup, pfr, plv⟩, rs2, fun i hi a ha => by rw [← e1]; exact selA_get (idx_get hi) ha⟩
theorem Post.canon {n : Nat} {r : Re D} {Q : V → Hp → Prop} (hn : as.length = n) (h : Post K T (RV K) W σ as H (Gv.canon n r) Q) : Post K T (RV K) W σ as H r Q := by
  cases r with
  | no => exact h
  | ok x s =>
    simp only [Gv.canon] at h
    split at h
    · rename_i c
      simp only [canOk, Bool.and_eq_true] at c
      intro v H' as' p rs rv
      obtain ⟨t, q1, q2, q3⟩ := canon_step rfl hn c.1.1 c.1.2 p rs
      exact h v H' _ q1 q2 (rv.ren fun i hi a ha => q3 i (subB_mem c.1.2 (by simp [objsL, hi])) a ha)
    · exact h.elim
  | er e s =>
    simp only [Gv.canon] at h
    split at h
    · rename_i c
      simp only [canOk, Bool.and_eq_true] at c
      intro cls dx H' as' p rs rx
      obtain ⟨t, q1, q2, q3⟩ := canon_step rfl hn c.1.1 c.1.2 p rs
      obtain ⟨e1, d, vc, vp, e2, e3, r1, r2⟩ := rx
      exact h cls dx H' _ q1 q2 ⟨e1, d, vc, vp, e2, e3, r1.ren fun i hi a ha => q3 i (subB_mem c.1.2 (by simp [objsL, hi])) a ha, r2.ren fun i hi a ha => q3 i (subB_mem c.1.2 (by simp [objsL, hi])) a ha⟩
    · exact h.elim
end
/-- a def's answer, in order -/
def clean (f : FnD) : FnD := fun ds st => canon st.length (f ds st)
abbrev dFc (n ar : Nat) (body : SD) : FnD := clean (dFn n ar body)
section
variable {P : Program} {w : World} {K : PySem.W.Frag} {mg : Str → Option Value} {base : Heap} {T : Nat → Addr}
theorem GF.clean {k : Nat} {f : Addr} {fd : FuncData} {ps : List Str} {d : FnD} (g : GF P w K mg base T k f fd ps d) : GF P w K mg base T k f fd ps (Gv.clean d) :=
  ⟨g.ok.imp fun vs H Q E ⟨h1, ds, st, as, rs, rx, q⟩ => ⟨h1, ds, st, as, rs, rx, Post.canon rs.len q⟩, fun ds st h => by
    unfold Gv.clean
    rw [g.len ds st h]
    rfl⟩
end
def dX (f : FnD) (a : AD) : ED := fun en st => (a en st).bind fun xs s1 => callX f xs s1
section
variable {X : Cx} {T : Nat → Addr} {W : WX}
theorem g_callX {k : Nat} {fa : Addr} {fd : FuncData} {ps : List Str} {f : FnD} {x : Str} {p pos : Pos} {e : Expr} {es : List Expr} {da : AD} (F : GF X.prog X.w X.K X.mg X.base T k fa fd ps f) (hr : Room k X.A) (tk : Takes X W) (hm : X.mg x = some (.ref fa)) (hk : PySem.W.keepIn X.K (.ref fa) = true) (hb : Binds X.K fd ps [])
    (ha : PA X (e :: es) (tA X.K T W da)) (hg : Gl X x := by rfl) (hdb : (x == ("__debug__" : Str)) = false := by decide) (he : starEach (e :: es) X.env = (false, eval e X.env) :: starEach es X.env := by rfl) (hpl : (backTo pos (starEach es X.env)).any (·.1) = false := by rfl) :
    PE X (.Call (.Name x p) (e :: es) [] pos) (tE X.K T W (dX f da)) := by
  refine pe_mono (pe_callS F.ok hr hg hm hk hb (fun σ => passAt tk σ) ha hdb he hpl) fun σ H Q ⟨en, st, as, rs, re, q⟩ => ?_
  refine ⟨en, st, as, rs, re, (Post.bind (rel := RVs X.K) q).imp fun vs H1 ⟨as1, s1, xs, p1, rs1, rx, q1⟩ => ?_⟩
  unfold callX at q1
  generalize hR : reachF s1 1000000 (objsL xs) [] = R at q1
  dsimp only at q1
  split at q1
  · rename_i c
    simp only [Bool.and_eq_true] at c
    obtain ⟨⟨c1, c2⟩, c3⟩ := c
    have rsR := rs1.sel c1
    have rxR : RVs X.K (selA as1 R) H1 vs (renL (idx R) xs) := rx.ren fun i hi a ha => selA_get (idx_get (subB_mem c3 hi)) ha
    by_cases hl : xs.length = ps.length
    · refine ⟨by rw [rx.length]; exact hl, _, _, _, rsR, rxR, ?_⟩
      cases e : f (renL (idx R) xs) (Gv.sel s1 R) with
      | ok y s2 =>
        rw [e] at q1
        intro v H' as' p rs' rv
        have p' := p
        obtain ⟨⟨ex, rfl, _⟩, _⟩ := p'
        obtain ⟨S, rm, up⟩ := rs1.merge c1 c2 p rs'
        exact q1 v H' _ S rm (rv.ren fun i _ a ha => up i a ha)
      | er y s2 =>
        rw [e] at q1
        intro cls dx H' as' p rs' ry
        have p' := p
        obtain ⟨⟨ex, rfl, _⟩, _⟩ := p'
        obtain ⟨S, rm, up⟩ := rs1.merge c1 c2 p rs'
        obtain ⟨e1, d, vc, vp, e2, e3, r1, r2⟩ := ry
        exact q1 cls dx H' _ S rm ⟨e1, d, vc, vp, e2, e3, r1.ren fun i _ a ha => up i a ha, r2.ren fun i _ a ha => up i a ha⟩
      | no => rw [e] at q1; exact q1
    · have hl' : (renL (idx R) xs).length ≠ ps.length := by
        have : ∀ (g : Nat → Nat) (ys : List D), (renL g ys).length = ys.length := fun g ys => by
          induction ys with
          | nil => rfl
          | cons y ys ih => rw [renL, List.length_cons, List.length_cons, ih]
        rw [this]
        exact hl
      rw [F.len _ _ hl'] at q1
      exact q1.elim
  · exact q1.elim
end
end Gv
namespace Gv
open PySem PySem.Spec L2

/-! ### what stands at a name of the module -/
/-- the def x does f -/
structure Cal (P : Program) (w : World) (K : PySem.W.Frag) (mg : Str → Option Value) (base : Heap) (T : Nat → Addr) (k : Nat) (x : Str) (ps : List Str) (f : FnD) : Prop where
  ex : ∃ fa fd, GF P w K mg base T k fa fd ps f ∧ mg x = some (.ref fa) ∧ PySem.W.keepIn K (.ref fa) = true ∧ Binds K fd ps []
/-- the error x is class c -/
structure Exn (P : Program) (w : World) (K : PySem.W.Frag) (mg : Str → Option Value) (base : Heap) (T : Nat → Addr) (c : Nat) (x : Str) : Prop where
  ex : ∃ C fI fd dv, XC K C fI ∧ T c = C ∧ mg x = some (.ref C) ∧ FnOk P w K mg base (L2.CX P w) 1 fI fd ["self", "code", "place"] (spI K) ∧ Binds K fd ["self", "code", "place"] [] ∧ Binds K fd ["self", "code", "place"] dv ∧ Vals [.int 0] dv
section
variable {X : Cx} {T : Nat → Addr} {W : WX}
theorem g_cX {j k : Nat} {ps : List Str} {f : FnD} {x : Str} {p pos : Pos} {e : Expr} {es : List Expr} {da : AD} (c : Cal X.prog X.w X.K X.mg X.base T k x ps f) (hr : Room j X.A) (hk : k ≤ j) (tk : Takes X W)
    (ha : PA X (e :: es) (tA X.K T W da)) (hg : Gl X x := by rfl) (hdb : (x == ("__debug__" : Str)) = false := by decide) (he : starEach (e :: es) X.env = (false, eval e X.env) :: starEach es X.env := by rfl) (hpl : (backTo pos (starEach es X.env)).any (·.1) = false := by rfl) :
    PE X (.Call (.Name x p) (e :: es) [] pos) (tE X.K T W (dX f da)) := by
  obtain ⟨fa, fd, F, hm, hkp, hb⟩ := c.ex
  exact g_callX F (hr.mono hk) tk hm hkp hb ha hg hdb he hpl
theorem g_cC {j k : Nat} {ps : List Str} {f : FnD} {x : Str} {p pos : Pos} {e : Expr} {es : List Expr} {da : AD} (c : Cal X.prog X.w X.K X.mg X.base T k x ps f) (hr : Room j X.A) (hk : k ≤ j) (tk : Takes X W)
    (ha : PA X (e :: es) (tA X.K T W da)) (hg : Gl X x := by rfl) (hdb : (x == ("__debug__" : Str)) = false := by decide) (he : starEach (e :: es) X.env = (false, eval e X.env) :: starEach es X.env := by rfl) (hpl : (backTo pos (starEach es X.env)).any (·.1) = false := by rfl) :
    PE X (.Call (.Name x p) (e :: es) [] pos) (tE X.K T W (dCall f da)) := by
  obtain ⟨fa, fd, F, hm, hkp, hb⟩ := c.ex
  exact g_call F (hr.mono hk) tk hm hkp hb ha hg hdb he hpl
theorem g_rs1 {c j : Nat} {x : Str} {e : Expr} {p pos pos2 : Pos} {ds : AD} (xn : Exn X.prog X.w X.K X.mg X.base T c x) (hc : X.calm = true) (tk : Takes X W) (hr : Room j X.A) (hk : 2 ≤ j) (ha : PA X [e] (tA X.K T W ds)) (hg : Gl X x := by rfl) (hdb : (x == ("__debug__" : Str)) = false := by decide)
    (he : starEach [e] X.env = (false, eval e X.env) :: starEach [] X.env := by rfl) (hpl : (backTo pos (starEach [] X.env)).any (·.1) = false := by rfl) : PS X (.Raise (some (.Call (.Name x p) [e] [] pos)) none pos2) (tS X.K T W (sRs1 c ds)) := by
  obtain ⟨C, fI, fd, dv, xc, hC, hm, F, hb, hb2, hv⟩ := xn.ex
  exact gs_rs1 hc tk xc hC F (hr.mono hk) hb2 hv hm ha hg hdb he hpl
theorem g_rs2 {c j : Nat} {x : Str} {e1 e2 : Expr} {p pos pos2 : Pos} {ds : AD} (xn : Exn X.prog X.w X.K X.mg X.base T c x) (hc : X.calm = true) (tk : Takes X W) (hr : Room j X.A) (hk : 2 ≤ j) (ha : PA X [e1, e2] (tA X.K T W ds)) (hg : Gl X x := by rfl) (hdb : (x == ("__debug__" : Str)) = false := by decide)
    (he : starEach [e1, e2] X.env = (false, eval e1 X.env) :: starEach [e2] X.env := by rfl) (hpl : (backTo pos (starEach [e2] X.env)).any (·.1) = false := by rfl) : PS X (.Raise (some (.Call (.Name x p) [e1, e2] [] pos)) none pos2) (tS X.K T W (sRs2 c ds)) := by
  obtain ⟨C, fI, fd, dv, xc, hC, hm, F, hb, hb2, hv⟩ := xn.ex
  exact gs_rs2 hc tk xc hC F (hr.mono hk) hb hm ha rfl hg hdb he hpl
theorem g_tryC {x n : Str} {i c : Nat} {body : List Stmt} {np pos pos' q1 q2 q3 : Pos} {sb : SD} (xn : Exn X.prog X.w X.K X.mg X.base T c x) (tk : Takes X W) (hN : X.N.Nodup) (hi : X.N[i]? = some n) (hln : X.env.kindOf n = some .local)
    (hb : ∀ (W : WX) (pn : List (Addr × Obj)) (xe : Value → Shared → Prop), Takes (X.tr pn xe) W → PassesOwn (model X.prog X.w) X.A X.env xe → PSs (X.tr pn xe) body (tS X.K T W sb))
    (hs : X.stack = X.env :: X.outer := by rfl) (hf : X.env.frame = some X.env.locals := by rfl)
    (hat : attributeBase (.Name n q1) "code" X.env (eval (.Name n q1) X.env) = eval (.Name n q1) X.env := by rfl) (hg : Gl X x := by rfl) (hdb : (x == ("__debug__" : Str)) = false := by decide) (hdn : (n == ("__debug__" : Str)) = false := by decide) (hcn : (n == ("__classdict__" : Str)) = false := by decide) :
    PS X (.Try body [.ExceptHandler (some (.Name x np)) (some n) [.Return (some (.Attribute (.Name n q1) "code" q2)) q3] pos'] [] [] pos) (tS X.K T W (sTry c i Ex.code sb)) := by
  obtain ⟨C, fI, fd, dv, xc, hC, hm, F, _, _, hv⟩ := xn.ex
  exact gs_tryC hs hf hN hi hln hm tk xc hC hb hat hg hdb hdn hcn
theorem g_tryP {x n : Str} {i c kk : Nat} {body : List Stmt} {np pos pos' q1 q2 q3 q4 q5 q6 : Pos} {sb : SD} (xn : Exn X.prog X.w X.K X.mg X.base T c x) (tk : Takes X W) (hN : X.N.Nodup) (hi : X.N[i]? = some n) (hln : X.env.kindOf n = some .local)
    (hb : ∀ (W : WX) (pn : List (Addr × Obj)) (xe : Value → Shared → Prop), Takes (X.tr pn xe) W → PassesOwn (model X.prog X.w) X.A X.env xe → PSs (X.tr pn xe) body (tS X.K T W sb))
    (hs : X.stack = X.env :: X.outer := by rfl) (hf : X.env.frame = some X.env.locals := by rfl)
    (hat : attributeBase (.Name n q1) "code" X.env (eval (.Name n q1) X.env) = eval (.Name n q1) X.env := by rfl) (hat2 : attributeBase (.Name n q3) "place" X.env (eval (.Name n q3) X.env) = eval (.Name n q3) X.env := by rfl)
    (hs1 : starEach [Expr.Attribute (.Name n q1) "code" q2, .Attribute (.Name n q3) "place" q4] X.env = (false, eval (Expr.Attribute (.Name n q1) "code" q2) X.env) :: starEach [Expr.Attribute (.Name n q3) "place" q4] X.env := by rfl)
    (hs2 : starEach [Expr.Attribute (.Name n q3) "place" q4] X.env = (false, eval (Expr.Attribute (.Name n q3) "place" q4) X.env) :: starEach [] X.env := by rfl) (hg : Gl X x := by rfl) (hdb : (x == ("__debug__" : Str)) = false := by decide) (hdn : (n == ("__debug__" : Str)) = false := by decide) (hcn : (n == ("__classdict__" : Str)) = false := by decide) :
    PS X (.Try body [.ExceptHandler (some (.Name x np)) (some n) [.Return (some (.Tuple [.Attribute (.Name n q1) "code" q2, .Attribute (.Name n q3) "place" q4] kk q5)) q6] pos'] [] [] pos) (tS X.K T W (sTry c i (fun e => .tup [e.code, e.place]) sb)) := by
  obtain ⟨C, fI, fd, dv, xc, hC, hm, F, _, _, hv⟩ := xn.ex
  exact gs_tryP hs hf hN hi hln hm tk xc hC hb hat hat2 hs1 hs2 hg hdb hdn hcn
end

/-! ### targets -/
section
variable {X : Cx} {pos p1 p2 p3 p4 : Pos} {kk : Nat}
theorem gg_t2 {i j : Nat} {x y : Str} (hc : X.calm = true) (hN : X.N.Nodup) (hi : X.N[i]? = some x) (hj : X.N[j]? = some y) (hx : Loc X.env.scope x) (hy : Loc X.env.scope y) (fx : X.fn x = true ∨ X.env.scope.names.lookup x = some .local) (fy : X.fn y = true ∨ X.env.scope.names.lookup y = some .local)
    (s1 : (assignEach [Expr.Name x p1, .Name y p2] X.env).map (·.2) = assign (.Name x p1) X.env :: (assignEach [Expr.Name y p2] X.env).map (·.2) := by rfl) (s2 : (assignEach [Expr.Name y p2] X.env).map (·.2) = assign (.Name y p2) X.env :: (assignEach [] X.env).map (·.2) := by rfl)
    (hn : (assignEach [Expr.Name x p1, .Name y p2] X.env).length = 2 := by rfl) (hst : (assignEach [Expr.Name x p1, .Name y p2] X.env).findIdx? (·.1) = none := by rfl) :
    PG X (.Tuple [.Name x p1, .Name y p2] kk pos) (gTup X.K 2 (gCons (gName i) (gCons (gName j) gNil))) :=
  pg_tup hc (pgs_cons (pg_name hN hi hx fx) (pgs_cons (pg_name hN hj hy fy) pgs_nil s2) s1) hn hst
theorem gg_t3 {i j k : Nat} {x y z : Str} (hc : X.calm = true) (hN : X.N.Nodup) (hi : X.N[i]? = some x) (hj : X.N[j]? = some y) (hk : X.N[k]? = some z) (hx : Loc X.env.scope x) (hy : Loc X.env.scope y) (hz : Loc X.env.scope z) (fx : X.fn x = true ∨ X.env.scope.names.lookup x = some .local) (fy : X.fn y = true ∨ X.env.scope.names.lookup y = some .local) (fz : X.fn z = true ∨ X.env.scope.names.lookup z = some .local)
    (s1 : (assignEach [Expr.Name x p1, .Name y p2, .Name z p3] X.env).map (·.2) = assign (.Name x p1) X.env :: (assignEach [Expr.Name y p2, .Name z p3] X.env).map (·.2) := by rfl) (s2 : (assignEach [Expr.Name y p2, .Name z p3] X.env).map (·.2) = assign (.Name y p2) X.env :: (assignEach [Expr.Name z p3] X.env).map (·.2) := by rfl) (s3 : (assignEach [Expr.Name z p3] X.env).map (·.2) = assign (.Name z p3) X.env :: (assignEach [] X.env).map (·.2) := by rfl)
    (hn : (assignEach [Expr.Name x p1, .Name y p2, .Name z p3] X.env).length = 3 := by rfl) (hst : (assignEach [Expr.Name x p1, .Name y p2, .Name z p3] X.env).findIdx? (·.1) = none := by rfl) :
    PG X (.Tuple [.Name x p1, .Name y p2, .Name z p3] kk pos) (gTup X.K 3 (gCons (gName i) (gCons (gName j) (gCons (gName k) gNil)))) :=
  pg_tup hc (pgs_cons (pg_name hN hi hx fx) (pgs_cons (pg_name hN hj hy fy) (pgs_cons (pg_name hN hk hz fz) pgs_nil s3) s2) s1) hn hst
theorem gg_t4 {i j k l : Nat} {x y z u : Str} (hc : X.calm = true) (hN : X.N.Nodup) (hi : X.N[i]? = some x) (hj : X.N[j]? = some y) (hk : X.N[k]? = some z) (hl : X.N[l]? = some u) (hx : Loc X.env.scope x) (hy : Loc X.env.scope y) (hz : Loc X.env.scope z) (hu : Loc X.env.scope u) (fx : X.fn x = true ∨ X.env.scope.names.lookup x = some .local) (fy : X.fn y = true ∨ X.env.scope.names.lookup y = some .local) (fz : X.fn z = true ∨ X.env.scope.names.lookup z = some .local) (fu : X.fn u = true ∨ X.env.scope.names.lookup u = some .local)
    (s1 : (assignEach [Expr.Name x p1, .Name y p2, .Name z p3, .Name u p4] X.env).map (·.2) = assign (.Name x p1) X.env :: (assignEach [Expr.Name y p2, .Name z p3, .Name u p4] X.env).map (·.2) := by rfl) (s2 : (assignEach [Expr.Name y p2, .Name z p3, .Name u p4] X.env).map (·.2) = assign (.Name y p2) X.env :: (assignEach [Expr.Name z p3, .Name u p4] X.env).map (·.2) := by rfl)
    (s3 : (assignEach [Expr.Name z p3, .Name u p4] X.env).map (·.2) = assign (.Name z p3) X.env :: (assignEach [Expr.Name u p4] X.env).map (·.2) := by rfl) (s4 : (assignEach [Expr.Name u p4] X.env).map (·.2) = assign (.Name u p4) X.env :: (assignEach [] X.env).map (·.2) := by rfl)
    (hn : (assignEach [Expr.Name x p1, .Name y p2, .Name z p3, .Name u p4] X.env).length = 4 := by rfl) (hst : (assignEach [Expr.Name x p1, .Name y p2, .Name z p3, .Name u p4] X.env).findIdx? (·.1) = none := by rfl) :
    PG X (.Tuple [.Name x p1, .Name y p2, .Name z p3, .Name u p4] kk pos) (gTup X.K 4 (gCons (gName i) (gCons (gName j) (gCons (gName k) (gCons (gName l) gNil))))) :=
  pg_tup hc (pgs_cons (pg_name hN hi hx fx) (pgs_cons (pg_name hN hj hy fy) (pgs_cons (pg_name hN hk hz fz) (pgs_cons (pg_name hN hl hu fu) pgs_nil s4) s3) s2) s1) hn hst
end

/-! ### -x, a, b, c = .. -/
def fNeg : D → Sto → Vr := fun x st => match x with
  | .int i => some (.int (-i), st)
  | _ => none
section
variable {X : Cx} {T : Nat → Addr} {W : WX} {a b c : Expr} {da : ED} {pos : Pos}
theorem g_neg (ha : PE X a (tE X.K T W da)) : PE X (.UnaryOp .USub a pos) (tE X.K T W (dUn fNeg da)) := by
  refine g_un (fun pins s σ H x v Q I rx ⟨as, st, dx, rs, hx, q⟩ => ?_) ha
  unfold fNeg at q
  split at q
  · cases hx
    exact un_neg pins s σ H _ v Q I rx ⟨_, rfl, postv1 rs (.int _) q⟩
  · exact q.elim
theorem gs_par3 {i j l : Nat} {x y z : Str} {ds : AD} {px py pz pt : Pos} {kt k2 pt2} (hc : X.calm = true) (hN : X.N.Nodup) (hi : X.N[i]? = some x) (hj : X.N[j]? = some y) (hl : X.N[l]? = some z) (hij : i ≠ j) (hil : i ≠ l) (hjl : j ≠ l)
    (hx : X.env.scope.names.lookup x = some .local) (hy : X.env.scope.names.lookup y = some .local) (hz : X.env.scope.names.lookup z = some .local) (ha : PA X [a, b, c] (tA X.K T W ds))
    (hw : swappedStores [.Tuple [.Name x px, .Name y py, .Name z pz] kt pt] (.Tuple [a, b, c] k2 pt2) X.env = pure (some [x, y, z]))
    (hs : swapsWithSole [.Tuple [.Name x px, .Name y py, .Name z pz] kt pt] (.Tuple [a, b, c] k2 pt2) pos.line X.env = pure false := by rfl) :
    PS X (.Assign [.Tuple [.Name x px, .Name y py, .Name z pz] kt pt] (.Tuple [a, b, c] k2 pt2) pos) (tS X.K T W (sPar3 i j l ds)) := by
  refine ps_mono (ps_par3 hc hN hi hj hl hij hil hjl hx hy hz ha hw hs) fun D σ H ⟨en, st, as, rs, re, q⟩ => ?_
  refine ⟨en, st, as, rs, re, (PostS.bind re q).imp fun vs H1 ⟨as1, s1, xs, p1, rs1, rx, re1, q1⟩ => ?_⟩
  split at q1
  · cases rx with
    | @cons v1 _ _ _ r1 rx =>
    cases rx with
    | @cons v2 _ _ _ r2 rx =>
    cases rx with
    | @cons v3 _ _ _ r3 rx =>
    cases rx
    exact ⟨v1, v2, v3, rfl, q1 _ H1 as1 Stp.refl rs1 (((re1.set r1).set r2).set r3)⟩
  · exact q1.elim
end

/-! ### len(set(list of ints)) where all differ -/
def nodI : List Int → Bool
  | [] => true
  | x :: xs => !xs.contains x && nodI xs
theorem nodI_ok : ∀ {xs : List Int}, nodI xs = true → xs.Nodup
  | [], _ => .nil
  | x :: xs, h => by
    simp only [nodI, Bool.and_eq_true, Bool.not_eq_true'] at h
    refine List.nodup_cons.mpr ⟨fun hm => ?_, nodI_ok h.2⟩
    have : xs.contains x = true := by simpa using hm
    rw [this] at h
    cases h.1
def dLenS (a : ED) : ED := fun en st => (a en st).bind fun x s1 => match (lstOf s1 x).bind intsD with
  | some ns => if nodI ns = true ∧ ns.length ≤ 4000 then .ok (.int ns.length) s1 else .no
  | none => .no
section
variable {X : Cx} {T : Nat → Addr} {W : WX} {a : Expr} {da : ED} {p p2 q pos : Pos}
theorem g_lenS (ha : PE X a (tE X.K T W da)) (hm : X.mg "len" = none) (hm2 : X.mg "set" = none) (hg : Gl X "len" := by rfl) (hg2 : Gl X "set" := by rfl) (hc : X.calm = true := by rfl)
    (na : starEach [a] X.env = (false, eval a X.env) :: starEach [] X.env := by rfl) : PE X (.Call (.Name "len" p) [.Call (.Name "set" p2) [a] [] q] [] pos) (tE X.K T W (dGC (dLenS da))) := by
  refine g_gc (pe_mono (RZ.pe_lenSetI hg hm hg2 hm2 ha hc na) fun σ H Q ⟨en, st, as, rs, re, q⟩ => ?_)
  refine ⟨en, st, as, rs, re, (Post.bind (rel := RV X.K) q).imp fun x H1 ⟨as1, s1, dx, p1, rs1, rx, q1⟩ => ?_⟩
  cases e : lstOf s1 dx with
  | none => rw [e] at q1; exact q1.elim
  | some zs =>
    rw [e] at q1
    cases e2 : intsD zs with
    | none => simp only [Option.bind_some, e2] at q1; exact q1.elim
    | some ns =>
      simp only [Option.bind_some, e2] at q1
      split at q1
      · rename_i h
        obtain ⟨pp, ys, rfl, sq, r⟩ := lstOf_sq rs1 rx e
        rw [intsD_rv r e2] at sq
        exact ⟨pp, ns, rfl, sq, nodI_ok h.1, h.2, q1 _ H1 as1 Stp.refl rs1 (.int _)⟩
      · exact q1.elim
end
theorem bt_len : bootBuiltins "len" = some (.builtin "len") := by decide +kernel
theorem bt_abs : bootBuiltins "abs" = some (.builtin "abs") := by decide +kernel
theorem bt_max : bootBuiltins "max" = some (.builtin "max") := by decide +kernel
theorem bt_min : bootBuiltins "min" = some (.builtin "min") := by decide +kernel
theorem bt_any : bootBuiltins "any" = some (.builtin "any") := by decide +kernel
theorem bt_all : bootBuiltins "all" = some (.builtin "all") := by decide +kernel
theorem bt_sum : bootBuiltins "sum" = some (.builtin "sum") := by decide +kernel
theorem bt_int : bootBuiltins "int" = some (.type "int") := by decide +kernel
theorem bt_list : bootBuiltins "list" = some (.type "list") := by decide +kernel
theorem bt_tuple : bootBuiltins "tuple" = some (.type "tuple") := by decide +kernel
theorem bt_bool : bootBuiltins "bool" = some (.type "bool") := by decide +kernel
theorem bt_str : bootBuiltins "str" = some (.type "str") := by decide +kernel
theorem u65 {k : Nat} {A : Around} (r : Room k A) : A.units + 65 < cLine := by have := r.un; omega
theorem u1 {k : Nat} {A : Around} (r : Room k A) : A.units + 1 < cLine := by have := r.un; omega
/-! ### what is never reached -/
def dNo : ED := fun _ _ => .no
def bNo : BD := fun _ _ => .no
def iNo : ID := fun _ _ => .no
def sNo : SD := fun _ _ => .no
section
variable {X : Cx} {T : Nat → Addr} {W : WX} {e tg : Expr} {s : Stmt}
theorem g_no : PE X e (tE X.K T W dNo) := ⟨fun pins s σ H Q I ⟨en, st, as, rs, re, q⟩ => q.elim⟩
theorem gt_no : PT X e (tT X.K T W bNo) := ⟨fun pins s σ H Q I ⟨en, st, as, rs, re, q⟩ => q.elim⟩
theorem gi_no : PI X tg e (tI X.K T W iNo) := ⟨fun pins s σ H Q I ⟨en, st, as, rs, re, q⟩ => q.elim⟩
theorem gs_no : PS X s (tS X.K T W sNo) := ⟨fun pins s σ H D I ⟨en, st, as, rs, re, q⟩ => q.elim⟩
end
end Gv
namespace Gv
open PySem PySem.Spec L2 PyProof.Rows

/-! ### sorted: any data that compares -/
def pdG (d : D) : PyData := (pd d).getD .none
def allPd (xs : List D) : Bool := xs.all fun d => (pd d).isSome
def alikeB (xs : List D) : Bool := xs.all fun a => xs.all fun b => PySem.W.alike (pdG a) (pdG b)
def tupB : PyData → Bool
  | .tuple (_ :: _) => true
  | _ => false
def othB : PyData → Bool
  | .tuple _ => false
  | .none => false
  | _ => true
def sortOk (xs : List D) : Bool := allPd xs && alikeB xs && (xs.all (fun d => tupB (pdG d)) || xs.all (fun d => othB (pdG d))) && xs.all (fun d => decide ((pdG d).depth ≤ 60)) && decide (xs.length ≤ 16777216)
def sortD (xs : List D) : List D := xs.mergeSort (PySem.W.dataLe false pdG)
def fSorted : FN := fun ds st => match ds with
  | [d] => (lstOf st d).bind fun xs => if sortOk xs = true then some (.obj st.length, st ++ [.lst (sortD xs)]) else none
  | _ => none
theorem pairs_rv {K : PySem.W.Frag} {as : List Addr} {H : Hp} : ∀ {vs : List V} {ds : List D}, RVs K as H vs ds → ∀ p ∈ vs.zip ds, RV K as H p.1 p.2
  | _, _, .nil, p, h => by cases h
  | _, _, .cons h r, p, hp => by
    rcases List.mem_cons.mp hp with rfl | hp
    · exact h
    · exact pairs_rv r p hp
theorem rv_pairs {K : PySem.W.Frag} {as : List Addr} {H : Hp} : ∀ {ps : List (V × D)}, (∀ p ∈ ps, RV K as H p.1 p.2) → RVs K as H (ps.map (·.1)) (ps.map (·.2))
  | [], _ => .nil
  | p :: ps, h => .cons (h p List.mem_cons_self) (rv_pairs fun q hq => h q (List.mem_cons_of_mem _ hq))
section
variable {X : Cx}
theorem each_vals {xs : List V} {ds : List D} {us : List Value} (r : Vals xs us) (hl : xs.length = ds.length) : PySem.W.EachIs (fun (v : Value) (p : V × D) => RelV p.1 v) us (xs.zip ds) := by
  induction r generalizing ds with
  | nil => exact .nil
  | cons h r ih =>
    cases ds with
    | nil => simp at hl
    | cons d ds => exact .cons h (ih (by simpa using hl))
theorem vals_each : ∀ {us : List Value} {ps : List (V × D)}, PySem.W.EachIs (fun (v : Value) (p : V × D) => RelV p.1 v) us ps → Vals (ps.map (·.1)) us
  | _, _, .nil => .nil
  | _, _, .cons h r => .cons h (vals_each r)
theorem cg_sorted (hc : X.calm = true) (hu : X.A.units + 64 < cLine) : CallR X (.builtin "sorted") (cOf X.K fSorted) := by
  intro pins s σ H xs us Q I r ⟨as, st, ds, rs, rx, q⟩
  unfold fSorted at q
  split at q
  · rename_i d
    obtain ⟨v, rfl, rv⟩ := rx.one
    cases e : lstOf st d with
    | none => rw [e] at q; exact q.elim
    | some zs =>
      rw [e] at q
      simp only [Option.bind_some] at q
      split at q
      · rename_i hk
        simp only [sortOk, Bool.and_eq_true, Bool.or_eq_true, decide_eq_true_eq] at hk
        obtain ⟨⟨⟨⟨k1, k2⟩, k3⟩, k4⟩, k5⟩ := hk
        obtain ⟨a, ys, rfl, sq, ry⟩ := lstOf_sq rs rv e
        obtain ⟨its, rv', hl, hz⟩ := I.list sq
        rw [Vals.ref1 r]
        have hlen : ys.length = zs.length := ry.length
        have hpr := pairs_rv ry
        have hmem : ∀ p ∈ ys.zip zs, p.2 ∈ zs := fun p hp => (List.of_mem_zip hp).2
        have e1 := each_vals rv' hlen
        have pdof : ∀ d ∈ zs, pd d = some (pdG d) := fun d hd => by
          have := List.all_eq_true.mp k1 d hd
          unfold pdG
          cases h : pd d with
          | none => rw [h] at this; cases this
          | some p => rfl
        have e2 : PySem.W.EachIs (fun v (p : V × D) => ∃ bs, Reads s.heap v (pdG p.2) bs) its (ys.zip zs) := by
          refine PySem.W.EachIs.of_zip e1.length fun z hz => ?_
          have hr := e1.zip z hz
          have hz2 : z.2 ∈ ys.zip zs := (List.of_mem_zip hz).2
          exact Dp.reads I (pdG z.2.2) z.2.1 z.1 (pd_dp (hpr _ hz2) (pdof _ (hmem _ hz2))) hr
        have al : PySem.W.AllAlike ((ys.zip zs).map fun p => pdG p.2) := by
          intro d hd d' hd'
          obtain ⟨p, hp, rfl⟩ := List.mem_map.mp hd
          obtain ⟨p', hp', rfl⟩ := List.mem_map.mp hd'
          exact List.all_eq_true.mp (List.all_eq_true.mp k2 _ (hmem p hp)) _ (hmem p' hp')
        have sb : PySem.W.Sortable ((ys.zip zs).map fun p => pdG p.2) := by
          rcases k3 with k3 | k3
          · refine .inl fun d hd => ?_
            obtain ⟨p, hp, rfl⟩ := List.mem_map.mp hd
            have := List.all_eq_true.mp k3 _ (hmem p hp)
            unfold tupB at this
            split at this
            · rename_i x r h; exact ⟨x, r, h⟩
            · cases this
          · refine .inr fun d hd => ?_
            obtain ⟨p, hp, rfl⟩ := List.mem_map.mp hd
            have := List.all_eq_true.mp k3 _ (hmem p hp)
            constructor
            · intro z
              rw [z] at this
              cases this
            · intro xs z
              rw [z] at this
              cases this
        refine PySem.W.sorted_data (enc := fun (p : V × D) => pdG p.2) hl.isList e1 e2 al sb (by rw [List.length_zip, hlen, Nat.min_self, sizeLine_eq]; exact k5) (fun p hp => ?_) fun out h1 h2 => ?_
        · have := of_decide_eq_true (List.all_eq_true.mp k4 _ (hmem p hp))
          omega
        · have hv := vals_each h2
          obtain ⟨ep, he'⟩ := sortedAll_at s.heap its out.toArray
          have hmap : ((ys.zip zs).mergeSort (PySem.W.dataLe false fun (p : V × D) => pdG p.2)).map (·.2) = sortD zs := by
            have h := List.map_mergeSort (r := PySem.W.dataLe false fun (p : V × D) => pdG p.2) (s := PySem.W.dataLe false pdG) (f := fun p : V × D => p.2) (l := ys.zip zs) (fun a _ b _ => rfl)
            rw [h]
            unfold sortD
            rw [show (ys.zip zs).map (fun p => p.2) = zs from List.map_snd_zip (by rw [hlen]; exact Nat.le_refl _)]
          have hrv : RVs X.K as H (((ys.zip zs).mergeSort (PySem.W.dataLe false fun (p : V × D) => pdG p.2)).map (·.1)) (sortD zs) := by
            rw [← hmap]
            exact rv_pairs fun p hp => hpr p ((List.mergeSort_perm _ _).mem_iff.mp hp)
          have hfree := I.hok.fresh (Nat.le_succ s.heap.objs.size)
          have ho : (((ys.zip zs).mergeSort (PySem.W.dataLe false fun (p : V × D) => pdG p.2)).map (·.1)).length ≤ sizeLine := by
            rw [List.length_map, List.length_mergeSort, List.length_zip, hlen, Nat.min_self, sizeLine_eq]
            exact k5
          refine ⟨.ref _, upd H (s.heap.objs.size + 1) (.lst _), I.laid (t' := s.toks) (fun _ _ => sortedAll_old) (Nat.le_succ _) ⟨ho, out, ep, hv, he'⟩, rfl, ?_⟩
          exact q _ _ (as ++ [s.heap.objs.size + 1]) (Stp.alloc hfree) (rs.alloc hfree ⟨_, upd_same, hrv.mono (Stp.alloc hfree)⟩) (newAt rs)
      · exact q.elim
  · exact q.elim
end
theorem bt_sorted : bootBuiltins "sorted" = some (.builtin "sorted") := by decide +kernel
end Gv
namespace Gv
open PySem PySem.Spec L2
def relU (Dn : Addr) (n : Nat) (as : List Addr) (_ : Hp) (_ _ : Unit) : Prop := as[n]? = some Dn
theorem wipe_wipe (vs : List Nat) (σ : L2.St) : L2.wipe (L2.wipe σ vs) vs = L2.wipe σ vs := by
  have key : ∀ (ws us : List Nat), (∀ w ∈ ws, w ∈ us) → L2.wipe (L2.wipe σ ws) us = L2.wipe σ us := by
    intro ws
    induction ws with
    | nil => intro us _; rfl
    | cons w ws ih =>
      intro us h
      show L2.wipe ((L2.wipe σ ws).set w none) us = L2.wipe σ us
      rw [show L2.wipe ((L2.wipe σ ws).set w none) us = L2.wipe (L2.wipe σ ws) us from wipe_set _ _ _ _ (h w List.mem_cons_self)]
      exact ih us fun x hx => h x (List.mem_cons_of_mem _ hx)
  exact key vs vs fun _ h => h
theorem comp_in {K : PySem.W.Frag} {T : Nat → Addr} {u : UD} {g : TG} {dc : BD} {de : ED} {σ : L2.St} {en : En} {J : It} {it : ItD} {as1 : List Addr} {H1 : Hp} {s1 : Sto} {vs : List Nat} {n : Nat} {Dn : Addr} {Qd : Hp → Prop} (gk : gOk K vs u g) (re : RE K as1 H1 σ en) (rs1 : RS K as1 H1 s1) (jr : JR K as1 H1 J it) (hn : as1[n]? = some Dn)
    (q : Post K T (relU Dn n) WF σ as1 H1 (compL it u dc de (wipeE en vs) n 0 it.items s1) fun _ H => Qd H) :
    ∃ W : Nat → Nat → Hp → Prop, (∃ m, W 0 m H1) ∧ ∀ i m H, W i m H →
      (J.stop i H ∧ Qd H) ∨ (J.go i H ∧ ∃ Nx : Hp → Prop, (∀ H', Nx H' → ∃ m', m' < m ∧ W (i + 1) m' H') ∧ ∀ x H', J.yld i H x H' → g x (L2.wipe σ vs) H' fun σ2 H2 => L2.wipe σ2 vs = L2.wipe σ vs ∧ tT K T WF dc σ2 H2 fun b H3 =>
        if b = true then tE K T WF de σ2 H3 fun y H4 => ∃ acc, H4 Dn = some (.lst acc) ∧ acc.length < sizeLine ∧ Nx (upd H4 Dn (.lst (acc ++ [y]))) else Nx H3) := by
  have ww : ∀ σ : L2.St, L2.wipe (L2.wipe σ vs) vs = L2.wipe σ vs := by
    intro σ
    have key : ∀ (ws us : List Nat), (∀ w ∈ ws, w ∈ us) → L2.wipe (L2.wipe σ ws) us = L2.wipe σ us := by
      intro ws
      induction ws with
      | nil => intro us _; rfl
      | cons w ws ih =>
        intro us h
        show L2.wipe ((L2.wipe σ ws).set w none) us = L2.wipe σ us
        rw [show L2.wipe ((L2.wipe σ ws).set w none) us = L2.wipe (L2.wipe σ ws) us from wipe_set _ _ _ _ (h w List.mem_cons_self)]
        exact ih us fun x hx => h x (List.mem_cons_of_mem _ hx)
    exact key vs vs fun _ h => h
  refine ⟨fun i m H => ∃ as st, Stp as1 H1 as H ∧ RS K as H st ∧ m = it.items.length - i ∧ i ≤ it.items.length ∧
      Post K T (relU Dn n) WF σ as H (compL it u dc de (wipeE en vs) n i (it.items.drop i) st) fun _ H => Qd H,
    ⟨_, as1, s1, Stp.refl, rs1, rfl, Nat.zero_le _, (by rw [List.drop_zero]; exact q)⟩, ?_⟩
  rintro i m H ⟨as, st, p, rs, rfl, hi, q⟩
  have pd : as[n]? = some Dn := p.get hn
  by_cases hlt : i < it.items.length
  · have hd : it.items[i]? = some it.items[i] := List.getElem?_eq_getElem hlt
    rw [List.drop_eq_getElem_cons hlt] at q
    simp only [compL] at q
    by_cases ok : it.ok i st = true
    · rw [if_pos ok] at q
      obtain ⟨go, yld⟩ := jr.go i as H st (p) rs ok _ hd
      refine .inr ⟨go, fun H' => ∃ as' st', Stp as1 H1 as' H' ∧ RS K as' H' st' ∧ Post K T (relU Dn n) WF σ as' H' (compL it u dc de (wipeE en vs) n (i + 1) (it.items.drop (i + 1)) st') fun _ H => Qd H,
        fun H' ⟨as', st', p', rs', q'⟩ => ⟨it.items.length - (i + 1), by omega, as', st', p', rs', rfl, hlt, q'⟩, fun x H' y => ?_⟩
      obtain ⟨py, rs', rx⟩ := yld x H' y
      cases eu : u it.items[i] (wipeE en vs) with
      | none => rw [eu] at q; exact q.elim
      | some en1 =>
        rw [eu] at q
        dsimp only at q
        refine gk as H' _ _ x _ en1 _ (((re.mono (p)).mono py).wipe vs) rx eu fun σ2 re2 hw => ⟨hw.trans (ww σ), en1, st, as, rs', re2, ?_⟩
        have q0 := Post.shift q py
        have q1 := q0.bind (rel := relB)
        refine Post.imp (Post.wf q1 (σ' := σ2)) fun b H3 ⟨as3, s3, b', p3, rs3, rb, q3⟩ => ?_
        cases rb
        cases b with
        | false =>
          exact ⟨as3, s3, (p.trans py).trans p3, rs3, q3⟩
        | true =>
          rw [if_pos rfl]
          rw [if_pos rfl] at q3
          refine ⟨en1, s3, as3, rs3, re2.mono p3, Post.imp (Post.wf (q3.bind (rel := RV K))) fun y H4 ⟨as4, s4, dy, p4, rs4, ry, q4⟩ => ?_⟩
          have pd4 : as4[n]? = some Dn := ((py.trans p3).trans p4).get pd
          split at q4
          · rename_i acc hacc
            split at q4
            · rename_i hl
              obtain ⟨ys, ey, r⟩ := rs4.at' pd4 hacc
              refine ⟨ys, ey, by rw [r.length, sizeLine_eq]; exact hl, as4, _, ?_, rs4.write (y := .lst (acc ++ [dy])) pd4 hacc trivial trivial ⟨ys ++ [y], upd_same, ?_⟩, Post.shift q4 (Stp.write pd4 ey trivial)⟩
              · exact (((p.trans py).trans p3).trans p4).trans (Stp.write pd4 ey trivial)
              · exact (r.append (.cons ry .nil)).mono (Stp.write pd4 ey trivial)
            · exact q4.elim
          · exact q4.elim
    · rw [if_neg ok] at q
      exact q.elim
  · have e : i = it.items.length := by omega
    subst e
    rw [List.drop_length] at q
    simp only [compL] at q
    by_cases ok : it.ok it.items.length st = true
    · rw [if_pos ok] at q
      exact .inl ⟨jr.stop as H st (p) rs ok, q () H as Stp.refl rs pd⟩
    · rw [if_neg ok] at q
      exact q.elim

/-! ### two clauses -/
def compL2 (it : ItD) (u : UD) (c : BD) (inner : En → Sto → Re Unit) (en : En) : Nat → List D → Sto → Re Unit
  | k, [], st => if it.ok k st = true then .ok () st else .no
  | k, d :: ds, st => if it.ok k st = true then match u d en with
      | some en1 => (c en1 st).bind fun b s2 => if b = true then (inner en1 s2).bind fun _ s3 => compL2 it u c inner en (k + 1) ds s3
          else compL2 it u c inner en (k + 1) ds s2
      | none => .no
    else .no
def innerC (i1 : ID) (u1 : UD) (c1 : BD) (elt : ED) (vs1 : List Nat) (n : Nat) : En → Sto → Re Unit := fun en st => (i1 en st).bind fun it s => compL it u1 c1 elt (wipeE en vs1) n 0 it.items s
def dLC2 (own vs1 : List Nat) (i : ID) (u : UD) (c : BD) (i1 : ID) (u1 : UD) (c1 : BD) (elt : ED) : ED := fun en st => (i en st).bind fun it s1 =>
  (noEr (compL2 it u c (innerC i1 u1 c1 elt vs1 s1.length) (wipeE en own) 0 it.items (s1 ++ [.lst []]))).bind fun _ s2 => .ok (.obj s1.length) s2
section
variable {X : Cx} {T : Nat → Addr} {W : WX} {elt tg iter tg1 iter1 : Expr} {ifs ifs1 : List Expr} {scope : Scope} {own : List (Str × Nat)} {vs1 : List Nat} {pos : Pos} {di di1 : ID} {u u1 : UD} {g g1 : TG} {dc dc1 : BD} {de : ED}
theorem g_lc2 (hc : X.calm = true) (hN : X.N.Nodup) (hi : PI X tg iter (tI X.K T W di)) (ok : BlkOk X.N X.env.scope scope own) (hv : ∀ i ∈ vs1, i ∈ own.map (·.2)) (gk : gOk X.K (own.map (·.2)) u g) (gk1 : gOk X.K vs1 u1 g1)
    (hg : ∀ (s : Shared) (H : Hp) (C : Addr) (cl : List (Str × Addr)) (fp : List Addr), PG (X.blk s H scope (compEnvC scope cl C X.env) fp) tg g)
    (ht : ∀ (s : Shared) (H : Hp) (C : Addr) (cl : List (Str × Addr)) (fp : List Addr), PTs (X.blk s H scope (compEnvC scope cl C X.env) fp) ifs (tT X.K T WF dc))
    (hi1 : ∀ (s : Shared) (H : Hp) (C : Addr) (cl : List (Str × Addr)) (fp : List Addr), PI (X.blk s H scope (compEnvC scope cl C X.env) fp) tg1 iter1 (tI X.K T WF di1))
    (hg1 : ∀ (s : Shared) (H : Hp) (C : Addr) (cl : List (Str × Addr)) (fp : List Addr), PG (X.blk s H scope (compEnvC scope cl C X.env) fp) tg1 g1)
    (ht1 : ∀ (s : Shared) (H : Hp) (C : Addr) (cl : List (Str × Addr)) (fp : List Addr), PTs (X.blk s H scope (compEnvC scope cl C X.env) fp) ifs1 (tT X.K T WF dc1))
    (he : ∀ (s : Shared) (H : Hp) (C : Addr) (cl : List (Str × Addr)) (fp : List Addr), PE (X.blk s H scope (compEnvC scope cl C X.env) fp) elt (tE X.K T WF de)) (hs : ∀ x, foldedSetIterable iter X.env x = pure x := by intro _; rfl) (hs1 : ∀ env x, foldedSetIterable iter1 env x = pure x := by intro _ _; rfl) :
    PE X (.ListComp elt [⟨tg, iter, ifs, 0⟩, ⟨tg1, iter1, ifs1, 0⟩] scope pos) (tE X.K T W (dLC2 (own.map (·.2)) vs1 di u dc di1 u1 dc1 de)) := by
  refine pe_mono (pe_lc2 hc hN hi ok hv hg ht hi1 hg1 ht1 he hs hs1) fun σ H Q ⟨en, st, as, rs, re, q⟩ => ?_
  refine ⟨en, st, as, rs, re, q.bind.imp fun J H1 ⟨as1, s1, it, p1, rs1, jr, q1⟩ Dn hD => ?_⟩
  have q2 := Post.shift q1 (Stp.alloc (o := .lst []) hD)
  have q3 := q2.bind (rel := relU Dn s1.length)
  have q4 : Post X.K T (relU Dn s1.length) WF σ (as1 ++ [Dn]) (upd H1 Dn (.lst [])) (compL2 it u dc (innerC di1 u1 dc1 de vs1 s1.length) (wipeE en (own.map (·.2))) 0 it.items (s1 ++ [.lst []])) fun _ H => Q (.ref Dn) H :=
    Post.imp (Post.noEr q3) fun v H2 ⟨as2, s2, x, p2, rs2, r2, q4⟩ => q4 _ H2 as2 Stp.refl rs2 (.obj r2)
  have re1 := re.mono p1
  have p0 : Stp as1 H1 (as1 ++ [Dn]) (upd H1 Dn (.lst [])) := Stp.alloc hD
  refine ⟨fun i m H => ∃ as st, Stp (as1 ++ [Dn]) (upd H1 Dn (.lst [])) as H ∧ RS X.K as H st ∧ m = it.items.length - i ∧ i ≤ it.items.length ∧
      Post X.K T (relU Dn s1.length) WF σ as H (compL2 it u dc (innerC di1 u1 dc1 de vs1 s1.length) (wipeE en (own.map (·.2))) i (it.items.drop i) st) fun _ H => Q (.ref Dn) H,
    ⟨_, as1 ++ [Dn], s1 ++ [.lst []], Stp.refl, (show RS X.K (as1 ++ [Dn]) (upd H1 Dn (.lst [])) (s1 ++ [Ob.lst []]) from rs1.alloc (x := Ob.lst []) hD ⟨[], upd_same, .nil⟩), rfl, Nat.zero_le _, (by rw [List.drop_zero]; exact q4)⟩, ?_⟩
  rintro i m H ⟨as, st, p, rs, rfl, hi', q⟩
  have pd : as[s1.length]? = some Dn := p.get (by rw [← rs1.len, List.getElem?_append_right (Nat.le_refl _), Nat.sub_self]; rfl)
  by_cases hlt : i < it.items.length
  · have hd : it.items[i]? = some it.items[i] := List.getElem?_eq_getElem hlt
    rw [List.drop_eq_getElem_cons hlt] at q
    simp only [compL2] at q
    by_cases ok' : it.ok i st = true
    · rw [if_pos ok'] at q
      obtain ⟨go, yld⟩ := jr.go i as H st (p0.trans p) rs ok' _ hd
      refine .inr ⟨go, fun H' => ∃ as' st', Stp (as1 ++ [Dn]) (upd H1 Dn (.lst [])) as' H' ∧ RS X.K as' H' st' ∧ Post X.K T (relU Dn s1.length) WF σ as' H' (compL2 it u dc (innerC di1 u1 dc1 de vs1 s1.length) (wipeE en (own.map (·.2))) (i + 1) (it.items.drop (i + 1)) st') fun _ H => Q (.ref Dn) H,
        fun H' ⟨as', st', p', rs', q'⟩ => ⟨it.items.length - (i + 1), by omega, as', st', p', rs', rfl, hlt, q'⟩, fun x H' y => ?_⟩
      obtain ⟨py, rs', rx⟩ := yld x H' y
      cases eu : u it.items[i] (wipeE en (own.map (·.2))) with
      | none => rw [eu] at q; exact q.elim
      | some en1 =>
        rw [eu] at q
        dsimp only at q
        refine gk as H' _ _ x _ en1 _ (((re1.mono (p0.trans p)).mono py).wipe (own.map (·.2))) rx eu fun σ2 re2 hw => ⟨hw.trans (wipe_wipe _ σ), en1, st, as, rs', re2, ?_⟩
        have q0 := Post.shift q py
        have q1 := q0.bind (rel := relB)
        refine Post.imp (Post.wf q1 (σ' := σ2)) fun b H3 ⟨as3, s3, b', p3, rs3, rb, q3⟩ => ?_
        cases rb
        cases b with
        | false =>
          rw [if_neg Bool.false_ne_true]
          rw [if_neg Bool.false_ne_true] at q3
          exact ⟨as3, s3, (p.trans py).trans p3, rs3, q3⟩
        | true =>
          rw [if_pos rfl]
          rw [if_pos rfl] at q3
          have q5 := q3.bind (rel := relU Dn s1.length)
          unfold innerC at q5
          have q6 := Post.bind (rel := JR X.K) q5
          refine ⟨en1, s3, as3, rs3, re2.mono p3, Post.imp (Post.wf q6) fun J1 H4 ⟨as4, s4, it1, p4, rs4, jr1, q7⟩ => ?_⟩
          have pd4 : as4[s1.length]? = some Dn := ((py.trans p3).trans p4).get pd
          refine comp_in gk1 (re2.mono (p3.trans p4)) rs4 jr1 pd4 (Post.imp (Post.wf q7) fun _ H5 ⟨as5, s5, _, p5, rs5, _, q8⟩ => ?_)
          exact ⟨as5, s5, ((p.trans py).trans p3).trans p5, rs5, q8⟩
    · rw [if_neg ok'] at q
      exact q.elim
  · have e : i = it.items.length := by omega
    subst e
    rw [List.drop_length] at q
    simp only [compL2] at q
    by_cases ok' : it.ok it.items.length st = true
    · rw [if_pos ok'] at q
      exact .inl ⟨jr.stop as H st (p0.trans p) rs ok', q () H as Stp.refl rs pd⟩
    · rw [if_neg ok'] at q
      exact q.elim
end
theorem wipe_more : ∀ (ws us : List Nat) (σ : L2.St), (∀ w ∈ ws, w ∈ us) → L2.wipe (L2.wipe σ ws) us = L2.wipe σ us
  | [], _, _, _ => rfl
  | w :: ws, us, σ, h => by
    show L2.wipe ((L2.wipe σ ws).set w none) us = L2.wipe σ us
    rw [show L2.wipe ((L2.wipe σ ws).set w none) us = L2.wipe (L2.wipe σ ws) us from wipe_set _ _ _ _ (h w List.mem_cons_self)]
    exact wipe_more ws us σ fun x hx => h x (List.mem_cons_of_mem _ hx)
theorem gok_sub {K : PySem.W.Frag} {vs us : List Nat} {u : UD} {g : TG} (h : gOk K vs u g) (hs : ∀ v ∈ vs, v ∈ us) : gOk K us u g := fun as H σ en v d en' Q re rv e q =>
  h as H σ en v d en' Q re rv e fun σ' re' hw => q σ' re' (by rw [← wipe_more vs us σ' hs, hw, wipe_more vs us σ hs])
end Gv
namespace Gv
open PySem PySem.Spec L2

/-! ### zip of two tuples -/
def zipD (xs ys : List D) : List D := List.zipWith (fun x y => .tup [x, y]) xs ys
def iZp (a : AD) : ID := fun en st => (a en st).bind fun xs s1 => match xs with
  | [.tup xs, .tup ys] => .ok ⟨zipD xs ys, none⟩ s1
  | _ => .no
theorem zipD_at {xs ys : List D} {i : Nat} {d : D} (h : (zipD xs ys)[i]? = some d) : ∃ x y, xs[i]? = some x ∧ ys[i]? = some y ∧ d = .tup [x, y] := by
  unfold zipD at h
  rw [List.getElem?_zipWith] at h
  cases e1 : xs[i]? with
  | none => rw [e1] at h; cases h
  | some x =>
    cases e2 : ys[i]? with
    | none => rw [e1, e2] at h; cases h
    | some y => rw [e1, e2] at h; cases h; exact ⟨x, y, rfl, rfl, rfl⟩
theorem jr_zipT {K : PySem.W.Frag} {as0 : List Addr} {H0 : Hp} {a b : Addr} {vs ws : List V} {xs ys : List D} (h : H0 a = some (.tup vs)) (h' : H0 b = some (.tup ws)) (r : RVs K as0 H0 vs xs) (r' : RVs K as0 H0 ws ys) : JR K as0 H0 (RZ.ItzT K a b) ⟨zipD xs ys, none⟩ where
  go := fun i as H st p rs _ d hd => by
    obtain ⟨x, y, e1, e2, rfl⟩ := zipD_at hd
    obtain ⟨v, hv, rv⟩ := (r.mono p).get e1
    obtain ⟨w, hw, rw'⟩ := (r'.mono p).get e2
    refine ⟨⟨vs, ws, v, w, SqT.of (p.tup _ _ h), SqT.of (p.tup _ _ h'), hv, hw⟩, fun z H' q => ?_⟩
    obtain ⟨Tp, v', w', rfl, hT, rfl, q1, q2⟩ := q
    have := q1 vs (SqT.of (p.tup _ _ h))
    rw [hv] at this
    cases this
    have := q2 ws (SqT.of (p.tup _ _ h'))
    rw [hw] at this
    cases this
    exact ⟨Stp.new hT, rs.new hT, .tup upd_same (.cons (rv.mono (Stp.new hT)) (.cons (rw'.mono (Stp.new hT)) .nil))⟩
  stop := fun as H st p rs _ => by
    refine ⟨vs, ws, SqT.of (p.tup _ _ h), SqT.of (p.tup _ _ h'), ?_⟩
    show vs.length ≤ (zipD xs ys).length ∨ ws.length ≤ (zipD xs ys).length
    unfold zipD
    rw [List.length_zipWith, r.length, r'.length]
    have := Nat.le_total xs.length ys.length
    omega
/-! ### range(a, b, c) -/
def rng3 (lo c : Int) (n : Nat) : List D := (List.range n).map fun (i : Nat) => D.int (lo + (i : Int) * c)
def rg3B (i j c : Int) : Bool := decide (c ≠ 0) && decide (c.natAbs < 1073741824) && Builtin.Range.small i j c && decide (0 ≤ Builtin.Range.rangeSize i j c)
def iRg3 (a : AD) : ID := fun en st => (a en st).bind fun xs s1 => match xs with
  | [.int i, .int j, .int c] => if rg3B i j c = true then .ok ⟨rng3 i c (Builtin.Range.rangeSize i j c).toNat, none⟩ s1 else .no
  | _ => .no
/-! ### targets within targets -/
def uT12 (i j k : Nat) : UD := fun d en => match d with
  | .tup [a, .tup [b, c]] => some (((en.set i (some a)).set j (some b)).set k (some c))
  | _ => none
def uT13 (i j k l : Nat) : UD := fun d en => match d with
  | .tup [a, .tup [b, c, e]] => some ((((en.set i (some a)).set j (some b)).set k (some c)).set l (some e))
  | _ => none
theorem gok_t12 {K : PySem.W.Frag} {i j k : Nat} : gOk K [i, j, k] (uT12 i j k) (gTup K 2 (gCons (gName i) (gCons (gTup K 2 (gCons (gName j) (gCons (gName k) gNil))) gNil))) := by
  intro as H σ en v d en' Q re rv e q
  unfold uT12 at e
  split at e
  · cases e
    cases rv with
    | @tup a xs _ h r =>
    cases r with
    | @cons x1 _ _ _ r1 r =>
    cases r with
    | @cons x2 _ _ _ r2 r =>
    cases r
    cases r2 with
    | @tup b ys _ h2 s =>
    cases s with
    | @cons y1 _ _ _ s1 s =>
    cases s with
    | @cons y2 _ _ _ s2 s =>
    cases s
    refine ⟨a, [x1, .ref b], rfl, SqT.of h, rfl, x1, [.ref b], rfl, .ref b, [], rfl, b, [y1, y2], rfl, SqT.of h2, rfl, y1, [y2], rfl, y2, [], rfl, rfl, rfl, ?_⟩
    exact q _ (((re.set r1).set s1).set s2) (by rw [wipe_set _ _ _ _ (by simp), wipe_set _ _ _ _ (by simp), wipe_set _ _ _ _ (by simp)])
  · cases e
theorem gok_t13 {K : PySem.W.Frag} {i j k l : Nat} : gOk K [i, j, k, l] (uT13 i j k l) (gTup K 2 (gCons (gName i) (gCons (gTup K 3 (gCons (gName j) (gCons (gName k) (gCons (gName l) gNil)))) gNil))) := by
  intro as H σ en v d en' Q re rv e q
  unfold uT13 at e
  split at e
  · cases e
    cases rv with
    | @tup a xs _ h r =>
    cases r with
    | @cons x1 _ _ _ r1 r =>
    cases r with
    | @cons x2 _ _ _ r2 r =>
    cases r
    cases r2 with
    | @tup b ys _ h2 s =>
    cases s with
    | @cons y1 _ _ _ s1 s =>
    cases s with
    | @cons y2 _ _ _ s2 s =>
    cases s with
    | @cons y3 _ _ _ s3 s =>
    cases s
    refine ⟨a, [x1, .ref b], rfl, SqT.of h, rfl, x1, [.ref b], rfl, .ref b, [], rfl, b, [y1, y2, y3], rfl, SqT.of h2, rfl, y1, [y2, y3], rfl, y2, [y3], rfl, y3, [], rfl, rfl, rfl, ?_⟩
    exact q _ ((((re.set r1).set s1).set s2).set s3) (by rw [wipe_set _ _ _ _ (by simp), wipe_set _ _ _ _ (by simp), wipe_set _ _ _ _ (by simp), wipe_set _ _ _ _ (by simp)])
  · cases e
section
variable {X : Cx} {T : Nat → Addr} {W : WX} {a b c tg : Expr} {ds : AD} {pos p tpos : Pos} {elts : List Expr} {kk : Nat}
theorem gi_zip (ha : PA X [a, b] (tA X.K T W ds)) (hm : X.mg "zip" = none) (hg : Gl X "zip" := by rfl) (hs : starEach [a, b] X.env = (false, eval a X.env) :: starEach [b] X.env := by rfl) (hpl : (backTo pos (starEach [b] X.env)).any (·.1) = false := by rfl) :
    PI X (.Tuple elts kk tpos) (.Call (.Name "zip" p) [a, b] [] pos) (tI X.K T W (iZp ds)) := by
  refine pi_mono (RZ.pi_zipA hg hm ha hs hpl) fun σ H R ⟨en, st, as, rs, re, q⟩ => ?_
  refine ⟨en, st, as, rs, re, q.bind.imp fun vs H1 ⟨as1, s1, xs, p1, rs1, rx, q1⟩ => ?_⟩
  split at q1
  · obtain ⟨v, w, rfl, rv, rw'⟩ := rx.two
    cases rv with
    | @tup a1 ys _ h r =>
    cases rw' with
    | @tup a2 zs _ h2 r2 =>
    exact ⟨a1, a2, ys, zs, rfl, .inr ⟨SqT.of h, SqT.of h2, q1 _ H1 as1 Stp.refl rs1 (jr_zipT h h2 r r2)⟩⟩
  · exact q1.elim
theorem gi_rg3 (ha : PA X [a, b, c] (tA X.K T W ds)) (hm : X.mg "range" = none) (hg : Gl X "range" := by rfl) (hs : starEach [a, b, c] X.env = (false, eval a X.env) :: starEach [b, c] X.env := by rfl) (hpl : (backTo pos (starEach [b, c] X.env)).any (·.1) = false := by rfl) :
    PI X tg (.Call (.Name "range" p) [a, b, c] [] pos) (tI X.K T W (iRg3 ds)) := by
  refine pi_mono (pi_range3 hg hm ha hs hpl) fun σ H R ⟨en, st, as, rs, re, q⟩ => ?_
  refine ⟨en, st, as, rs, re, q.bind.imp fun vs H1 ⟨as1, s1, xs, p1, rs1, rx, q1⟩ => ?_⟩
  split at q1
  · rename_i i j k
    split at q1
    · rename_i hk
      simp only [rg3B, Bool.and_eq_true, decide_eq_true_eq] at hk
      cases rx with
      | cons r1 rr =>
      cases rr with
      | cons r2 rr =>
      cases rr with
      | cons r3 rr =>
      cases rr
      cases r1
      cases r2
      cases r3
      refine ⟨i, j, k, (Builtin.Range.rangeSize i j k).toNat, rfl, ⟨hk.1.1.1, hk.1.1.2, hk.1.2, (Int.toNat_of_nonneg hk.2).symm⟩, q1 _ H1 as1 Stp.refl rs1 ⟨fun n as H st p rs _ d hd => ?_, fun as H st p rs _ => ?_⟩⟩
      · have hn : n < (Builtin.Range.rangeSize i j k).toNat := by
          have := (List.getElem?_eq_some_iff.mp hd).1
          simpa [rng3] using this
        simp only [rng3, List.getElem?_map, List.getElem?_range hn, Option.map_some, Option.some.injEq] at hd
        subst hd
        refine ⟨hn, fun x H' y => ?_⟩
        obtain ⟨rfl, rfl⟩ := y
        exact ⟨Stp.refl, rs, .int _⟩
      · show (Builtin.Range.rangeSize i j k).toNat ≤ (rng3 i k (Builtin.Range.rangeSize i j k).toNat).length
        simp [rng3]
    · exact q1.elim
  · exact q1.elim
end
end Gv
namespace Gv
open PySem PySem.Spec L2

/-! ### the law's end -/
theorem sqF_of {K : PySem.W.Frag} {H : Hp} {a : Addr} {xs : List V} (ho : Only H) (h : SqL K H a xs) : SqF K H a xs := by
  rcases h with h | h
  · rcases h with h | ⟨o, h⟩
    · rcases ho a with z | ⟨o, ys, z⟩
      · rw [z] at h; cases h
      · rw [z] at h; cases h
    · exact .inl ⟨o, h⟩
  · exact .inr (.inr h)
/-- an error is what its own class names -/
theorem exm_own {K : PySem.W.Frag} {S : Addr} (h1 : PySem.W.subIn K (.ref S) (.type "BaseException") = some true) (h2 : PySem.W.isClsIn K S = true) (h3 : PySem.W.typeIn K (.ref S) = some (.type "type")) (h4 : PySem.W.subIn K (.ref S) (.ref S) = some true) :
    PySem.W.exmOne K (.ref S) (.ref S) = some true := by
  have e1 : (PySem.W.subIn K (.ref S) (.type "BaseException") == some true) = true := by rw [h1] <;> rfl
  have e2 : ((PySem.W.clsIn K S).isSome && PySem.W.typeIn K (.ref S) == some (.type "type")) = true := by
    have h2' : (PySem.W.clsIn K S).isSome = true := h2
    rw [h2', h3] <;> rfl
  show (if (PySem.W.subIn K (.ref S) (.type "BaseException") == some true) = true then (if ((PySem.W.clsIn K S).isSome && PySem.W.typeIn K (.ref S) == some (.type "type")) = true then PySem.W.subIn K (.ref S) (.ref S) else none) else none) = some true
  rw [if_pos e1, if_pos e2]
  exact h4
def spLaw (K : PySem.W.Frag) : Sp := fun vs H Q _ => ∃ (a : Addr) (ns : List Int), vs = [.ref a] ∧ ns.length ≤ 63 ∧ SqF K H a (ns.map V.int) ∧ ∀ H', Q (.bl true) H'
theorem RVs.ints {K : PySem.W.Frag} {as : List Addr} {H : Hp} : ∀ ns : List Int, RVs K as H (ns.map V.int) (ns.map D.int)
  | [] => .nil
  | n :: ns => .cons (.int n) (RVs.ints ns)
section
variable {P : Program} {w : World} {K : PySem.W.Frag} {mg : Str → Option Value} {base : Heap} {T : Nat → Addr}
theorem GF.law {k : Nat} {f : Addr} {fd : FuncData} {d : FnD} (g : GF P w K mg base T k f fd ["script"] d) (hm : ∀ ns : List Int, ns.length ≤ 63 → ∃ s, d [.obj 0] [.fls (ns.map .int)] = .ok (.bl true) s) : FnOk P w K mg base (L2.CX P w) k f fd ["script"] (spLaw K) :=
  g.ok.imp fun vs H Q E ⟨a, ns, e, hl, hS, q⟩ => by
    subst e
    refine ⟨rfl, [.obj 0], [.fls (ns.map .int)], [a], ⟨rfl, fun i j b o u h1 h2 h3 h4 m1 m2 => ?_, fun i o h => ?_⟩, .cons (.obj rfl) .nil, ?_⟩
    · cases i with
      | zero => cases h3; exact m1.elim
      | succ i => simp at h3
    · cases i with
      | zero => cases h; exact ⟨a, rfl, _, hS, RVs.ints ns⟩
      | succ i => simp at h
    · obtain ⟨s, e⟩ := hm ns hl
      rw [e]
      intro v H' as' p rs rv
      cases rv
      exact q H'
/-- an error's class as the top has written it -/
theorem exn_mk {h : Heap} {x : Str} {c : Nat} {C N fI Td : Addr} {nm q : Str} {bs bm : List Value} {sn : List Str} {sub : List Value} {ab : Bool} {col : Option Bool} {dd : Option Addr} {m0 m1 m2 m3 m5 : Option Value}
    {od an : Option Addr} {sl : Array (Option Value)} {oc kV dc pm cd ct : Value} {oT : Obj} {tk : Tok} {nT : Nat} {p1 p2 p3 p4 p5 p6 p7 p8 r1 r2 r3 r4 : Pos}
    (X : K.In h) (G : h.Ns mainGlobals mg) (hT : T c = C)
    (aC : PySem.W.nsIn K mainGlobals x = some (some (.ref C)))
    (xL : K.lookup C = some (excClassObj nm q C N bs bm true sn sub ab col dd m0 m1 m2 m3 m5 "ValueError.__new__")) (hbm : PySem.HandSPX.refsVE bm = true)
    (sa : PySem.W.findIn K (.ref C) "__setattr__" = some (some (.builtin "object.__setattr__"))) (ga : PySem.W.findIn K (.ref C) "__getattribute__" = some (some (.builtin "BaseException.__getattribute__"))) (gg : PySem.W.findIn K (.ref C) "__getattr__" = some none)
    (noc : PySem.W.findIn K (.ref C) "code" = some none) (nop : PySem.W.findIn K (.ref C) "place" = some none)
    (iC : PySem.W.findIn K (.ref C) "__init__" = some (some (.ref fI))) (tI : PySem.W.typeIn K (.ref fI) = some (.type "function")) (kI : PySem.W.keepIn K (.ref fI) = true)
    (lI : K.lookup fI = some ⟨oc, od, .func (PySem.W.fnOf "__init__" "HallError.__init__" (iAr r1 r2 r3 r4) (iBd p1 p2 p3 p4 p5 p6 p7 p8) iSc (.ref Td) kV dc pm an cd ct), sl⟩) (cI : PySem.W.codeIn K cd "HallError.__init__" = true)
    (lT : K.lookup Td = some oT) (dT : oT.data = .seq #[.int 0 tk] nT)
    (kC : PySem.W.keepIn K (.ref C) = true) (eC : PySem.W.subIn K (.ref C) (.type "BaseException") = some true) (tC : PySem.W.typeIn K (.ref C) = some (.type "type")) (hC : PySem.W.hasDictIn K C = true) (isC : PySem.W.isClsIn K C = true) (sC : PySem.W.subIn K (.ref C) (.ref C) = some true) :
    Exn P w K mg base T c x := by
  have F0 : FunD K "__init__" "HallError.__init__" (iAr r1 r2 r3 r4) (iBd p1 p2 p3 p4 p5 p6 p7 p8) iSc [.int 0] [] fI (PySem.W.fnOf "__init__" "HallError.__init__" (iAr r1 r2 r3 r4) (iBd p1 p2 p3 p4 p5 p6 p7 p8) iSc (.ref Td) kV dc pm an cd ct) :=
    ⟨⟨oc, od, .ref Td, kV, dc, pm, an, cd, ct, sl, rfl, lI, cI, .inr ⟨by simp, Td, oT, [.int 0 tk], nT, rfl, lT, dT, .cons ⟨tk, rfl⟩ .nil⟩, .inl rfl⟩, kI⟩
  obtain ⟨d0, v0, b0⟩ := F0.binds1 (ps := ["self", "code", "place"]) 3 1 (by simp) rfl fun T kV doc pm an cdv ct us its h1 h2 => match us, its, h1, h2 with
    | [_, _, _], [_], _, _ => ⟨_, rfl, rfl⟩
  obtain ⟨d1, v1, b1⟩ := F0.binds1 (ps := ["self", "code", "place"]) 2 0 (by simp) rfl fun T kV doc pm an cdv ct us its h1 h2 => match us, its, h1, h2 with
    | [_, _], [_], _, _ => ⟨_, rfl, rfl⟩
  cases v0
  exact ⟨C, fI, _, d1, ⟨⟨⟨nm, q, N, bs, bm, sn, sub, ab, col, dd, m0, m1, m2, m3, m5, xL, hbm⟩, sa, eC, tC, kC⟩, ⟨ga, gg, eC, hC⟩, iC, tI, noc, nop, exm_own eC isC tC sC⟩, hT, PySem.W.mg_of X G aC, ok_init F0, b0, b1, v1⟩
end
end Gv
namespace Gv
open PySem

/-! ### calls with plain data -/
theorem reachF_nil (st : Sto) (acc : List Nat) : ∀ k, reachF st k [] acc = acc
  | 0 => rfl
  | _ + 1 => rfl
mutual
theorem ren_data (f : Nat → Nat) : ∀ d : D, d.objs = [] → d.ren f = d
  | .non, _ => rfl
  | .bl _, _ => rfl
  | .int _, _ => rfl
  | .str _, _ => rfl
  | .tup xs, h => by rw [D.ren, renL_data f xs (by simpa [D.objs] using h)]
  | .obj i, h => by simp [D.objs] at h
theorem renL_data (f : Nat → Nat) : ∀ ds : List D, objsL ds = [] → renL f ds = ds
  | [], _ => rfl
  | d :: ds, h => by
    simp only [objsL, List.append_eq_nil_iff] at h
    rw [renL, ren_data f d h.1, renL_data f ds h.2]
end
theorem wrB_none (N : Nat) : ∀ (i : Nat) (st : Sto), wrB [] N [] i st = st
  | _, [] => rfl
  | i, o :: st => by rw [wrB, wrB_none N (i + 1) st]; rfl
theorem callX_data {f : FnD} {xs : List D} {x : D} (h : f xs [] = .ok x []) (hx : objsL xs = []) (hr : x.objs = []) (st : Sto) : callX f xs st = .ok x st := by
  unfold callX
  rw [hx, reachF_nil]
  have e : (closB st [] && mutB st [] && subB [] []) = true := rfl
  rw [if_pos e, renL_data _ xs hx, show Gv.sel st [] = [] from rfl, h]
  show Re.ok (x.ren _) (merge st [] []) = _
  rw [ren_data _ x hr]
  unfold merge
  rw [wrB_none]
  simp
theorem callX_er {f : FnD} {xs : List D} {e : Ex} (h : f xs [] = .er e []) (hx : objsL xs = []) (h1 : e.code.objs = []) (h2 : e.place.objs = []) (st : Sto) : callX f xs st = .er e st := by
  unfold callX
  rw [hx, reachF_nil]
  have e1 : (closB st [] && mutB st [] && subB [] []) = true := rfl
  rw [if_pos e1, renL_data _ xs hx, show Gv.sel st [] = [] from rfl, h]
  show Re.er ⟨e.cls, e.code.ren _, e.place.ren _⟩ (merge st [] []) = _
  rw [ren_data _ _ h1, ren_data _ _ h2]
  unfold merge
  rw [wrB_none]
  simp
/-- an answer that holds no object, from an empty store -/
theorem canon_data {x : D} {s : Sto} (h : x.objs = []) : canon 0 (.ok x s) = .ok x [] := by
  have e1 : objsL [x] = [] := by simp [objsL, h]
  have e2 : canR 0 s [x] = [] := by
    unfold canR
    rw [e1]
    simp [objsL, reachF_nil]
  have e3 : canOk 0 s [x] = true := by
    unfold canOk
    rw [e2, e1]
    rfl
  unfold canon
  dsimp only
  rw [if_pos e3, e2, ren_data _ x h]
  rfl
theorem canon_er {e : Ex} {s : Sto} (h1 : e.code.objs = []) (h2 : e.place.objs = []) : canon 0 (.er e s) = .er e [] := by
  have e1 : objsL [e.code, e.place] = [] := by simp [objsL, h1, h2]
  have e2 : canR 0 s [e.code, e.place] = [] := by
    unfold canR
    rw [e1]
    simp [objsL, reachF_nil]
  have e3 : canOk 0 s [e.code, e.place] = true := by
    unfold canOk
    rw [e2, e1]
    rfl
  unfold canon
  dsimp only
  rw [if_pos e3, e2, ren_data _ _ h1, ren_data _ _ h2]
  rfl
theorem objsL_ints (ns : List Int) : objsL (ns.map D.int) = [] := by
  induction ns with
  | nil => rfl
  | cons n ns ih => simp [objsL, D.objs, ih]
theorem renL_ints (f : Nat → Nat) (ns : List Int) : renL f (ns.map D.int) = ns.map D.int := renL_data f _ (objsL_ints ns)

/-! ### draws -/
def b_begin : FnD := dFc 3 1 (sSeq (sSet 1 (dC (.int 7))) (sSeq (sFor (iSeq (dV 0)) (uN 2) (sSet 1 (dOp fMod (dOp fAdd (dOp fAdd (dOp fMul (dV 1) (dC (.int 16807))) (dOp fMod (dCB fInt1 (dCons (dV 2) dNil)) (dC (.int 2147483629)))) (dC (.int 5))) (dC (.int 2147483647))))) (sRet (dLst (dCons (dCB fList (dCons (dV 0) dNil)) (dCons (dC (.int 0)) (dCons (dC (.int 0)) (dCons (dV 1) dNil))))))))
def b_take : FnD := dFc 4 2 (sSeq (sIf (bAnd (bCmp fEq (dOp fIx (dV 0) (dC (.int 2))) (dC (.int 0))) (bCmp fLt (dOp fIx (dV 0) (dC (.int 1))) (dCB fLen (dCons (dOp fIx (dV 0) (dC (.int 0))) dNil)))) (sSeq (sSub (dV 0) (dC (.int 2)) (dCB fAbs (dCons (dCB fInt1 (dCons (dOp fIx (dOp fIx (dV 0) (dC (.int 0))) (dOp fIx (dV 0) (dC (.int 1)))) dNil)) dNil))) (sSeq (sSub (dV 0) (dC (.int 1)) (dOp fAdd (dOp fIx (dV 0) (dC (.int 1))) (dC (.int 1)))) (sIf (bCmp fLt (dOp fIx (dV 0) (dC (.int 2))) (dOp fPow (dC (.int 10)) (dC (.int 18)))) (sSeq (sSet 2 (dCB fInt1 (dCons (dOp fIx (dV 0) (dC (.int 2))) dNil))) (sSeq (sSub (dV 0) (dC (.int 2)) (dC (.int 0))) (sRet (dOp fMod (dV 2) (dV 1))))) sSkip))) sSkip) (sSeq (sIf (bCmp fGt (dOp fIx (dV 0) (dC (.int 2))) (dC (.int 0))) (sSeq (sSet 3 (dOp fMod (dCB fInt1 (dCons (dOp fIx (dV 0) (dC (.int 2))) dNil)) (dV 1))) (sSeq (sSub (dV 0) (dC (.int 2)) (dOp fDiv (dCB fInt1 (dCons (dOp fIx (dV 0) (dC (.int 2))) dNil)) (dV 1))) (sRet (dV 3)))) sSkip) (sSeq (sSub (dV 0) (dC (.int 3)) (dOp fMod (dCB fInt1 (dCons (dOp fAdd (dOp fMul (dOp fIx (dV 0) (dC (.int 3))) (dC (.int 48271))) (dC (.int 17))) dNil)) (dC (.int 2147483647)))) (sRet (dOp fMod (dCB fInt1 (dCons (dOp fDiv (dOp fIx (dV 0) (dC (.int 3))) (dC (.int 11))) dNil)) (dV 1))))))
/-- the drawer at i: its list at j -/
structure DS (st : Sto) (i j : Nat) : Prop where
  ex : ∃ (p : Nat) (g s : Int) (cells : List Int), i ≠ j ∧ st[i]? = some (.lst [.obj j, .int p, .int g, .int s]) ∧ st[j]? = some (.lst (cells.map .int))
def mini (p : Nat) (g s : Int) (cells : List Int) : Sto := [.lst [.obj 1, .int p, .int g, .int s], .lst (cells.map .int)]
theorem idx_pair {i j : Nat} (h : i ≠ j) : idx [i, j] i = 0 ∧ idx [i, j] j = 1 := by
  have h1 : (i == j) = false := by simpa using h
  have h2 : (j == i) = false := by simpa using h.symm
  constructor
  · simp [idx, List.idxOf, List.findIdx, List.findIdx.go]
  · simp [idx, List.idxOf, List.findIdx, List.findIdx.go, h1]
theorem canon_mini (r : Int) (p : Nat) (g s : Int) (cells : List Int) : canon 2 (.ok (.int r) (mini p g s cells)) = .ok (.int r) (mini p g s cells) := by
  have e2 : canR 2 (mini p g s cells) [.int r] = [0, 1] := by
    unfold canR
    show reachF _ 1000000 (objsL [D.int r] ++ objsL ((List.take 2 (mini p g s cells)).map Ob.vals).flatten) [0, 1] = _
    have : objsL [D.int r] ++ objsL ((List.take 2 (mini p g s cells)).map Ob.vals).flatten = [1] := by
      simp [mini, Ob.vals, objsL, D.objs, objsL_ints]
    rw [this]
    show reachF _ (999999 + 1) [1] [0, 1] = _
    rw [reachF]
    simp [reachF_nil]
  have e3 : canOk 2 (mini p g s cells) [.int r] = true := by
    unfold canOk
    rw [e2]
    simp [closB, nodB, mini, Ob.objs, Ob.vals, subB, objsL, D.objs, objsL_ints]
  unfold canon
  dsimp only
  rw [if_pos e3, e2]
  simp [sel, mini, nthO, Ob.ren, renL, D.ren, renL_ints, (idx_pair (show (0 : Nat) ≠ 1 by decide)).2]
def tk0 : SD := (sIf (bAnd (bCmp fEq (dOp fIx (dV 0) (dC (.int 2))) (dC (.int 0))) (bCmp fLt (dOp fIx (dV 0) (dC (.int 1))) (dCB fLen (dCons (dOp fIx (dV 0) (dC (.int 0))) dNil)))) (sSeq (sSub (dV 0) (dC (.int 2)) (dCB fAbs (dCons (dCB fInt1 (dCons (dOp fIx (dOp fIx (dV 0) (dC (.int 0))) (dOp fIx (dV 0) (dC (.int 1)))) dNil)) dNil))) (sSeq (sSub (dV 0) (dC (.int 1)) (dOp fAdd (dOp fIx (dV 0) (dC (.int 1))) (dC (.int 1)))) (sIf (bCmp fLt (dOp fIx (dV 0) (dC (.int 2))) (dOp fPow (dC (.int 10)) (dC (.int 18)))) (sSeq (sSet 2 (dCB fInt1 (dCons (dOp fIx (dV 0) (dC (.int 2))) dNil))) (sSeq (sSub (dV 0) (dC (.int 2)) (dC (.int 0))) (sRet (dOp fMod (dV 2) (dV 1))))) sSkip))) sSkip)
def tk1 : SD := (sSeq (sIf (bCmp fGt (dOp fIx (dV 0) (dC (.int 2))) (dC (.int 0))) (sSeq (sSet 3 (dOp fMod (dCB fInt1 (dCons (dOp fIx (dV 0) (dC (.int 2))) dNil)) (dV 1))) (sSeq (sSub (dV 0) (dC (.int 2)) (dOp fDiv (dCB fInt1 (dCons (dOp fIx (dV 0) (dC (.int 2))) dNil)) (dV 1))) (sRet (dV 3)))) sSkip) (sSeq (sSub (dV 0) (dC (.int 3)) (dOp fMod (dCB fInt1 (dCons (dOp fAdd (dOp fMul (dOp fIx (dV 0) (dC (.int 3))) (dC (.int 48271))) (dC (.int 17))) dNil)) (dC (.int 2147483647)))) (sRet (dOp fMod (dCB fInt1 (dCons (dOp fDiv (dOp fIx (dV 0) (dC (.int 3))) (dC (.int 11))) dNil)) (dV 1)))))
def take_raw : FnD := dFn 4 2 (sSeq tk0 tk1)
theorem cmul_r (i : Int) : cMul i 48271 = true := by simp [cMul]
theorem cpow18 : cPow 10 18 = true := by decide +kernel
theorem tail_raw {m : Int} (hm : 0 < m) (hm2 : m < 1073741824) (p : Nat) (g s : Int) (cells : List Int) (x : Option D) :
    ∃ r p' g' s', tk1 [some (.obj 0), some (.int m), x, none] (mini p g s cells) = .rt (.int r) (mini p' g' s' cells) ∧ 0 ≤ r ∧ r < m := by
  have hm3 : m ≠ 0 := by omega
  by_cases h1 : 0 < g
  · refine ⟨g % m, p, g / m, s, ?_, Int.emod_nonneg _ hm3, Int.emod_lt_of_pos _ hm⟩
    simp [dFn, sSeq, sIf, sSub, sSet, sRet, sRetN, sEx, sSkip, sUn, sPar, sPar3, sBrk, sCt, uN, uT2, uT3, uT4, bAnd, bOr, bNot, bCmp, bChain, bTru, bYes, truD, dAnd, dOr, dNot, dOp, dUn, dV, dC, dCB, dCons, dNil, dTup, dLst, dIf, dChain, dNewK, dNewT, dM, isL, fIx, fInt1, fIntC, fInt, fLt, fLe, fGt, fGe, fSub, fDiv, fMod, fMul, fAdd, fXor, fAnd, fOr, fShl, fShr, fPow, fNeg, fEq, fNe, fAbs, fLen, fMax2, fMin2, fAppend, fExtend, fPop, setV, tk1, mini, L2.atI, L2.ixN, h1, hm, hm2]
  · refine ⟨((s * 48271 + 17) % 2147483647 / 11) % m, p, g, (s * 48271 + 17) % 2147483647, ?_, Int.emod_nonneg _ hm3, Int.emod_lt_of_pos _ hm⟩
    simp [dFn, sSeq, sIf, sSub, sSet, sRet, sRetN, sEx, sSkip, sUn, sPar, sPar3, sBrk, sCt, uN, uT2, uT3, uT4, bAnd, bOr, bNot, bCmp, bChain, bTru, bYes, truD, dAnd, dOr, dNot, dOp, dUn, dV, dC, dCB, dCons, dNil, dTup, dLst, dIf, dChain, dNewK, dNewT, dM, isL, fIx, fInt1, fIntC, fInt, fLt, fLe, fGt, fGe, fSub, fDiv, fMod, fMul, fAdd, fXor, fAnd, fOr, fShl, fShr, fPow, fNeg, fEq, fNe, fAbs, fLen, fMax2, fMin2, fAppend, fExtend, fPop, setV, tk1, cmul_r, mini, L2.atI, L2.ixN, h1, hm, hm2]
theorem raw_of {m : Int} {p p' : Nat} {g s g' s' : Int} {cells : List Int} (hm : 0 < m) (hm2 : m < 1073741824) (e : tk0 [some (.obj 0), some (.int m), none, none] (mini p g s cells) = .nx [some (.obj 0), some (.int m), none, none] (mini p' g' s' cells)) :
    ∃ r p' g' s', take_raw [.obj 0, .int m] (mini p g s cells) = .ok (.int r) (mini p' g' s' cells) ∧ 0 ≤ r ∧ r < m := by
  obtain ⟨r, a, b, c, e2, q⟩ := tail_raw hm hm2 p' g' s' cells none
  refine ⟨r, a, b, c, ?_, q⟩
  simp only [take_raw, dFn, List.length_cons, List.length_nil, if_true, List.map_cons, List.map_nil, List.cons_append, List.nil_append, List.replicate, sSeq, e, e2]
theorem take_run {m : Int} (hm : 0 < m) (hm2 : m < 1073741824) (p : Nat) (g s : Int) (cells : List Int) :
    ∃ r p' g' s', take_raw [.obj 0, .int m] (mini p g s cells) = .ok (.int r) (mini p' g' s' cells) ∧ 0 ≤ r ∧ r < m := by
  have hm3 : m ≠ 0 := by omega
  have ea : ∀ y : Int, (if y < 0 then D.int (-y) else D.int y) = D.int (if y < 0 then -y else y) := fun y => by split <;> rfl
  by_cases h1 : g = 0
  · subst h1
    by_cases h2 : p < cells.length
    · by_cases h3 : (if cells[p] < 0 then -cells[p] else cells[p]) < 1000000000000000000
      · refine ⟨(if cells[p] < 0 then -cells[p] else cells[p]) % m, p + 1, 0, s, ?_, Int.emod_nonneg _ hm3, Int.emod_lt_of_pos _ hm⟩
        simp [dFn, sSeq, sIf, sSub, sSet, sRet, sRetN, sEx, sSkip, sUn, sPar, sPar3, sBrk, sCt, uN, uT2, uT3, uT4, bAnd, bOr, bNot, bCmp, bChain, bTru, bYes, truD, dAnd, dOr, dNot, dOp, dUn, dV, dC, dCB, dCons, dNil, dTup, dLst, dIf, dChain, dNewK, dNewT, dM, isL, fIx, fInt1, fIntC, fInt, fLt, fLe, fGt, fGe, fSub, fDiv, fMod, fMul, fAdd, fXor, fAnd, fOr, fShl, fShr, fPow, fNeg, fEq, fNe, fAbs, fLen, fMax2, fMin2, fAppend, fExtend, fPop, setV, take_raw, tk0, mini, h2, hm, hm2, cpow18]
        simp [L2.atI, L2.ixN, h2, ea, h3, hm, hm3]
      · refine raw_of (p' := p + 1) (g' := if cells[p] < 0 then -cells[p] else cells[p]) (s' := s) hm hm2 ?_
        simp [dFn, sSeq, sIf, sSub, sSet, sRet, sRetN, sEx, sSkip, sUn, sPar, sPar3, sBrk, sCt, uN, uT2, uT3, uT4, bAnd, bOr, bNot, bCmp, bChain, bTru, bYes, truD, dAnd, dOr, dNot, dOp, dUn, dV, dC, dCB, dCons, dNil, dTup, dLst, dIf, dChain, dNewK, dNewT, dM, isL, fIx, fInt1, fIntC, fInt, fLt, fLe, fGt, fGe, fSub, fDiv, fMod, fMul, fAdd, fXor, fAnd, fOr, fShl, fShr, fPow, fNeg, fEq, fNe, fAbs, fLen, fMax2, fMin2, fAppend, fExtend, fPop, setV, tk0, mini, h2, hm, hm2, cpow18]
        simp [L2.atI, L2.ixN, h2, ea, h3, hm, hm3]
    · refine raw_of (p' := p) (g' := 0) (s' := s) hm hm2 ?_
      simp [dFn, sSeq, sIf, sSub, sSet, sRet, sRetN, sEx, sSkip, sUn, sPar, sPar3, sBrk, sCt, uN, uT2, uT3, uT4, bAnd, bOr, bNot, bCmp, bChain, bTru, bYes, truD, dAnd, dOr, dNot, dOp, dUn, dV, dC, dCB, dCons, dNil, dTup, dLst, dIf, dChain, dNewK, dNewT, dM, isL, fIx, fInt1, fIntC, fInt, fLt, fLe, fGt, fGe, fSub, fDiv, fMod, fMul, fAdd, fXor, fAnd, fOr, fShl, fShr, fPow, fNeg, fEq, fNe, fAbs, fLen, fMax2, fMin2, fAppend, fExtend, fPop, setV, tk0, mini, h2, hm, hm2, cpow18, L2.atI, L2.ixN]
  · refine raw_of (p' := p) (g' := g) (s' := s) hm hm2 ?_
    simp [dFn, sSeq, sIf, sSub, sSet, sRet, sRetN, sEx, sSkip, sUn, sPar, sPar3, sBrk, sCt, uN, uT2, uT3, uT4, bAnd, bOr, bNot, bCmp, bChain, bTru, bYes, truD, dAnd, dOr, dNot, dOp, dUn, dV, dC, dCB, dCons, dNil, dTup, dLst, dIf, dChain, dNewK, dNewT, dM, isL, fIx, fInt1, fIntC, fInt, fLt, fLe, fGt, fGe, fSub, fDiv, fMod, fMul, fAdd, fXor, fAnd, fOr, fShl, fShr, fPow, fNeg, fEq, fNe, fAbs, fLen, fMax2, fMin2, fAppend, fExtend, fPop, setV, tk0, mini, h1, L2.atI, L2.ixN]
theorem take_cl {m : Int} (hm : 0 < m) (hm2 : m < 1073741824) (p : Nat) (g s : Int) (cells : List Int) :
    ∃ r p' g' s', b_take [.obj 0, .int m] (mini p g s cells) = .ok (.int r) (mini p' g' s' cells) ∧ 0 ≤ r ∧ r < m := by
  obtain ⟨r, p', g', s', e, q⟩ := take_run hm hm2 p g s cells
  refine ⟨r, p', g', s', ?_, q⟩
  show canon 2 (take_raw _ _) = _
  rw [e, canon_mini]
theorem reach_ds {st : Sto} {i j p : Nat} {g s : Int} {cells : List Int} (hij : i ≠ j) (h1 : st[i]? = some (.lst [.obj j, .int p, .int g, .int s])) (h2 : st[j]? = some (.lst (cells.map .int))) : reachF st 1000000 [i] [] = [i, j] := by
  show reachF st (999998 + 1 + 1) [i] [] = _
  rw [reachF]
  simp only [List.contains_nil, Bool.false_eq_true, if_false, h1, Ob.objs, Ob.vals, objsL, D.objs, List.nil_append, List.append_nil, List.cons_append]
  rw [reachF]
  have hji : ([i].contains j) = false := by simp; omega
  simp only [hji, Bool.false_eq_true, if_false, h2, Ob.objs, Ob.vals, objsL_ints, List.nil_append]
  exact reachF_nil _ _ _
theorem merge2 {st : Sto} {i j : Nat} {o1 o2 : Ob} (hij : i ≠ j) (hi : i < st.length) (hj : j < st.length) : merge st [o1, o2] [i, j] = (st.set i (o1.ren (upI st.length [i, j]))).set j (o2.ren (upI st.length [i, j])) := by
  unfold merge
  simp only [List.length_cons, List.length_nil, List.drop_succ_cons, List.drop_zero, List.map_nil, List.append_nil]
  apply List.ext_getElem?
  intro k
  rw [wrB_get, Nat.zero_add]
  by_cases hk : j = k
  · subst hk
    rw [List.getElem?_set_self (by rw [List.length_set]; exact hj), List.getElem?_eq_getElem hj]
    simp [nthO, (idx_pair hij).2]
  · rw [List.getElem?_set_ne hk]
    by_cases hk2 : i = k
    · subst hk2
      rw [List.getElem?_set_self hi, List.getElem?_eq_getElem hi]
      simp [nthO, (idx_pair hij).1]
    · rw [List.getElem?_set_ne hk2]
      have : ([i, j].contains k) = false := by simp; omega
      rw [this]
      cases st[k]? <;> rfl
/-- A DRAW: any number below m; the drawer alone is written -/
theorem draw {st : Sto} {i j : Nat} {m : Int} (h : DS st i j) (hm : 0 < m) (hm2 : m < 1073741824) : ∃ r o, callX b_take [.obj i, .int m] st = .ok (.int r) (st.set i o) ∧ 0 ≤ r ∧ r < m ∧ DS (st.set i o) i j := by
  obtain ⟨p, g, s, cells, hij, h1, h2⟩ := h.ex
  have hi := (List.getElem?_eq_some_iff.mp h1).1
  have hj := (List.getElem?_eq_some_iff.mp h2).1
  obtain ⟨r, p', g', s', e, q1, q2⟩ := take_cl hm hm2 p g s cells
  refine ⟨r, .lst [.obj j, .int p', .int g', .int s'], ?_, q1, q2, ⟨p', g', s', cells, hij, List.getElem?_set_self hi, by rw [List.getElem?_set_ne hij]; exact h2⟩⟩
  unfold callX
  have eR : objsL [.obj i, .int m] = [i] := rfl
  rw [eR, reach_ds hij h1 h2]
  dsimp only
  have hd := idx_pair hij
  have hji : (i == j) = false := by simpa using hij
  have c1 : (closB st [i, j] && mutB st [i, j] && subB [i] [i, j]) = true := by
    simp [closB, nodB, mutB, subB, h1, h2, Ob.objs, Ob.vals, objsL, D.objs, objsL_ints, Ob.muB, hji, hij]
  have c2 : Gv.sel st [i, j] = mini p g s cells := by
    simp [Gv.sel, nthO, h1, h2, Ob.ren, renL, D.ren, renL_ints, hd.2, mini]
  have c3 : renL (idx [i, j]) [.obj i, .int m] = [.obj 0, .int m] := by
    simp [renL, D.ren, hd.1]
  rw [if_pos c1, c2, c3, e]
  dsimp only
  rw [show mini p' g' s' cells = [.lst [.obj 1, .int p', .int g', .int s'], .lst (cells.map .int)] from rfl, merge2 hij hi hj]
  have e3 : (Ob.lst (cells.map D.int)).ren (upI st.length [i, j]) = .lst (cells.map .int) := by simp [Ob.ren, renL_ints]
  have e4 : (Ob.lst [.obj 1, .int p', .int g', .int s']).ren (upI st.length [i, j]) = .lst [.obj j, .int p', .int g', .int s'] := by simp [Ob.ren, renL, D.ren, upI]
  rw [e3, e4]
  congr 1
  apply List.ext_getElem?
  intro k
  by_cases hk : j = k
  · subst hk
    rw [List.getElem?_set_self (by rw [List.length_set]; exact hj), List.getElem?_set_ne hij, h2]
  · rw [List.getElem?_set_ne hk]
end Gv
namespace Gv
open PySem

/-! ### one behind another -/
theorem seq_nx {a b : SD} {en en' : En} {st st' : Sto} {r : Rs} (h : a en st = .nx en' st') (h2 : b en' st' = r) : sSeq a b en st = r := by
  unfold sSeq
  rw [h]
  exact h2
theorem seq_rt {a b : SD} {en : En} {st st' : Sto} {d : D} (h : a en st = .rt d st') : sSeq a b en st = .rt d st' := by
  unfold sSeq
  rw [h]
theorem fn_rt {n ar : Nat} {body : SD} {ds : List D} {st s : Sto} {d : D} (hl : ds.length = ar) (h : body (ds.map some ++ List.replicate (n - ar) none) st = .rt d s) : dFn n ar body ds st = .ok d s := by
  unfold dFn
  rw [if_pos hl, h]
theorem fn_nx {n ar : Nat} {body : SD} {ds : List D} {st s : Sto} {en : En} (hl : ds.length = ar) (h : body (ds.map some ++ List.replicate (n - ar) none) st = .nx en s) : dFn n ar body ds st = .ok .non s := by
  unfold dFn
  rw [if_pos hl, h]
/-- a def of plain data -/
theorem data_rt {n ar : Nat} {body : SD} {ds : List D} {s : Sto} {d : D} (hl : ds.length = ar) (h : body (ds.map some ++ List.replicate (n - ar) none) [] = .rt d s) (hd : d.objs = []) : dFc n ar body ds [] = .ok d [] := by
  show canon 0 (dFn n ar body ds []) = _
  rw [fn_rt hl h]
  exact canon_data hd
/-! ### steps by rules (no unfolding of calls) -/
section
variable {en : En} {st s1 s2 s3 s4 : Sto} {a b c : ED} {as : AD} {ba bb : BD} {x y z : D} {xs : List D} {i : Nat} {f : F2} {g : FN} {T : FnD} {k k2 : Bool} {A B : SD} {r : Rs}
theorem v_op (h1 : a en st = .ok x s1) (h2 : b en s1 = .ok y s2) (h3 : f x y s2 = some (z, s3)) : dOp f a b en st = .ok z s3 := by simp only [dOp, h1, h2, h3, Re.bind_ok, Vr.re_some]
theorem v_nil : dNil en st = .ok [] st := rfl
theorem v_cons (h1 : a en st = .ok x s1) (h2 : as en s1 = .ok xs s2) : dCons a as en st = .ok (x :: xs) s2 := by simp only [dCons, h1, h2, Re.bind_ok]
theorem v_cb (h1 : as en st = .ok xs s1) (h2 : g xs s1 = some (z, s2)) : dCB g as en st = .ok z s2 := by simp only [dCB, h1, h2, Re.bind_ok, Vr.re_some]
theorem v_X (h1 : as en st = .ok xs s1) (h2 : callX T xs s1 = .ok z s2) : dX T as en st = .ok z s2 := by simp only [dX, h1, h2, Re.bind_ok]
theorem v_if (h1 : ba en st = .ok k s1) (h2 : (if k = true then a else b) en s1 = .ok z s2) : dIf ba a b en st = .ok z s2 := by
  cases k <;> simpa [dIf, h1] using h2
theorem v_and (h1 : a en st = .ok (.bl true) s1) (h2 : b en s1 = .ok z s2) : dAnd a b en st = .ok z s2 := by simp [dAnd, h1, h2]
theorem v_and0 (h1 : a en st = .ok (.bl false) s1) : dAnd a b en st = .ok (.bl false) s1 := by simp [dAnd, h1]
theorem t_cmp (h1 : a en st = .ok x s1) (h2 : b en s1 = .ok y s2) (h3 : f x y s2 = some (.bl k, s3)) : bCmp f a b en st = .ok k s3 := by simp only [bCmp, h1, h2, h3, Re.bind_ok]
theorem t_not (h1 : ba en st = .ok k s1) : bNot ba en st = .ok (!k) s1 := by simp only [bNot, h1, Re.bind_ok]
theorem t_tru (h1 : a en st = .ok x s1) (h2 : truD s1 x = some k) : bTru a en st = .ok k s1 := by simp only [bTru, h1, h2, Re.bind_ok]
theorem t_or0 (h1 : ba en st = .ok false s1) (h2 : bb en s1 = .ok k s2) : bOr ba bb en st = .ok k s2 := by simp [bOr, h1, h2]
theorem t_or1 (h1 : ba en st = .ok true s1) : bOr ba bb en st = .ok true s1 := by simp [bOr, h1]
theorem t_and1 (h1 : ba en st = .ok true s1) (h2 : bb en s1 = .ok k s2) : bAnd ba bb en st = .ok k s2 := by simp [bAnd, h1, h2]
theorem t_and0 (h1 : ba en st = .ok false s1) : bAnd ba bb en st = .ok false s1 := by simp [bAnd, h1]
theorem s_set (h : a en st = .ok x s1) : sSet i a en st = .nx (en.set i (some x)) s1 := by simp only [sSet, h, Re.toS_ok]
theorem s_un {u : UD} {en' : En} (h : a en st = .ok x s1) (hu : u x en = some en') : sUn u a en st = .nx en' s1 := by simp only [sUn, h, hu, Re.toS_ok]
theorem s_ret (h : a en st = .ok x s1) : sRet a en st = .rt x s1 := by simp only [sRet, h, Re.toS_ok]
theorem s_ex (h : a en st = .ok x s1) : sEx a en st = .nx en s1 := by simp only [sEx, h, Re.toS_ok]
theorem s_if1 (h : ba en st = .ok true s1) (h2 : A en s1 = r) : sIf ba A B en st = r := by simp only [sIf, h, Re.toS_ok, if_true, h2]
theorem s_if0 (h : ba en st = .ok false s1) (h2 : B en s1 = r) : sIf ba A B en st = r := by simp [sIf, h, h2]
theorem s_tryR {c : Nat} {f' : Ex → D} (h : A en st = .rt x s1) : sTry c i f' A en st = .rt x s1 := by
  unfold sTry
  rw [h]
theorem s_tryE {c : Nat} {f' : Ex → D} {en1 : En} {e : Ex} (h : A en st = .er e en1 s1) (hc : e.cls = c) (hi : i < en1.length) : sTry c i f' A en st = .rt (f' e) s1 := by
  unfold sTry
  rw [h]
  exact if_pos ⟨hc, hi⟩
theorem s_skip : sSkip en st = .nx en st := rfl
end
/-! ### loops -/
/-- what a turn of a loop may leave -/
def TurnR (P : En → Sto → Prop) (R : Rs → Prop) : Rs → Prop
  | .nx en st => P en st
  | .ct en st => P en st
  | .bk en st => R (.nx en st)
  | r => R r
theorem forL_rule {it : ItD} {u : UD} {body : SD} (P : Nat → En → Sto → Prop) (R : Rs → Prop)
    (hs : ∀ k d en st, it.items[k]? = some d → P k en st → it.ok k st = true ∧ ∃ en1 r, u d en = some en1 ∧ body en1 st = r ∧ TurnR (P (k + 1)) R r)
    (he : ∀ en st, P it.items.length en st → it.ok it.items.length st = true ∧ R (.nx en st)) :
    ∀ (n k : Nat) (en : En) (st : Sto), it.items.length - k = n → k ≤ it.items.length → P k en st → R (forL it u body k (it.items.drop k) en st) := by
  intro n
  induction n with
  | zero =>
    intro k en st hn hk h
    have e : k = it.items.length := by omega
    subst e
    obtain ⟨ok, r⟩ := he en st h
    rw [List.drop_length, forL, if_pos ok]
    exact r
  | succ n ih =>
    intro k en st hn hk h
    have hlt : k < it.items.length := by omega
    obtain ⟨ok, en1, r, hu, eb, hb⟩ := hs k _ en st (List.getElem?_eq_getElem hlt) h
    rw [List.drop_eq_getElem_cons hlt, forL, if_pos ok, hu]
    dsimp only
    rw [eb]
    cases r with
    | nx en2 st2 => exact ih (k + 1) en2 st2 (by omega) hlt hb
    | ct en2 st2 => exact ih (k + 1) en2 st2 (by omega) hlt hb
    | bk en2 st2 => exact hb
    | rt d s => exact hb
    | er x e s => exact hb
    | no => exact hb
theorem sFor_rule {i : ID} {u : UD} {body : SD} {en : En} {st s1 : Sto} {it : ItD} (hi : i en st = .ok it s1) (P : Nat → En → Sto → Prop) (R : Rs → Prop) (h0 : P 0 en s1)
    (hs : ∀ k d en st, it.items[k]? = some d → P k en st → it.ok k st = true ∧ ∃ en1 r, u d en = some en1 ∧ body en1 st = r ∧ TurnR (P (k + 1)) R r)
    (he : ∀ en st, P it.items.length en st → it.ok it.items.length st = true ∧ R (.nx en st)) : R (sFor i u body en st) := by
  unfold sFor
  rw [hi]
  exact forL_rule P R hs he _ 0 en s1 rfl (Nat.zero_le _) h0
theorem whileF_rule {c : BD} {body : SD} (P : Nat → En → Sto → Prop) (R : Rs → Prop)
    (hs : ∀ m en st, P m en st → ∃ b s1, c en st = .ok b s1 ∧ (b = false → R (.nx en s1)) ∧ (b = true → ∃ r, body en s1 = r ∧ TurnR (fun en2 st2 => ∃ m', m' < m ∧ P m' en2 st2) R r)) :
    ∀ (n m : Nat) (en : En) (st : Sto), m < n → P m en st → R (whileF c body n en st) := by
  intro n
  induction n with
  | zero => intro m en st h; omega
  | succ n ih =>
    intro m en st h hp
    obtain ⟨b, s1, hc, h0, h1⟩ := hs m en st hp
    rw [whileF, hc]
    cases b with
    | false => exact h0 rfl
    | true =>
      obtain ⟨r, eb, h1⟩ := h1 rfl
      simp only [Re.toS_ok, ↓reduceIte, eb]
      cases r with
      | nx en2 st2 => obtain ⟨m', hm, hp⟩ := h1; exact ih m' en2 st2 (by omega) hp
      | ct en2 st2 => obtain ⟨m', hm, hp⟩ := h1; exact ih m' en2 st2 (by omega) hp
      | bk en2 st2 => exact h1
      | rt d s => exact h1
      | er x e s => exact h1
      | no => exact h1
theorem sWhile_rule {c : BD} {body : SD} {en : En} {st : Sto} (P : Nat → En → Sto → Prop) (R : Rs → Prop) (m : Nat) (hm : m < 1000000) (h0 : P m en st)
    (hs : ∀ m en st, P m en st → ∃ b s1, c en st = .ok b s1 ∧ (b = false → R (.nx en s1)) ∧ (b = true → ∃ r, body en s1 = r ∧ TurnR (fun en2 st2 => ∃ m', m' < m ∧ P m' en2 st2) R r)) : R (sWhile c body en st) := whileF_rule P R hs _ m en st hm h0

/-! ### comprehensions -/
theorem compL_rule {it : ItD} {u : UD} {c : BD} {elt : ED} {en : En} {n : Nat} (P : Nat → List D → Sto → Prop)
    (hs : ∀ k d acc s, it.items[k]? = some d → s[n]? = some (.lst acc) → P k acc s → it.ok k s = true ∧ ∃ en1, u d en = some en1 ∧ ∃ b s2, c en1 s = .ok b s2 ∧
      (b = false → s2[n]? = some (.lst acc) ∧ P (k + 1) acc s2) ∧ (b = true → ∃ y s3, elt en1 s2 = .ok y s3 ∧ s3[n]? = some (.lst acc) ∧ acc.length < 16777216 ∧ P (k + 1) (acc ++ [y]) (s3.set n (.lst (acc ++ [y])))))
    (he : ∀ acc s, s[n]? = some (.lst acc) → P it.items.length acc s → it.ok it.items.length s = true) :
    ∀ (m k : Nat) (acc : List D) (s : Sto), it.items.length - k = m → k ≤ it.items.length → s[n]? = some (.lst acc) → P k acc s → ∃ acc' s', compL it u c elt en n k (it.items.drop k) s = .ok () s' ∧ s'[n]? = some (.lst acc') ∧ P it.items.length acc' s' := by
  intro m
  induction m with
  | zero =>
    intro k acc s hm hk hn h
    have e : k = it.items.length := by omega
    subst e
    refine ⟨acc, s, ?_, hn, h⟩
    rw [List.drop_length, compL, if_pos (he acc s hn h)]
  | succ m ih =>
    intro k acc s hm hk hn h
    have hlt : k < it.items.length := by omega
    obtain ⟨ok, en1, hu, b, s2, hc, h0, h1⟩ := hs k _ acc s (List.getElem?_eq_getElem hlt) hn h
    rw [List.drop_eq_getElem_cons hlt, compL, if_pos ok, hu]
    dsimp only
    rw [hc]
    cases b with
    | false =>
      obtain ⟨a1, a2⟩ := h0 rfl
      exact ih (k + 1) acc s2 (by omega) hlt a1 a2
    | true =>
      obtain ⟨y, s3, a1, a2, a3, a4⟩ := h1 rfl
      have hl : n < s3.length := (List.getElem?_eq_some_iff.mp a2).1
      simp only [Re.bind_ok, ↓reduceIte, a1, a2, if_pos a3]
      exact ih (k + 1) (acc ++ [y]) _ (by omega) hlt (List.getElem?_set_self hl) a4
theorem dLC_rule {own : List Nat} {i : ID} {u : UD} {c : BD} {elt : ED} {en : En} {st s1 : Sto} {it : ItD} (hi : i en st = .ok it s1) (P : Nat → List D → Sto → Prop) (h0 : P 0 [] (s1 ++ [.lst []]))
    (hs : ∀ k d acc s, it.items[k]? = some d → s[s1.length]? = some (.lst acc) → P k acc s → it.ok k s = true ∧ ∃ en1, u d (wipeE en own) = some en1 ∧ ∃ b s2, c en1 s = .ok b s2 ∧
      (b = false → s2[s1.length]? = some (.lst acc) ∧ P (k + 1) acc s2) ∧ (b = true → ∃ y s3, elt en1 s2 = .ok y s3 ∧ s3[s1.length]? = some (.lst acc) ∧ acc.length < 16777216 ∧ P (k + 1) (acc ++ [y]) (s3.set s1.length (.lst (acc ++ [y])))))
    (he : ∀ acc s, s[s1.length]? = some (.lst acc) → P it.items.length acc s → it.ok it.items.length s = true) :
    ∃ acc s, dLC own i u c elt en st = .ok (.obj s1.length) s ∧ s[s1.length]? = some (.lst acc) ∧ P it.items.length acc s := by
  obtain ⟨acc, s, e, h1, h2⟩ := compL_rule (u := u) (c := c) (elt := elt) (en := wipeE en own) (n := s1.length) P hs he _ 0 [] (s1 ++ [.lst []]) rfl (Nat.zero_le _) (by simp) h0
  refine ⟨acc, s, ?_, h1, h2⟩
  rw [List.drop_zero] at e
  simp only [dLC, hi, Re.bind, e, noEr]
/-- elements that leave the store as it is -/
theorem dLC_pure {own : List Nat} {i : ID} {u : UD} {c : BD} {elt : ED} {en : En} {st s1 : Sto} {it : ItD} (hi : i en st = .ok it s1) (f : Nat → Option D)
    (hs : ∀ k d acc, it.items[k]? = some d → it.ok k (s1 ++ [.lst acc]) = true ∧ ∃ en1, u d (wipeE en own) = some en1 ∧ match f k with
      | none => c en1 (s1 ++ [.lst acc]) = .ok false (s1 ++ [.lst acc])
      | some y => c en1 (s1 ++ [.lst acc]) = .ok true (s1 ++ [.lst acc]) ∧ elt en1 (s1 ++ [.lst acc]) = .ok y (s1 ++ [.lst acc]))
    (he : ∀ acc, it.ok it.items.length (s1 ++ [.lst acc]) = true) (hl : it.items.length < 16777216) : dLC own i u c elt en st = .ok (.obj s1.length) (s1 ++ [.lst ((List.range it.items.length).filterMap f)]) := by
  have len : ∀ k, ((List.range k).filterMap f).length ≤ k := fun k => Nat.le_trans (List.length_filterMap_le _ _) (by simp)
  obtain ⟨acc, s, e, h1, h2, h3⟩ := dLC_rule (own := own) (u := u) (c := c) (elt := elt) hi (fun k acc s => s = s1 ++ [.lst acc] ∧ acc = (List.range k).filterMap f ∧ k ≤ it.items.length) ⟨rfl, rfl, Nat.zero_le _⟩ (fun k d acc s hd hn ⟨e1, e2, hk⟩ => by
    subst e1
    obtain ⟨ok, en1, hu, h⟩ := hs k d acc hd
    have hk' : k < it.items.length := (List.getElem?_eq_some_iff.mp hd).1
    refine ⟨ok, en1, hu, ?_⟩
    cases ef : f k with
    | none =>
      rw [ef] at h
      refine ⟨false, _, h, fun _ => ⟨hn, rfl, ?_, hk'⟩, fun z => nomatch z⟩
      rw [List.range_succ, List.filterMap_append, ← e2]
      simp [ef]
    | some y =>
      rw [ef] at h
      refine ⟨true, _, h.1, (fun z => nomatch z), fun _ => ⟨y, _, h.2, hn, ?_, ?_, ?_, hk'⟩⟩
      · rw [e2]
        exact Nat.lt_of_le_of_lt (len k) (by omega)
      · rw [List.set_append_right _ _ (Nat.le_refl _), Nat.sub_self]
        rfl
      · rw [List.range_succ, List.filterMap_append, ← e2]
        simp [ef]) (fun acc s hn ⟨e1, _⟩ => by subst e1; exact he acc)
  rw [e, h2, h3.1]
/-- no test, elements that read no list that is made -/
theorem dLC_map {own : List Nat} {i : ID} {u : UD} {elt : ED} {en : En} {st s1 : Sto} {items : List D} (hi : i en st = .ok ⟨items, none⟩ s1) (f : Nat → D)
    (hs : ∀ k d s, items[k]? = some d → ∃ en1, u d (wipeE en own) = some en1 ∧ elt en1 s = .ok (f k) s) (hl : items.length < 16777216) : dLC own i u bYes elt en st = .ok (.obj s1.length) (s1 ++ [.lst ((List.range items.length).map f)]) := by
  have := dLC_pure (own := own) (u := u) (c := bYes) (elt := elt) hi (fun k => some (f k)) (fun k d acc hd => by
    obtain ⟨en1, h1, h2⟩ := hs k d (s1 ++ [.lst acc]) hd
    exact ⟨rfl, en1, h1, rfl, h2⟩) (fun _ => rfl) hl
  rw [this]
  simp
/-- the same over a list that stands -/
theorem dLC_maps {own : List Nat} {i : ID} {u : UD} {elt : ED} {en : En} {st s1 : Sto} {items : List D} {j : Nat} {o : Ob} (hi : i en st = .ok ⟨items, some (j, items)⟩ s1) (hj : s1[j]? = some o) (ho : o.seq = some items) (f : Nat → D)
    (hs : ∀ k d acc, items[k]? = some d → ∃ en1, u d (wipeE en own) = some en1 ∧ elt en1 (s1 ++ [.lst acc]) = .ok (f k) (s1 ++ [.lst acc])) (hl : items.length < 16777216) : dLC own i u bYes elt en st = .ok (.obj s1.length) (s1 ++ [.lst ((List.range items.length).map f)]) := by
  have hg : ∀ acc, (s1 ++ [Ob.lst acc])[j]? = some o := fun acc => by
    rw [List.getElem?_append_left (List.getElem?_eq_some_iff.mp hj).1]
    exact hj
  have oks : ∀ k acc, ItD.ok ⟨items, some (j, items)⟩ k (s1 ++ [Ob.lst acc]) = true := fun k acc => by
    simp only [ItD.ok, hg, Option.bind_some, ho]
    cases items[k]? with
    | none => rfl
    | some x => exact beqD_self x
  have := dLC_pure (own := own) (u := u) (c := bYes) (elt := elt) hi (fun k => some (f k)) (fun k d acc hd => by
    obtain ⟨en1, h1, h2⟩ := hs k d acc hd
    exact ⟨oks k acc, en1, h1, rfl, h2⟩) (fun acc => oks _ acc) hl
  rw [this]
  simp
/-- what was made goes -/
theorem gc_app {x : D} {st ex : Sto} (h : x.cl st.length = true) : gcD st (.ok x (st ++ ex)) = .ok x st := by
  have e : (st ++ ex).take st.length = st := List.take_left' rfl
  simp only [gcD, gc, e, h, beqS_self, and_self, if_true]
/-- ranges of moderate numbers -/
theorem rg_lo {i : Int} (h : -1000000000 ≤ i) : -4611686018427387904 ≤ i := Int.le_trans (by decide) h
theorem rg_hi {i : Int} (h : i ≤ 1000000000) : i < 4611686018427387904 := Int.lt_of_le_of_lt h (by decide)
theorem iRg1_ok {a : AD} {en : En} {st s1 : Sto} {i : Int} (h : a en st = .ok [.int i] s1) (h1 : -1000000000 ≤ i) (h2 : i ≤ 1000000000) : iRg1 a en st = .ok ⟨rng 0 i.toNat, none⟩ s1 := by
  unfold iRg1
  rw [h]
  exact if_pos ⟨rg_lo h1, rg_hi h2⟩
theorem iRg1_n {a : AD} {en : En} {st s1 : Sto} {n : Nat} (h : a en st = .ok [.int n] s1) (h2 : n ≤ 1000000000) : iRg1 a en st = .ok ⟨rng 0 n, none⟩ s1 := by
  rw [iRg1_ok h (by omega) (by omega), Int.toNat_natCast]
theorem iRg2_ok {a : AD} {en : En} {st s1 : Sto} {i j : Int} (h : a en st = .ok [.int i, .int j] s1) (h1 : -1000000000 ≤ i) (h2 : i ≤ 1000000000) (h3 : -1000000000 ≤ j) (h4 : j ≤ 1000000000) : iRg2 a en st = .ok ⟨rng i (j - i).toNat, none⟩ s1 := by
  unfold iRg2
  rw [h]
  exact if_pos ⟨⟨rg_lo h1, rg_hi h2⟩, rg_lo h3, rg_hi h4⟩
/-- the items of a range -/
theorem rng_at {n : Nat} {lo : Int} {k : Nat} {d : D} (h : (rng lo n)[k]? = some d) : k < n ∧ d = .int (lo + k) := by
  have hk : k < n := by
    have := (List.getElem?_eq_some_iff.mp h).1
    rw [rng_len] at this
    exact this
  rw [rng_get n lo k hk] at h
  cases h
  exact ⟨hk, rfl⟩
theorem ok_none (items : List D) (k : Nat) (st : Sto) : ItD.ok ⟨items, none⟩ k st = true := rfl
theorem ok_seq {i : Nat} {xs items : List D} {o : Ob} {st : Sto} (h : st[i]? = some o) (e : o.seq = some xs) (k : Nat) : ItD.ok ⟨items, some (i, xs)⟩ k st = true := by
  simp only [ItD.ok, h, Option.bind_some, e]
  cases xs[k]? with
  | none => rfl
  | some x => exact beqD_self x

/-! ### the start -/
theorem begin_ok (ns : List Int) : ∃ s : Int, b_begin [.obj 0] [.fls (ns.map .int)] = .ok (.obj 1) [.fls (ns.map .int), .lst [.obj 2, .int 0, .int 0, .int s], .lst (ns.map .int)] := by
  have key : ∃ (s : Int) (x : Option D), sFor (iSeq (dV 0)) (uN 2) (sSet 1 (dOp fMod (dOp fAdd (dOp fAdd (dOp fMul (dV 1) (dC (.int 16807))) (dOp fMod (dCB fInt1 (dCons (dV 2) dNil)) (dC (.int 2147483629)))) (dC (.int 5))) (dC (.int 2147483647)))) [some (.obj 0), some (.int 7), none] [.fls (ns.map .int)] = .nx [some (.obj 0), some (.int s), x] [.fls (ns.map .int)] := by
    refine sFor_rule (it := ⟨ns.map .int, some (0, ns.map .int)⟩) (s1 := [.fls (ns.map .int)]) (by simp [iSeq, dV]) (fun _ en st => ∃ s x, en = [some (.obj 0), some (.int s), x] ∧ st = [.fls (ns.map .int)]) (fun r => ∃ s x, r = .nx [some (.obj 0), some (.int s), x] [.fls (ns.map .int)]) ⟨7, none, rfl, rfl⟩ ?_ ?_
    · rintro k d en st hd ⟨s, x, rfl, rfl⟩
      obtain ⟨c, hc⟩ : ∃ c : Int, d = .int c := by
        simp only [List.getElem?_map] at hd
        cases e : ns[k]? with
        | none => rw [e] at hd; cases hd
        | some c => rw [e] at hd; cases hd; exact ⟨c, rfl⟩
      subst hc
      have cm : cMul s 16807 = true := by simp [cMul]
      refine ⟨ok_seq (o := .fls (ns.map .int)) rfl rfl k, _, .nx [some (.obj 0), some (.int ((s * 16807 + c % 2147483629 + 5) % 2147483647)), some (.int c)] [.fls (ns.map .int)], rfl, ?_, ?_⟩
      · simp [dFn, sSeq, sIf, sSub, sSet, sRet, sRetN, sEx, sSkip, sUn, sPar, sPar3, sBrk, sCt, uN, uT2, uT3, uT4, bAnd, bOr, bNot, bCmp, bChain, bTru, bYes, truD, dAnd, dOr, dNot, dOp, dUn, dV, dC, dCB, dCons, dNil, dTup, dLst, dIf, dChain, dNewK, dNewT, dM, isL, fIx, fInt1, fIntC, fInt, fLt, fLe, fGt, fGe, fSub, fDiv, fMod, fMul, fAdd, fXor, fAnd, fOr, fShl, fShr, fPow, fNeg, fEq, fNe, fAbs, fLen, fMax2, fMin2, fAppend, fExtend, fPop, setV, cm]
      · exact ⟨_, _, rfl, rfl⟩
    · rintro en st ⟨s, x, rfl, rfl⟩
      exact ⟨ok_seq (o := .fls (ns.map .int)) rfl rfl _, s, x, rfl⟩
  obtain ⟨s, x, e⟩ := key
  refine ⟨s, ?_⟩
  show canon 1 (dFn 3 1 _ _ _) = _
  have e2 : dFn 3 1 (sSeq (sSet 1 (dC (.int 7))) (sSeq (sFor (iSeq (dV 0)) (uN 2) (sSet 1 (dOp fMod (dOp fAdd (dOp fAdd (dOp fMul (dV 1) (dC (.int 16807))) (dOp fMod (dCB fInt1 (dCons (dV 2) dNil)) (dC (.int 2147483629)))) (dC (.int 5))) (dC (.int 2147483647))))) (sRet (dLst (dCons (dCB fList (dCons (dV 0) dNil)) (dCons (dC (.int 0)) (dCons (dC (.int 0)) (dCons (dV 1) dNil)))))))) [.obj 0] [.fls (ns.map .int)] = .ok (.obj 2) [.fls (ns.map .int), .lst (ns.map .int), .lst [.obj 1, .int 0, .int 0, .int s]] := by
    have h1 : sSet 1 (dC (.int 7)) [some (.obj 0), none, none] [.fls (ns.map .int)] = .nx [some (.obj 0), some (.int 7), none] [.fls (ns.map .int)] := rfl
    have h2 : sRet (dLst (dCons (dCB fList (dCons (dV 0) dNil)) (dCons (dC (.int 0)) (dCons (dC (.int 0)) (dCons (dV 1) dNil))))) [some (.obj 0), some (.int s), x] [.fls (ns.map .int)] = .rt (.obj 2) [.fls (ns.map .int), .lst (ns.map .int), .lst [.obj 1, .int 0, .int 0, .int s]] := rfl
    simp only [dFn, List.length_cons, List.length_nil, if_true, List.map_cons, List.map_nil, List.cons_append, List.nil_append, List.replicate]
    simp only [sSeq, h1, e, h2]
  rw [e2]
  have e3 : canR 1 [.fls (ns.map .int), .lst (ns.map .int), .lst [.obj 1, .int 0, .int 0, .int s]] [.obj 2] = [0, 2, 1] := by
    unfold canR
    have : objsL [D.obj 2] ++ objsL ((List.take 1 [Ob.fls (ns.map D.int), .lst (ns.map .int), .lst [.obj 1, .int 0, .int 0, .int s]]).map Ob.vals).flatten = [2] := by
      simp [Ob.vals, objsL, D.objs, objsL_ints]
    rw [this]
    show reachF _ (999997 + 1 + 1 + 1) [2] [0] = _
    rw [reachF]
    simp only [List.contains_cons, List.contains_nil]
    simp [Ob.objs, Ob.vals, objsL, D.objs]
    rw [reachF]
    simp [Ob.objs, Ob.vals, objsL_ints, reachF_nil]
  unfold canon
  dsimp only
  rw [e3]
  have e4 : canOk 1 [.fls (ns.map .int), .lst (ns.map .int), .lst [.obj 1, .int 0, .int 0, .int s]] [.obj 2] = true := by
    unfold canOk
    rw [e3]
    simp [closB, nodB, Ob.objs, Ob.vals, subB, objsL, D.objs, objsL_ints]
  rw [if_pos e4]
  have i2 : idx [0, 2, 1] 2 = 1 := by decide +kernel
  have i1 : idx [0, 2, 1] 1 = 2 := by decide +kernel
  simp [Gv.sel, nthO, Ob.ren, renL, D.ren, renL_ints, i1, i2]
end Gv
namespace Gv
open PySem

/-! ### plain data: no bools, no objects -/
mutual
def D.pl : D → Bool
  | .non => true
  | .int _ => true
  | .str x => PyData.strOk x
  | .tup xs => plL xs
  | _ => false
def plL : List D → Bool
  | [] => true
  | x :: xs => x.pl && plL xs
end
mutual
def D.dp : D → Nat
  | .tup xs => dpL xs + 1
  | _ => 0
def dpL : List D → Nat
  | [] => 0
  | x :: xs => max x.dp (dpL xs)
end
mutual
theorem pd_pl : ∀ d : D, d.pl = true → ∃ p, pd d = some p ∧ p.canLay0 = true ∧ p.depth ≤ d.dp
  | .non, _ => ⟨_, rfl, by simp [PyData.canLay0], by simp [PyData.depth]⟩
  | .int i, _ => ⟨_, rfl, by simp [PyData.canLay0], by simp [PyData.depth]⟩
  | .str x, h => ⟨_, rfl, by simpa [PyData.canLay0, D.pl] using h, by simp [PyData.depth]⟩
  | .tup xs, h => by
    obtain ⟨ps, e, h1, h2⟩ := pds_pl xs (by simpa [D.pl] using h)
    exact ⟨.tuple ps, by simp [pd, e], by simpa [PyData.canLay0] using h1, by simp only [PyData.depth, D.dp]; omega⟩
  | .bl _, h => by simp [D.pl] at h
  | .obj _, h => by simp [D.pl] at h
theorem pds_pl : ∀ ds : List D, plL ds = true → ∃ ps, pds ds = some ps ∧ PyData.canLayAll0 ps = true ∧ PyData.depthAll ps ≤ dpL ds
  | [], _ => ⟨[], rfl, by simp [PyData.canLayAll0], by simp [PyData.depthAll]⟩
  | d :: ds, h => by
    simp only [plL, Bool.and_eq_true] at h
    obtain ⟨p, e, h1, h2⟩ := pd_pl d h.1
    obtain ⟨ps, e', h1', h2'⟩ := pds_pl ds h.2
    exact ⟨p :: ps, by simp [pds, e, e'], by simp [PyData.canLayAll0, h1, h1'], by simp only [PyData.depthAll, dpL]; omega⟩
end
mutual
theorem eqv_pl : ∀ (d e : D) (p q : PyData), d.pl = true → e.pl = true → pd d = some p → pd e = some q → PyData.eqv p q = beqD d e
  | .non, e, p, q, h, h', e1, e2 => by
    cases e1
    cases e <;> simp [D.pl] at h' <;> simp [pd] at e2
    · subst e2; simp [PyData.eqv, beqD]
    · subst e2; simp [PyData.eqv, beqD]
    · subst e2; simp [PyData.eqv, beqD]
    · obtain ⟨ps, _, rfl⟩ := e2; simp [PyData.eqv, beqD]
  | .int i, e, p, q, h, h', e1, e2 => by
    cases e1
    cases e <;> simp [D.pl] at h' <;> simp [pd] at e2
    · subst e2; simp [PyData.eqv, beqD]
    · subst e2; simp [PyData.eqv, beqD]
    · subst e2; simp [PyData.eqv, beqD]
    · obtain ⟨ps, _, rfl⟩ := e2; simp [PyData.eqv, beqD]
  | .str x, e, p, q, h, h', e1, e2 => by
    cases e1
    cases e <;> simp [D.pl] at h' <;> simp [pd] at e2
    · subst e2; simp [PyData.eqv, beqD]
    · subst e2; simp [PyData.eqv, beqD]
    · subst e2; rename_i y; simp only [PyData.eqv, beqD]; by_cases z : x = y <;> simp [z]
    · obtain ⟨ps, _, rfl⟩ := e2; simp [PyData.eqv, beqD]
  | .tup xs, e, p, q, h, h', e1, e2 => by
    simp only [pd] at e1
    cases ex : pds xs with
    | none => rw [ex] at e1; cases e1
    | some ps =>
      rw [ex] at e1
      cases e1
      cases e with
      | tup ys =>
        simp only [pd] at e2
        cases ey : pds ys with
        | none => rw [ey] at e2; cases e2
        | some qs =>
          rw [ey] at e2
          cases e2
          simp only [PyData.eqv, beqD]
          exact eqvs_pl xs ys ps qs (by simpa [D.pl] using h) (by simpa [D.pl] using h') ex ey
      | non => simp [pd] at e2; subst e2; simp [PyData.eqv, beqD]
      | int i => simp [pd] at e2; subst e2; simp [PyData.eqv, beqD]
      | str i => simp [pd] at e2; subst e2; simp [PyData.eqv, beqD]
      | bl i => simp [D.pl] at h'
      | obj i => simp [D.pl] at h'
  | .bl _, _, _, _, h, _, _, _ => by simp [D.pl] at h
  | .obj _, _, _, _, h, _, _, _ => by simp [D.pl] at h
theorem eqvs_pl : ∀ (ds es : List D) (ps qs : List PyData), plL ds = true → plL es = true → pds ds = some ps → pds es = some qs → PyData.eqvAll ps qs = beqDs ds es
  | [], es, ps, qs, h, h', e1, e2 => by
    cases e1
    cases es with
    | nil => cases e2; simp [PyData.eqvAll, beqDs]
    | cons e es =>
      simp only [pds] at e2
      split at e2
      · cases e2; simp [PyData.eqvAll, beqDs]
      · cases e2
  | d :: ds, es, ps, qs, h, h', e1, e2 => by
    simp only [plL, Bool.and_eq_true] at h
    simp only [pds] at e1
    split at e1
    · rename_i p pr ep epr
      cases e1
      cases es with
      | nil => cases e2; simp [PyData.eqvAll, beqDs]
      | cons e es =>
        simp only [plL, Bool.and_eq_true] at h'
        simp only [pds] at e2
        split at e2
        · rename_i q qr eq eqr
          cases e2
          simp only [PyData.eqvAll, beqDs, eqv_pl d e p q h.1 h'.1 ep eq, eqvs_pl ds es pr qr h.2 h'.2 epr eqr]
        · cases e2
    · cases e1
end
theorem shaped_pl {d : D} {p : PyData} (h : d.pl = true) (hd : d.dp ≤ 64) (e : pd d = some p) : SeqAt.shaped p = true := by
  obtain ⟨q, e', h1, h2⟩ := pd_pl d h
  rw [e] at e'
  cases e'
  simp only [SeqAt.shaped, Bool.and_eq_true, decide_eq_true_eq]
  exact ⟨h1, by omega⟩
theorem pdS_pl {d : D} (h : d.pl = true) (st : Sto) : pdS st d = pd d := by cases d <;> first | rfl | simp [D.pl] at h
theorem fEqD_pl {x y : D} (neg : Bool) (hx : x.pl = true) (hy : y.pl = true) (dx : x.dp ≤ 64) (dy : y.dp ≤ 64) (st : Sto) : fEqD neg x y st = some (.bl (if neg then !beqD x y else beqD x y), st) := by
  obtain ⟨p, ep, _⟩ := pd_pl x hx
  obtain ⟨q, eq, _⟩ := pd_pl y hy
  unfold fEqD
  rw [pdS_pl hx, pdS_pl hy, ep, eq]
  dsimp only
  rw [if_pos ⟨shaped_pl hx dx ep, shaped_pl hy dy eq⟩, eqv_pl x y p q hx hy ep eq]
theorem fEq_tup {xs ys : List D} (hx : plL xs = true) (hy : plL ys = true) (dx : dpL xs ≤ 63) (dy : dpL ys ≤ 63) (st : Sto) : fEq (.tup xs) (.tup ys) st = some (.bl (beqDs xs ys), st) := by
  have := fEqD_pl (x := .tup xs) (y := .tup ys) false (by simpa [D.pl] using hx) (by simpa [D.pl] using hy) (by simp [D.dp]; omega) (by simp [D.dp]; omega) st
  simpa [fEq, beqD] using this
theorem fNe_tup {xs ys : List D} (hx : plL xs = true) (hy : plL ys = true) (dx : dpL xs ≤ 63) (dy : dpL ys ≤ 63) (st : Sto) : fNe (.tup xs) (.tup ys) st = some (.bl (!beqDs xs ys), st) := by
  have := fEqD_pl (x := .tup xs) (y := .tup ys) true (by simpa [D.pl] using hx) (by simpa [D.pl] using hy) (by simp [D.dp]; omega) (by simp [D.dp]; omega) st
  simpa [fNe, beqD] using this
theorem any_pl : ∀ (xs : List D) (ps : List PyData) (x : D) (p : PyData), plL xs = true → x.pl = true → pds xs = some ps → pd x = some p → (ps.any fun z => PyData.eqv z p) = xs.any fun z => beqD z x
  | [], ps, x, p, _, _, e, _ => by cases e; rfl
  | d :: ds, ps, x, p, h, hx, e, ex => by
    simp only [plL, Bool.and_eq_true] at h
    simp only [pds] at e
    split at e
    · rename_i q qs eq eqs
      cases e
      simp only [List.any_cons, eqv_pl d x q p h.1 hx eq ex, any_pl ds qs x p h.2 hx eqs ex]
    · cases e
theorem fIn_seq {xs : List D} {x : D} (neg : Bool) (hx : x.pl = true) (hxs : plL xs = true) (dx : x.dp ≤ 64) (dxs : dpL xs ≤ 63) {k : Nat} {st : Sto} (e : st[k]? = some (.lst xs)) : fIn neg x (.obj k) st = some (.bl (if neg then !(xs.any fun z => beqD z x) else xs.any fun z => beqD z x), st) := by
  obtain ⟨p, ep, _⟩ := pd_pl x hx
  obtain ⟨ps, eps, h1, h2⟩ := pds_pl xs hxs
  have hs : SeqAt.shaped (.list ps) = true := by
    rw [SeqAt.shaped, Bool.and_eq_true]
    exact ⟨by simpa [PyData.canLay0] using h1, decide_eq_true (by rw [PyData.depth]; omega)⟩
  simp only [fIn, e, ep, eps, shaped_pl hx dx ep, hs, and_self, if_true, any_pl xs ps x p hxs hx eps ep]
theorem fIn_tup {xs : List D} {x : D} (neg : Bool) (hx : x.pl = true) (hxs : plL xs = true) (dx : x.dp ≤ 64) (dxs : dpL xs ≤ 63) (st : Sto) : fIn neg x (.tup xs) st = some (.bl (if neg then !(xs.any fun z => beqD z x) else xs.any fun z => beqD z x), st) := by
  obtain ⟨p, ep, _⟩ := pd_pl x hx
  obtain ⟨ps, eps, h1, h2⟩ := pds_pl xs hxs
  have hs : SeqAt.shaped (.list ps) = true := by
    rw [SeqAt.shaped, Bool.and_eq_true]
    exact ⟨by simpa [PyData.canLay0] using h1, decide_eq_true (by rw [PyData.depth]; omega)⟩
  simp only [fIn, ep, eps, shaped_pl hx dx ep, hs, and_self, if_true, any_pl xs ps x p hxs hx eps ep]
theorem plL_ints (ns : List Int) : plL (ns.map .int) = true := by
  induction ns with
  | nil => rfl
  | cons n ns ih => simp [plL, D.pl, ih]
theorem dpL_ints (ns : List Int) : dpL (ns.map .int) = 0 := by
  induction ns with
  | nil => rfl
  | cons n ns ih => simp [dpL, D.dp, ih]
theorem any_ints (ns : List Int) (x : Int) : ((ns.map D.int).any fun z => beqD z (.int x)) = ns.contains x := by
  induction ns with
  | nil => rfl
  | cons n ns ih =>
    rw [List.map_cons, List.any_cons, ih, List.contains_cons]
    have : beqD (.int n) (.int x) = (x == n) := by
      rw [beqD]
      exact BEq.comm
    rw [this]
theorem beqDs_ints (ns ms : List Int) : beqDs (ns.map .int) (ms.map .int) = decide (ns = ms) := by
  induction ns generalizing ms with
  | nil => cases ms <;> simp [beqDs]
  | cons n ns ih =>
    cases ms with
    | nil => simp [beqDs]
    | cons m ms => rw [Bool.eq_iff_iff]; simp [beqDs, beqD, ih]
theorem intsD_ints (ns : List Int) : intsD (ns.map .int) = some ns := by
  induction ns with
  | nil => rfl
  | cons n ns ih => simp [intsD, ih]
theorem blsD_bls (ns : List Bool) : blsD (ns.map .bl) = some ns := by
  induction ns with
  | nil => rfl
  | cons n ns ih => simp [blsD, ih]
/-! dicts -/
theorem find_map {κ : Type} [DecidableEq κ] (k k' : κ) (v : D) : ∀ kvs : List (κ × D), (kvs.any fun kv => decide (kv.1 = k)) = true → ((kvs.map fun kv => if kv.1 = k then (kv.1, v) else kv).find? fun kv => decide (kv.1 = k')).map (·.2) = if k' = k then some v else (kvs.find? fun kv => decide (kv.1 = k')).map (·.2)
  | [], h => by simp at h
  | (a, b) :: r, h => by
    by_cases ha : a = k
    · subst ha
      by_cases hk : a = k'
      · subst hk; simp
      · have hk' : ¬ k' = a := fun z => hk z.symm
        simp only [List.map_cons, if_true, List.find?_cons, hk, decide_false, if_neg hk']
        by_cases hr : (r.any fun kv => decide (kv.1 = a)) = true
        · rw [find_map a k' v r hr, if_neg hk']
        · have : (r.map fun kv => if kv.1 = a then (kv.1, v) else kv) = r := by
            conv => rhs; rw [← List.map_id r]
            apply List.map_congr_left
            intro x hx
            have : ¬ x.1 = a := fun z => hr (List.any_eq_true.mpr ⟨x, hx, by simpa using z⟩)
            simp [this]
          rw [this]
    · have hr : (r.any fun kv => decide (kv.1 = k)) = true := by simpa [ha] using h
      simp only [List.map_cons, if_neg ha, List.find?_cons]
      by_cases hk : a = k'
      · subst hk
        have : ¬ a = k := ha
        simp [this]
      · simp only [hk, decide_false]
        exact find_map k k' v r hr
theorem valD_put {κ : Type} [DecidableEq κ] (kvs : List (κ × D)) (k k' : κ) (v : D) : valD (putD kvs k v) k' = if k' = k then some v else valD kvs k' := by
  unfold putD
  by_cases h : (kvs.any fun kv => decide (kv.1 = k)) = true
  · rw [if_pos h]
    exact find_map k k' v kvs h
  · rw [if_neg h]
    unfold valD
    rw [List.find?_append]
    by_cases hk : k' = k
    · subst hk
      have : (kvs.find? fun kv => decide (kv.1 = k')) = none := List.find?_eq_none.mpr fun x hx => by
        intro z
        exact h (List.any_eq_true.mpr ⟨x, hx, z⟩)
      rw [this]
      simp
    · have hk' : ¬ k = k' := fun z => hk z.symm
      rw [if_neg hk]
      simp [hk']
theorem putD_len {κ : Type} [DecidableEq κ] (kvs : List (κ × D)) (k : κ) (v : D) : (putD kvs k v).length ≤ kvs.length + 1 := by
  unfold putD
  split
  · simp
  · simp
/-! ### lists that are made: their place does not matter -/
def LE (d : ED) (en : En) (st : Sto) (xs : List D) : Prop := ∃ n ex, d en st = .ok (.obj n) (st ++ ex) ∧ (st ++ ex)[n]? = some (.lst xs) ∧ st.length ≤ n
section
variable {a b : ED} {en : En} {st : Sto} {xs ys : List D}
theorem LE.of_eq (h : LE a en st xs) (e : xs = ys) : LE a en st ys := e ▸ h
theorem LE.add (h1 : LE a en st xs) (h2 : ∀ ex, LE b en (st ++ ex) ys) (hl : xs.length + ys.length ≤ 16777216) : LE (dOp fAdd a b) en st (xs ++ ys) := by
  obtain ⟨n, ex, e1, g1, _⟩ := h1
  obtain ⟨m, ex2, e2, g2, _⟩ := h2 ex
  have g1' : (st ++ ex ++ ex2)[n]? = some (.lst xs) := by
    rw [List.getElem?_append_left (List.getElem?_eq_some_iff.mp g1).1]
    exact g1
  refine ⟨(st ++ ex ++ ex2).length, ex ++ ex2 ++ [.lst (xs ++ ys)], ?_, ?_, by simp only [List.length_append]; omega⟩
  · simp only [dOp, e1, e2, Re.bind_ok, fAdd, g1', g2, if_pos hl, Vr.re_some]
    rw [show st ++ (ex ++ ex2 ++ [Ob.lst (xs ++ ys)]) = (st ++ ex ++ ex2) ++ [.lst (xs ++ ys)] by simp]
  · rw [show st ++ (ex ++ ex2 ++ [Ob.lst (xs ++ ys)]) = (st ++ ex ++ ex2) ++ [.lst (xs ++ ys)] by simp]
    rw [List.getElem?_append_right (Nat.le_refl _), Nat.sub_self]
    rfl
theorem LE.lst {as : AD} (h : as en st = .ok xs st) (hl : xs.length ≤ 16777216) : LE (dLst as) en st xs := by
  refine ⟨st.length, [.lst xs], ?_, by simp, Nat.le_refl _⟩
  simp only [dLst, h, Re.bind_ok, if_pos hl]
theorem LE.map {own : List Nat} {i : ID} {u : UD} {elt : ED} {items : List D} (hi : i en st = .ok ⟨items, none⟩ st) (f : Nat → D)
    (hs : ∀ k d s, items[k]? = some d → ∃ en1, u d (wipeE en own) = some en1 ∧ elt en1 s = .ok (f k) s) (hl : items.length < 16777216) : LE (dLC own i u bYes elt) en st ((List.range items.length).map f) :=
  ⟨st.length, [.lst ((List.range items.length).map f)], dLC_map hi f hs hl, by simp, Nat.le_refl _⟩
/-- over range(n) -/
theorem LE.mapR {own : List Nat} {as : AD} {u : UD} {elt : ED} {n : Nat} (hi : as en st = .ok [.int n] st) (f : Nat → D)
    (hs : ∀ k s, k < n → ∃ en1, u (.int k) (wipeE en own) = some en1 ∧ elt en1 s = .ok (f k) s) (hl : n < 16777216) : LE (dLC own (iRg1 as) u bYes elt) en st ((List.range n).map f) := by
  have h := iRg1_ok hi (by omega) (by omega)
  rw [Int.toNat_natCast] at h
  have := LE.map (own := own) (u := u) (elt := elt) h f (fun k d s hd => by
    obtain ⟨hk, rfl⟩ := rng_at hd
    rw [Int.zero_add]
    exact hs k s hk) (by rw [rng_len]; exact hl)
  rwa [rng_len] at this
/-- over a list that stands -/
theorem LE.maps {own : List Nat} {i : ID} {u : UD} {elt : ED} {items : List D} {j : Nat} {o : Ob} (hi : i en st = .ok ⟨items, some (j, items)⟩ st) (hj : st[j]? = some o) (ho : o.seq = some items) (f : Nat → D)
    (hs : ∀ k d ex, items[k]? = some d → ∃ en1, u d (wipeE en own) = some en1 ∧ elt en1 (st ++ ex) = .ok (f k) (st ++ ex)) (hl : items.length < 16777216) : LE (dLC own i u bYes elt) en st ((List.range items.length).map f) :=
  ⟨st.length, [.lst ((List.range items.length).map f)], dLC_maps hi hj ho f (fun k d acc hd => hs k d _ hd) hl, by simp, Nat.le_refl _⟩
/-- a built-in over such a list, the list dropped -/
theorem LE.call {f : FN} {x : D} (h : LE a en st xs) (hf : ∀ n s, s[n]? = some (.lst xs) → f [.obj n] s = some (x, s)) (hx : x.cl st.length = true) : dGC (dCB f (dCons a dNil)) en st = .ok x st := by
  obtain ⟨n, ex, e, g, _⟩ := h
  simp only [dGC, dCB, dCons, dNil, e, Re.bind_ok, hf n _ g, Vr.re_some]
  exact gc_app hx
theorem LE.set {i : Nat} (h : LE a en st xs) : ∃ n ex, sSet i a en st = .nx (en.set i (some (.obj n))) (st ++ ex) ∧ (st ++ ex)[n]? = some (.lst xs) := by
  obtain ⟨n, ex, e, g, _⟩ := h
  exact ⟨n, ex, by simp only [sSet, e, Re.toS_ok], g⟩
theorem LE.set' {i : Nat} (h : LE a en st xs) : ∃ n ex, sSet i a en st = .nx (en.set i (some (.obj n))) (st ++ ex) ∧ (st ++ ex)[n]? = some (.lst xs) ∧ st.length ≤ n := by
  obtain ⟨n, ex, e, g, l⟩ := h
  exact ⟨n, ex, by simp only [sSet, e, Re.toS_ok], g, l⟩
end
theorem any_at {bs : List Bool} {n : Nat} {s : Sto} (h : s[n]? = some (.lst (bs.map .bl))) : fAny [.obj n] s = some (.bl (bs.any id), s) := by
  simp only [fAny, lstOf, h, Option.bind_some, Ob.seq, blsD_bls, Option.map_some]
theorem all_at {bs : List Bool} {n : Nat} {s : Sto} (h : s[n]? = some (.lst (bs.map .bl))) : fAll [.obj n] s = some (.bl (bs.all id), s) := by
  simp only [fAll, lstOf, h, Option.bind_some, Ob.seq, blsD_bls, Option.map_some]
theorem sum_at {ns : List Int} {n : Nat} {s : Sto} (h : s[n]? = some (.lst (ns.map .int))) : fSum [.obj n] s = some (.int ns.sum, s) := by
  simp only [fSum, lstOf, h, Option.bind_some, Ob.seq, intsD_ints, Option.map_some]
theorem len_at {xs : List D} {n : Nat} {s : Sto} (h : s[n]? = some (.lst xs)) : fLen [.obj n] s = some (.int xs.length, s) := by
  simp only [fLen, h]
theorem tuple_at {xs : List D} {n : Nat} {s : Sto} (h : s[n]? = some (.lst xs)) : fTuple [.obj n] s = some (.tup xs, s) := by
  simp only [fTuple, seqOf, h, Option.bind_some, Ob.seq, Option.map_some]
/-! ### a fresh list as a def's answer -/
theorem canon_list {k : Nat} {s : Sto} {xs : List D} (h : s[k]? = some (.lst xs)) (hx : objsL xs = []) : canon 0 (.ok (.obj k) s) = .ok (.obj 0) [.lst xs] := by
  have e2 : canR 0 s [.obj k] = [k] := by
    unfold canR
    show reachF s (999999 + 1) [k] [] = _
    rw [reachF]
    simp only [List.contains_nil, Bool.false_eq_true, if_false, h, Ob.objs, Ob.vals, hx, List.nil_append]
    exact reachF_nil _ _ _
  have i0 : idx [k] k = 0 := by simp [idx, List.idxOf, List.findIdx, List.findIdx.go]
  have e3 : canOk 0 s [.obj k] = true := by
    unfold canOk
    rw [e2]
    simp [closB, nodB, h, Ob.objs, Ob.vals, subB, objsL, D.objs, hx]
  unfold canon
  dsimp only
  rw [if_pos e3, e2]
  simp [Gv.sel, nthO, h, Ob.ren, renL_data _ xs hx, D.ren, i0]
theorem callX_list {f : FnD} {xs ys : List D} (h : f xs [] = .ok (.obj 0) [.lst ys]) (hx : objsL xs = []) (hy : objsL ys = []) (st : Sto) : callX f xs st = .ok (.obj st.length) (st ++ [.lst ys]) := by
  unfold callX
  rw [hx, reachF_nil]
  have e : (closB st [] && mutB st [] && subB [] []) = true := rfl
  rw [if_pos e, renL_data _ xs hx, show Gv.sel st [] = [] from rfl, h]
  show Re.ok ((D.obj 0).ren _) (merge st [.lst ys] []) = _
  have w : wrB [.lst ys] st.length [] 0 st = st := by
    have : ∀ (i : Nat) (t : Sto), wrB [.lst ys] st.length [] i t = t := fun i t => by
      induction t generalizing i with
      | nil => rfl
      | cons o t ih => rw [wrB, ih]; rfl
    exact this 0 st
  unfold merge
  rw [w]
  simp [D.ren, upI, Ob.ren, renL_data _ ys hy]
theorem list_rt {n ar k : Nat} {body : SD} {ds : List D} {s : Sto} {xs : List D} (hl : ds.length = ar) (h : body (ds.map some ++ List.replicate (n - ar) none) [] = .rt (.obj k) s) (hs : s[k]? = some (.lst xs)) (hx : objsL xs = []) : dFc n ar body ds [] = .ok (.obj 0) [.lst xs] := by
  show canon 0 (dFn n ar body ds []) = _
  rw [fn_rt hl h]
  exact canon_list hs hx
/-! ### the law's store: the script, the drawer, what was made -/
structure LS (ns : List Int) (S : Sto) : Prop where
  scr : S[0]? = some (.fls (ns.map .int))
  dr : DS S 1 2
section
variable {ns : List Int} {S : Sto}
theorem LS.app (h : LS ns S) (ex : Sto) : LS ns (S ++ ex) := by
  have key : ∀ {i : Nat} {o : Ob}, S[i]? = some o → (S ++ ex)[i]? = some o := fun {i o} e => by
    rw [List.getElem?_append_left (List.getElem?_eq_some_iff.mp e).1]
    exact e
  obtain ⟨p, g, s, c, h1, h2, h3⟩ := h.dr.ex
  exact ⟨key h.scr, ⟨p, g, s, c, h1, key h2, key h3⟩⟩
theorem LS.setAt (h : LS ns S) {i : Nat} {o : Ob} (hi : ∃ S0 ex, S = S0 ++ ex ∧ LS ns S0 ∧ S0.length ≤ i) : LS ns (S.set i o) := by
  obtain ⟨S0, ex, rfl, h0, hl⟩ := hi
  rw [List.set_append_right _ _ hl]
  exact h0.app _
/-- a draw -/
theorem LS.draw (h : LS ns S) {m : Int} (hm : 0 < m) (hm2 : m < 1073741824) : ∃ (r : Nat) (S' : Sto), callX b_take [.obj 1, .int m] S = .ok (.int r) S' ∧ (r : Int) < m ∧ LS ns S' ∧ S'.length = S.length ∧ ∀ i, i ≠ 1 → S'[i]? = S[i]? := by
  obtain ⟨r, o, e, h0, h1, hd⟩ := Gv.draw h.dr hm hm2
  obtain ⟨n, rfl⟩ := Int.eq_ofNat_of_zero_le h0
  exact ⟨n, _, e, h1, ⟨by rw [List.getElem?_set_ne (by decide)]; exact h.scr, hd⟩, List.length_set, fun i hi => List.getElem?_set_ne (Ne.symm hi)⟩
theorem LS.set {en : En} {a : AD} {i : Nat} {m : Int} (h : LS ns S) (ha : a en S = .ok [.obj 1, .int m] S) (hm : 0 < m) (hm2 : m < 1073741824) :
    ∃ (r : Nat) (S' : Sto), sSet i (dX b_take a) en S = .nx (en.set i (some (.int r))) S' ∧ (r : Int) < m ∧ LS ns S' ∧ S'.length = S.length ∧ ∀ i, i ≠ 1 → S'[i]? = S[i]? := by
  obtain ⟨r, S', e, q⟩ := h.draw hm hm2
  exact ⟨r, S', by simp only [sSet, dX, ha, Re.bind_ok, e, Re.toS_ok], q⟩
/-- the end of the law -/
theorem LS.fin (h : LS ns S) : ∃ s, canon 1 (.ok (.bl true) S) = .ok (.bl true) s := by
  have e2 : canR 1 S [.bl true] = [0] := by
    unfold canR
    have : (S.take 1).map Ob.vals = [ns.map D.int] := by
      cases S with
      | nil => cases h.scr
      | cons o S => cases h.scr; rfl
    rw [this]
    have e1 : objsL [D.bl true] ++ objsL ([ns.map D.int]).flatten = [] := by simp [objsL, D.objs, objsL_ints]
    rw [e1]
    exact reachF_nil _ _ _
  have e3 : canOk 1 S [.bl true] = true := by
    unfold canOk
    rw [e2]
    have hl : 1 ≤ S.length := by
      have := (List.getElem?_eq_some_iff.mp h.scr).1
      omega
    have hc : closB S [0] = true := by
      simp only [closB, nodB, List.contains_nil, Bool.not_false, Bool.and_self, List.all_cons, List.all_nil, Bool.and_true, Bool.true_and]
      rw [h.scr]
      simp [Ob.objs, Ob.vals, objsL_ints, subB]
    simp [hc, subB, objsL, D.objs, hl]
  exact ⟨_, by unfold canon; dsimp only; rw [if_pos e3]; rfl⟩
theorem begin_law (ns : List Int) {en : En} (h : en[0]? = some (some (.obj 0))) (i : Nat) : ∃ S, sSet i (dCall b_begin (dCons (dV 0) dNil)) en [.fls (ns.map .int)] = .nx (en.set i (some (.obj 1))) S ∧ LS ns S ∧ S.length = 3 := by
  obtain ⟨s, e⟩ := begin_ok ns
  refine ⟨[.fls (ns.map .int), .lst [.obj 2, .int 0, .int 0, .int s], .lst (ns.map .int)], ?_, ⟨rfl, ⟨0, 0, s, ns, by decide, rfl, rfl⟩⟩, rfl⟩
  simp only [sSet, dCall, dCons, dV, dNil, h, Re.bind_ok, e]
  rfl
end
end Gv
namespace Gv
open PySem

/-! ### calls that write one object of the part they reach -/
mutual
theorem ren_ren (f g : Nat → Nat) : ∀ d : D, (∀ i ∈ d.objs, g (f i) = i) → (d.ren f).ren g = d
  | .non, _ => rfl
  | .bl _, _ => rfl
  | .int _, _ => rfl
  | .str _, _ => rfl
  | .tup xs, h => by rw [D.ren, D.ren, renL_ren f g xs (by simpa [D.objs] using h)]
  | .obj i, h => by rw [D.ren, D.ren, h i (by simp [D.objs])]
theorem renL_ren (f g : Nat → Nat) : ∀ ds : List D, (∀ i ∈ objsL ds, g (f i) = i) → renL g (renL f ds) = ds
  | [], _ => rfl
  | d :: ds, h => by rw [renL, renL, ren_ren f g d fun i hi => h i (by simp [objsL, hi]), renL_ren f g ds fun i hi => h i (by simp [objsL, hi])]
end
mutual
theorem ren_same (f : Nat → Nat) : ∀ d : D, (∀ i ∈ d.objs, f i = i) → d.ren f = d
  | .non, _ => rfl
  | .bl _, _ => rfl
  | .int _, _ => rfl
  | .str _, _ => rfl
  | .tup xs, h => by rw [D.ren, renL_same f xs (by simpa [D.objs] using h)]
  | .obj i, h => by rw [D.ren, h i (by simp [D.objs])]
theorem renL_same (f : Nat → Nat) : ∀ ds : List D, (∀ i ∈ objsL ds, f i = i) → renL f ds = ds
  | [], _ => rfl
  | d :: ds, h => by rw [renL, ren_same f d fun i hi => h i (by simp [objsL, hi]), renL_same f ds fun i hi => h i (by simp [objsL, hi])]
end
theorem renK_same {κ : Type} (f : Nat → Nat) : ∀ kvs : List (κ × D), (∀ i ∈ objsL (kvs.map (·.2)), f i = i) → (kvs.map fun p => (p.1, p.2.ren f)) = kvs
  | [], _ => rfl
  | (a, b) :: kvs, h => by
    rw [List.map_cons, renK_same f kvs fun i hi => h i (by simp [objsL, hi]), ren_same f b fun i hi => h i (by simp [objsL, hi])]
theorem Ob.ren_same (f : Nat → Nat) (o : Ob) (h : ∀ i ∈ o.objs, f i = i) : o.ren f = o := by
  cases o with
  | lst xs => exact congrArg Ob.lst (renL_same f xs h)
  | fls xs => exact congrArg Ob.fls (renL_same f xs h)
  | dK kvs => exact congrArg Ob.dK (renK_same f kvs h)
  | dT kvs => exact congrArg Ob.dT (renK_same f kvs h)
theorem renK_ren {κ : Type} (f g : Nat → Nat) : ∀ kvs : List (κ × D), (∀ i ∈ objsL (kvs.map (·.2)), g (f i) = i) → (kvs.map fun p => (p.1, p.2.ren f)).map (fun p => (p.1, p.2.ren g)) = kvs
  | [], _ => rfl
  | (a, b) :: kvs, h => by
    rw [List.map_cons, List.map_cons, renK_ren f g kvs fun i hi => h i (by simp [objsL, hi]), ren_ren f g b fun i hi => h i (by simp [objsL, hi])]
theorem Ob.ren_ren (f g : Nat → Nat) (o : Ob) (h : ∀ i ∈ o.objs, g (f i) = i) : (o.ren f).ren g = o := by
  cases o with
  | lst xs => exact congrArg Ob.lst (renL_ren f g xs h)
  | fls xs => exact congrArg Ob.fls (renL_ren f g xs h)
  | dK kvs => exact congrArg Ob.dK (renK_ren f g kvs h)
  | dT kvs => exact congrArg Ob.dT (renK_ren f g kvs h)
theorem up_idx {R : List Nat} {N i : Nat} (h : i ∈ R) : upI N R (idx R i) = i := by
  simp only [upI, idx_get h]
theorem merge_set {st : Sto} {R : List Nat} {p r : Nat} {o : Ob} (hc : closB st R = true) (hp : R[p]? = some r) : merge st ((sel st R).set p o) R = st.set r (o.ren (upI st.length R)) := by
  obtain ⟨hn, hcl⟩ := clos_get hc
  have hl : (sel st R).length = R.length := by simp [sel]
  have hpl := (List.getElem?_eq_some_iff.mp hp).1
  unfold merge
  have hd : ((sel st R).set p o).drop R.length = [] := List.drop_eq_nil_of_le (by rw [List.length_set, hl]; exact Nat.le_refl _)
  rw [hd, List.map_nil, List.append_nil]
  apply List.ext_getElem?
  intro k
  rw [wrB_get, Nat.zero_add]
  by_cases hk : r = k
  · subst hk
    obtain ⟨u, hu, _⟩ := hcl r (List.mem_of_getElem? hp)
    have hrl := (List.getElem?_eq_some_iff.mp hu).1
    have hm : R.contains r = true := by simpa using List.mem_of_getElem? hp
    rw [List.getElem?_set_self hrl, hu]
    simp only [Option.map_some, hm, if_true, nthO, idx_of hn hp]
    rw [List.getElem?_set_self (by rw [hl]; exact hpl)]
  · rw [List.getElem?_set_ne hk]
    cases e : st[k]? with
    | none => rfl
    | some u =>
      by_cases hm : k ∈ R
      · have hm' : R.contains k = true := by simpa using hm
        have hne : p ≠ idx R k := fun z => by
          have := idx_get hm
          rw [← z, hp] at this
          cases this
          exact hk rfl
        simp only [Option.map_some, hm', if_true, nthO]
        rw [List.getElem?_set_ne hne, sel_get (idx_get hm) e]
        obtain ⟨u', hu', hs⟩ := hcl k hm
        rw [e] at hu'
        cases hu'
        simp only [Ob.ren_ren _ _ u fun i hi => up_idx (hs i hi)]
      · have hm' : R.contains k = false := by simpa using hm
        simp only [Option.map_some, hm', Bool.false_eq_true, if_false]
theorem canon_id {x : D} {s : Sto} {n : Nat} (hn : s.length = n) (hc : closB s (List.range n) = true) (hx : ∀ i ∈ x.objs, i < n) : canon n (.ok x s) = .ok x s := by
  obtain ⟨hnd, hcl⟩ := clos_get hc
  have hin : ∀ k (todo : List Nat), (∀ i ∈ todo, i < n) → reachF s k todo (List.range n) = List.range n := by
    intro k
    induction k with
    | zero => intro todo _; rfl
    | succ k ih =>
      intro todo h
      cases todo with
      | nil => rfl
      | cons i todo =>
        rw [reachF]
        have : (List.range n).contains i = true := by simpa using h i List.mem_cons_self
        rw [if_pos this]
        exact ih todo fun j hj => h j (List.mem_cons_of_mem _ hj)
  have hidx : ∀ i, i < n → idx (List.range n) i = i := fun i hi => idx_of hnd (by rw [List.getElem?_range hi])
  have hv : ∀ i ∈ objsL ((s.take n).map Ob.vals).flatten, i < n := fun i hi => by
    have key : ∀ (l : List (List D)) (i : Nat), i ∈ objsL l.flatten → ∃ xs ∈ l, i ∈ objsL xs := by
      have app : ∀ (a b : List D), objsL (a ++ b) = objsL a ++ objsL b := fun a b => by
        induction a with
        | nil => rfl
        | cons x a ih => rw [List.cons_append, objsL, objsL, ih, List.append_assoc]
      intro l
      induction l with
      | nil => intro i hi; simp [objsL] at hi
      | cons xs l ih =>
        intro i hi
        rw [List.flatten_cons, app] at hi
        rcases List.mem_append.mp hi with h | h
        · exact ⟨xs, List.mem_cons_self, h⟩
        · obtain ⟨ys, h1, h2⟩ := ih i h
          exact ⟨ys, List.mem_cons_of_mem _ h1, h2⟩
    obtain ⟨xs, h1, h2⟩ := key _ i hi
    obtain ⟨o, ho, rfl⟩ := List.mem_map.mp h1
    obtain ⟨j, hj⟩ := List.getElem?_of_mem ho
    have hjn : j < n := by
      have := (List.getElem?_eq_some_iff.mp hj).1
      rw [List.length_take] at this
      omega
    rw [List.getElem?_take_of_lt hjn] at hj
    obtain ⟨u, hu, hs⟩ := hcl j (List.mem_range.mpr hjn)
    rw [hj] at hu
    cases hu
    exact List.mem_range.mp (hs i h2)
  have hobj : ∀ i ∈ objsL [x], i < n := fun i hi => hx i (by simpa [objsL] using hi)
  have e2 : canR n s [x] = List.range n := hin _ _ fun i hi => by
    rcases List.mem_append.mp hi with h | h
    · exact hobj i h
    · exact hv i h
  have e3 : canOk n s [x] = true := by
    unfold canOk
    rw [e2]
    have : subB (objsL [x]) (List.range n) = true := by
      unfold subB
      rw [List.all_eq_true]
      intro i hi
      simpa using hobj i hi
    simp only [hc, this, hn, Nat.le_refl, decide_true, Bool.and_self]
  have hsel : sel s (List.range n) = s := by
    apply List.ext_getElem?
    intro k
    by_cases hk : k < n
    · obtain ⟨u, hu, hs⟩ := hcl k (List.mem_range.mpr hk)
      rw [sel_get (List.getElem?_range hk) hu, hu, Ob.ren_same _ u fun i hi => hidx i (List.mem_range.mp (hs i hi))]
    · rw [List.getElem?_eq_none (by simp [sel]; omega), List.getElem?_eq_none (by omega)]
  unfold canon
  dsimp only
  rw [if_pos e3, e2, hsel, ren_same _ x fun i hi => hidx i (hx i hi)]
end Gv
namespace Gv
open PySem

/-- a table's check -/
def isR (r : Re D) (x : D) : Bool := match r with
  | .ok y s => beqD y x && s.isEmpty
  | _ => false
theorem isR_eq {r : Re D} {x : D} (h : isR r x = true) : r = .ok x [] := by
  cases r with
  | ok y s =>
    simp only [isR, Bool.and_eq_true, List.isEmpty_iff] at h
    rw [beqD_eq h.1, h.2]
  | er e s => cases h
  | no => cases h
/-! ### whole numbers -/
theorem f_xor (a b : Nat) (st : Sto) : fXor (.int a) (.int b) st = some (.int (a ^^^ b : Nat), st) := by
  simp only [fXor, fInt]
  rw [Bits.bitXor_pp (Int.natCast_nonneg a) (Int.natCast_nonneg b), Int.toNat_natCast, Int.toNat_natCast]
theorem f_add (a b : Nat) (st : Sto) : fAdd (.int a) (.int b) st = some (.int (a + b : Nat), st) := by
  simp [fAdd]
theorem f_div {a b : Nat} (h : 0 < b) (h2 : b < 1073741824) (st : Sto) : fDiv (.int a) (.int b) st = some (.int (a / b : Nat), st) := by
  have h1 : (decide ((0 : Int) < b) && decide ((b : Int) < 1073741824)) = true := by simp; omega
  simp only [fDiv, fIntC, h1, if_true, Int.natCast_ediv]
theorem f_mod {a b : Nat} (h : 0 < b) (st : Sto) : fMod (.int a) (.int b) st = some (.int (a % b : Nat), st) := by
  have h1 : decide ((0 : Int) < b) = true := by simp; omega
  simp only [fMod, fIntC, h1, if_true, Int.natCast_emod]
theorem f_mul {a b : Nat} (h : a < 18446744073709551616 ∨ b < 18446744073709551616) (st : Sto) : fMul (.int a) (.int b) st = some (.int (a * b : Nat), st) := by
  have h1 : cMul (a : Int) b = true := by simpa [cMul] using h
  simp only [fMul, h1, if_true, Int.natCast_mul]
theorem f_ge (a b : Nat) (st : Sto) : fGe (.int a) (.int b) st = some (.bl (decide (b ≤ a)), st) := by
  simp only [fGe, fInt, Int.ofNat_le]
theorem f_le (a b : Nat) (st : Sto) : fLe (.int a) (.int b) st = some (.bl (decide (a ≤ b)), st) := by
  simp only [fLe, fInt, Int.ofNat_le]
theorem f_lt (a b : Nat) (st : Sto) : fLt (.int a) (.int b) st = some (.bl (decide (a < b)), st) := by
  simp only [fLt, fInt, Int.ofNat_lt]
theorem f_gt (a b : Nat) (st : Sto) : fGt (.int a) (.int b) st = some (.bl (decide (b < a)), st) := by
  simp only [fGt, fInt, Int.ofNat_lt]
theorem f_eq (a b : Nat) (st : Sto) : fEq (.int a) (.int b) st = some (.bl (decide (a = b)), st) := by
  simp only [fEq, Int.ofNat_inj]
theorem f_ne (a b : Nat) (st : Sto) : fNe (.int a) (.int b) st = some (.bl (!decide (a = b)), st) := by
  simp only [fNe, Int.ofNat_inj]
/-- lists of whole numbers -/
def natD (xs : List Nat) : List D := xs.map fun (x : Nat) => D.int x
theorem natD_eq (xs : List Nat) : natD xs = (xs.map fun (x : Nat) => (x : Int)).map D.int := by simp [natD, Function.comp_def]
theorem natD_len (xs : List Nat) : (natD xs).length = xs.length := by simp [natD]
theorem natD_get {xs : List Nat} {i x : Nat} (h : xs[i]? = some x) : (natD xs)[i]? = some (.int x) := by simp [natD, h]
theorem natD_app (xs ys : List Nat) : natD (xs ++ ys) = natD xs ++ natD ys := by simp [natD]
theorem objsL_nat (xs : List Nat) : objsL (natD xs) = [] := by rw [natD_eq]; exact objsL_ints _
theorem plL_nat (xs : List Nat) : plL (natD xs) = true := by rw [natD_eq]; exact plL_ints _
theorem dpL_nat (xs : List Nat) : dpL (natD xs) = 0 := by rw [natD_eq]; exact dpL_ints _
theorem any_nat (xs : List Nat) (x : Nat) : ((natD xs).any fun z => beqD z (.int x)) = xs.contains x := by
  rw [natD_eq, Gv.any_ints, Bool.eq_iff_iff]
  simp only [List.contains_iff_mem, List.mem_map]
  constructor
  · rintro ⟨y, h, e⟩
    rwa [show x = y by omega]
  · intro h
    exact ⟨x, h, rfl⟩
theorem beqDs_nat (xs ys : List Nat) : beqDs (natD xs) (natD ys) = decide (xs = ys) := by
  rw [natD_eq, natD_eq, beqDs_ints, Bool.eq_iff_iff, decide_eq_true_iff, decide_eq_true_iff]
  constructor
  · intro h
    exact List.map_inj_right (fun a b e => by omega) |>.mp h
  · intro h
    rw [h]
theorem f_in {xs : List Nat} {k : Nat} {st : Sto} (neg : Bool) (e : st[k]? = some (.lst (natD xs))) (x : Nat) : fIn neg (.int x) (.obj k) st = some (.bl (if neg then !(xs.contains x) else xs.contains x), st) := by
  rw [fIn_seq neg rfl (plL_nat xs) (by simp [D.dp]) (by rw [dpL_nat]; decide) e, any_nat]
theorem f_inT (xs : List Nat) (neg : Bool) (x : Nat) (st : Sto) : fIn neg (.int x) (.tup (natD xs)) st = some (.bl (if neg then !(xs.contains x) else xs.contains x), st) := by
  rw [fIn_tup neg rfl (plL_nat xs) (by simp [D.dp]) (by rw [dpL_nat]; decide) st, any_nat]
theorem f_ix {xs : List Nat} {k i x : Nat} {st : Sto} (e : st[k]? = some (.lst (natD xs))) (h : xs[i]? = some x) : fIx (.obj k) (.int i) st = some (.int x, st) := by
  simp only [fIx, e, L2.atI_nat (natD_get h), Option.map_some]
theorem f_ixT {xs : List Nat} {i x : Nat} (h : xs[i]? = some x) (st : Sto) : fIx (.tup (natD xs)) (.int i) st = some (.int x, st) := by
  simp only [fIx, L2.atI_nat (natD_get h), Option.map_some]
/-! ### menu[draw] -/
def b_pick : FnD := dFc 2 2 (sRet (dOp fIx (dV 1) (dX b_take (dCons (dV 0) (dCons (dCB fLen (dCons (dV 1) dNil)) dNil)))))
theorem pick_st {st : Sto} {i j k : Nat} {xs : List D} (h : DS st i j) (hk : st[k]? = some (.lst xs)) (hki : k ≠ i) (hkj : k ≠ j) (hx : objsL xs = []) (hl : 0 < xs.length) (hl2 : xs.length < 1073741824) :
    ∃ (r : Nat) (x : D) (o : Ob), callX b_pick [.obj i, .obj k] st = .ok x (st.set i o) ∧ xs[r]? = some x ∧ DS (st.set i o) i j := by
  obtain ⟨p, g, s, cells, hij, h1, h2⟩ := h.ex
  -- the part that is reached
  have hR : reachF st 1000000 [i, k] [] = [i, j, k] := by
    show reachF st (999996 + 1 + 1 + 1 + 1) [i, k] [] = _
    have c1 : ([i].contains j) = false := by simp; omega
    have c2 : ([i, j].contains k) = false := by simp; omega
    rw [reachF]
    simp only [List.contains_nil, Bool.false_eq_true, if_false, h1, Ob.objs, Ob.vals, objsL, D.objs, List.nil_append, List.append_nil, List.cons_append]
    rw [reachF]
    simp only [c1, Bool.false_eq_true, if_false, h2, Ob.objs, Ob.vals, objsL_ints, List.nil_append, List.cons_append]
    rw [reachF]
    simp only [c2, Bool.false_eq_true, if_false, hk, Ob.objs, Ob.vals, hx, List.nil_append, List.cons_append]
    exact reachF_nil _ _ _
  have n1 : (i == j) = false := by simpa using hij
  have n2 : (i == k) = false := by simpa using hki.symm
  have n3 : (j == k) = false := by simpa using hkj.symm
  have c1 : (closB st [i, j, k] && mutB st [i, j, k] && subB [i, k] [i, j, k]) = true := by
    simp [closB, nodB, mutB, subB, h1, h2, hk, Ob.objs, Ob.vals, objsL, D.objs, objsL_ints, hx, Ob.muB, n1, n2, n3, hij, Ne.symm hki, Ne.symm hkj]
  have hc : closB st [i, j, k] = true := by
    simp only [Bool.and_eq_true] at c1
    exact c1.1.1
  have i0 : idx [i, j, k] i = 0 := idx_of (clos_get hc).1 rfl
  have i1 : idx [i, j, k] j = 1 := idx_of (clos_get hc).1 rfl
  have i2 : idx [i, j, k] k = 2 := idx_of (clos_get hc).1 rfl
  have hs : sel st [i, j, k] = [.lst [.obj 1, .int p, .int g, .int s], .lst (cells.map .int), .lst xs] := by
    simp [sel, nthO, h1, h2, hk, Ob.ren, renL, D.ren, renL_ints, renL_data _ xs hx, i1]
  have hd : DS (sel st [i, j, k]) 0 1 := by
    rw [hs]
    exact ⟨p, g, s, cells, by decide, rfl, rfl⟩
  obtain ⟨r, o, e, r0, r1, hd'⟩ := draw hd (m := xs.length) (by omega) (by omega)
  obtain ⟨n, rfl⟩ := Int.eq_ofNat_of_zero_le r0
  have hn : n < xs.length := by omega
  obtain ⟨p', g', s', cells', hij', h1', h2'⟩ := hd'.ex
  have ho : o = .lst [.obj 1, .int p', .int g', .int s'] := by
    rw [List.getElem?_set_self (by rw [hs]; simp)] at h1'
    exact Option.some.inj h1'
  have hm2 : ((sel st [i, j, k]).set 0 o)[2]? = some (.lst xs) := by
    rw [List.getElem?_set_ne (by decide), hs]
    rfl
  have hcl : closB ((sel st [i, j, k]).set 0 o) (List.range 3) = true := by
    rw [hs, ho]
    show closB [.lst [.obj 1, .int p', .int g', .int s'], .lst (cells.map .int), .lst xs] [0, 1, 2] = true
    simp [closB, nodB, Ob.objs, Ob.vals, objsL, D.objs, objsL_ints, hx, subB]
  have hxo : ∀ (l : List D) (y : D), objsL l = [] → y ∈ l → y.objs = [] := fun l => by
    induction l with
    | nil => intro y _ h; cases h
    | cons z l ih =>
      intro y h1 h2
      simp only [objsL, List.append_eq_nil_iff] at h1
      rcases List.mem_cons.mp h2 with rfl | h2
      · exact h1.1
      · exact ih y h1.2 h2
  have hxn := hxo xs xs[n] hx (List.getElem_mem hn)
  have hlen : fLen [.obj 2] (sel st [i, j, k]) = some (.int xs.length, sel st [i, j, k]) := by
    rw [hs]
    rfl
  have run : b_pick [.obj 0, .obj 2] (sel st [i, j, k]) = .ok xs[n] ((sel st [i, j, k]).set 0 o) := by
    have hl3 : (sel st [i, j, k]).length = 3 := by rw [hs]; rfl
    have body : dFn 2 2 (sRet (dOp fIx (dV 1) (dX b_take (dCons (dV 0) (dCons (dCB fLen (dCons (dV 1) dNil)) dNil))))) [.obj 0, .obj 2] (sel st [i, j, k]) = .ok xs[n] ((sel st [i, j, k]).set 0 o) := by
      refine fn_rt rfl (s_ret (v_op (x := .obj 2) (s1 := sel st [i, j, k]) rfl (v_X (v_cons (x := .obj 0) rfl (v_cons (v_cb (xs := [.obj 2]) rfl hlen) v_nil)) e) ?_))
      simp only [fIx, hm2, L2.atI_nat (List.getElem?_eq_getElem hn), Option.map_some]
    show canon (sel st [i, j, k]).length (dFn 2 2 _ _ _) = _
    rw [body, hl3]
    exact canon_id (by rw [List.length_set, hl3]) hcl fun q hq => by rw [hxn] at hq; cases hq
  refine ⟨n, xs[n], o.ren (upI st.length [i, j, k]), ?_, List.getElem?_eq_getElem hn, ?_⟩
  · unfold callX
    have eR : objsL [.obj i, .obj k] = [i, k] := rfl
    rw [eR, hR]
    dsimp only
    have e3 : renL (idx [i, j, k]) [.obj i, .obj k] = [.obj 0, .obj 2] := by simp [renL, D.ren, i0, i2]
    rw [if_pos c1, e3, run]
    dsimp only
    rw [ren_data _ _ hxn, merge_set hc (p := 0) (r := i) rfl]
  · refine ⟨p', g', s', cells, hij, ?_, by rw [List.getElem?_set_ne hij]; exact h2⟩
    rw [List.getElem?_set_self (List.getElem?_eq_some_iff.mp h1).1, ho]
    simp [Ob.ren, renL, D.ren, upI]
theorem LS.pick {ns : List Int} {S : Sto} {k : Nat} {xs : List D} (h : LS ns S) (hk : S[k]? = some (.lst xs)) (h3 : 3 ≤ k) (hx : objsL xs = []) (hl : 0 < xs.length) (hl2 : xs.length < 1073741824) :
    ∃ (r : Nat) (x : D) (S' : Sto), callX b_pick [.obj 1, .obj k] S = .ok x S' ∧ xs[r]? = some x ∧ LS ns S' ∧ S'.length = S.length ∧ ∀ i, i ≠ 1 → S'[i]? = S[i]? := by
  obtain ⟨r, x, o, e, e2, hd⟩ := pick_st h.dr hk (by omega) (by omega) hx hl hl2
  exact ⟨r, x, _, e, e2, ⟨by rw [List.getElem?_set_ne (by decide)]; exact h.scr, hd⟩, List.length_set, fun i hi => List.getElem?_set_ne (Ne.symm hi)⟩
end Gv
namespace Gv
open PySem

/-! ### defs that read one list of data -/
theorem sto_set_same {st : Sto} {k : Nat} {o : Ob} (h : st[k]? = some o) : st.set k o = st := by
  apply List.ext_getElem?
  intro i
  by_cases e : k = i
  · subst e
    rw [List.getElem?_set_self (List.getElem?_eq_some_iff.mp h).1, h]
  · rw [List.getElem?_set_ne e]
theorem idx_one (k : Nat) : idx [k] k = 0 := by simp [idx, List.idxOf, List.findIdx, List.findIdx.go]
theorem callX_ro {f : FnD} {args args' : List D} {st : Sto} {k : Nat} {xs : List D} {x : D} (hk : st[k]? = some (.lst xs)) (hx : objsL xs = []) (ha : objsL args = [k]) (hr : renL (idx [k]) args = args') (hf : f args' [.lst xs] = .ok x [.lst xs]) (hd : x.objs = []) : callX f args st = .ok x st := by
  have hR : reachF st 1000000 [k] [] = [k] := by
    show reachF st (999999 + 1) [k] [] = _
    rw [reachF]
    simp only [List.contains_nil, Bool.false_eq_true, if_false, hk, Ob.objs, Ob.vals, hx, List.nil_append]
    exact reachF_nil _ _ _
  have c1 : (closB st [k] && mutB st [k] && subB [k] [k]) = true := by
    simp [closB, nodB, mutB, subB, hk, Ob.objs, Ob.vals, hx, Ob.muB]
  have hc : closB st [k] = true := by
    simp only [Bool.and_eq_true] at c1
    exact c1.1.1
  have hs : sel st [k] = [.lst xs] := by
    simp [sel, nthO, hk, Ob.ren, renL_data _ xs hx]
  unfold callX
  rw [ha, hR]
  dsimp only
  rw [if_pos c1, hr, hs, hf]
  dsimp only
  rw [ren_data _ x hd]
  have hm := merge_set (o := .lst xs) hc (p := 0) (r := k) rfl
  rw [hs] at hm
  have e : ([Ob.lst xs] : Sto).set 0 (.lst xs) = [.lst xs] := rfl
  rw [e] at hm
  rw [hm]
  have e2 : (Ob.lst xs).ren (upI st.length [k]) = .lst xs := by simp [Ob.ren, renL_data _ xs hx]
  rw [e2, sto_set_same hk]
/-- its answer in order: the list as it was, garbage behind it -/
theorem canon_ro {x : D} {xs : List D} {ex : Sto} (hx : objsL xs = []) (hd : x.objs = []) : canon 1 (.ok x (.lst xs :: ex)) = .ok x [.lst xs] := by
  have e1 : objsL [x] = [] := by simp [objsL, hd]
  have e2 : canR 1 (.lst xs :: ex) [x] = [0] := by
    unfold canR
    rw [e1]
    have : objsL (((Ob.lst xs :: ex).take 1).map Ob.vals).flatten = [] := by simp [Ob.vals, hx]
    rw [this]
    exact reachF_nil _ _ _
  have e3 : canOk 1 (.lst xs :: ex) [x] = true := by
    unfold canOk
    rw [e2, e1]
    simp [closB, nodB, Ob.objs, Ob.vals, hx, subB]
  unfold canon
  dsimp only
  rw [if_pos e3, e2, ren_data _ x hd]
  simp [sel, nthO, Ob.ren, renL_data _ xs hx]
theorem ro_rt {n ar : Nat} {body : SD} {ds xs : List D} {ex : Sto} {d : D} (hl : ds.length = ar) (h : body (ds.map some ++ List.replicate (n - ar) none) [.lst xs] = .rt d (.lst xs :: ex)) (hx : objsL xs = []) (hd : d.objs = []) : dFc n ar body ds [.lst xs] = .ok d [.lst xs] := by
  show canon 1 (dFn n ar body ds [.lst xs]) = _
  rw [fn_rt hl h]
  exact canon_ro hx hd
/-! ### the least that is missing -/
def mexF (xs : List Nat) : Nat → Nat → Nat
  | 0, n => n
  | f + 1, n => if xs.contains n then mexF xs f (n + 1) else n
def mex (xs : List Nat) : Nat := mexF xs (xs.length + 1) 0
theorem mexF_out (xs : List Nat) : ∀ f n, (∀ m, m < n → m ∈ xs) → (mexF xs f n ∉ xs ∨ ∀ m, m < n + f → m ∈ xs) ∧ ∀ m, m < mexF xs f n → m ∈ xs
  | 0, n, h => ⟨.inr h, h⟩
  | f + 1, n, h => by
    rw [mexF]
    cases hc : xs.contains n with
    | true =>
      simp only [if_true]
      have hn : n ∈ xs := by simpa using hc
      have := mexF_out xs f (n + 1) fun m hm => by
        by_cases e : m = n
        · rw [e]; exact hn
        · exact h m (by omega)
      rwa [show n + 1 + f = n + (f + 1) by omega] at this
    | false =>
      simp only [Bool.false_eq_true, if_false]
      exact ⟨.inl (by simpa using hc), h⟩
theorem mex_below (xs : List Nat) : ∀ m, m < mex xs → m ∈ xs := (mexF_out xs (xs.length + 1) 0 fun m hm => by omega).2
theorem range_len : ∀ (n : Nat) (xs : List Nat), (∀ m, m < n → m ∈ xs) → n ≤ xs.length
  | 0, _, _ => Nat.zero_le _
  | n + 1, xs, h => by
    have := range_len n (xs.erase n) fun m hm => (List.mem_erase_of_ne (by omega)).mpr (h m (by omega))
    rw [List.length_erase_of_mem (h n (by omega))] at this
    have h1 := List.length_pos_of_mem (h n (by omega))
    omega
theorem mex_notin (xs : List Nat) : mex xs ∉ xs := by
  rcases (mexF_out xs (xs.length + 1) 0 fun m hm => by omega).1 with h | h
  · exact h
  · have := range_len (xs.length + 1) xs fun m hm => h m (by omega)
    omega
theorem mex_le (xs : List Nat) : mex xs ≤ xs.length := range_len _ _ (mex_below xs)
theorem mex_unique {xs : List Nat} {n : Nat} (h1 : n ∉ xs) (h2 : ∀ m, m < n → m ∈ xs) : mex xs = n := by
  rcases Nat.lt_trichotomy (mex xs) n with h | h | h
  · exact absurd (h2 _ h) (mex_notin xs)
  · exact h
  · exact absurd (mex_below xs _ h) h1
theorem mex_congr {xs ys : List Nat} (h : ∀ m, m ∈ xs ↔ m ∈ ys) : mex xs = mex ys := mex_unique (fun z => mex_notin ys ((h _).mp z)) fun m hm => (h m).mpr (mex_below ys m hm)
/-- told = 0; while told in values: told = told + 1; return told -/
def b_mex : FnD := dFc 2 1 (sSeq (sSet 1 (dC (.int 0))) (sSeq (sWhile (bCmp (fIn false) (dV 1) (dV 0)) (sSet 1 (dOp fAdd (dV 1) (dC (.int 1))))) (sRet (dV 1))))
theorem mex_run {xs : List Nat} (hl : xs.length < 999999) : b_mex [.obj 0] [.lst (natD xs)] = .ok (.int (mex xs)) [.lst (natD xs)] := by
  have hw : sWhile (bCmp (fIn false) (dV 1) (dV 0)) (sSet 1 (dOp fAdd (dV 1) (dC (.int 1)))) [some (.obj 0), some (.int (0 : Nat))] [.lst (natD xs)] = .nx [some (.obj 0), some (.int (mex xs))] [.lst (natD xs)] := by
    refine sWhile_rule (fun m en st => ∃ n : Nat, n ≤ mex xs ∧ m = mex xs - n ∧ en = [some (.obj 0), some (.int n)] ∧ st = [.lst (natD xs)]) (fun r => r = .nx [some (.obj 0), some (.int (mex xs))] [.lst (natD xs)]) (mex xs) (by have := mex_le xs; omega) ⟨0, Nat.zero_le _, rfl, rfl, rfl⟩ ?_
    rintro m en st ⟨n, hn, rfl, rfl, rfl⟩
    refine ⟨xs.contains n, [.lst (natD xs)], t_cmp (x := .int n) rfl (y := .obj 0) rfl (f_in (xs := xs) false rfl n), fun hb => ?_, fun hb => ?_⟩
    · have : n ∉ xs := by simpa using hb
      rw [show n = mex xs from (mex_unique this fun m hm => mex_below xs m (by omega)).symm]
    · have hin : n ∈ xs := by simpa using hb
      have hlt : n < mex xs := by
        by_cases e : n = mex xs
        · rw [e] at hin; exact absurd hin (mex_notin xs)
        · omega
      exact ⟨_, s_set (v_op (x := .int n) (y := .int (1 : Nat)) rfl rfl (f_add n 1 _)), mex xs - (n + 1), by omega, n + 1, by omega, rfl, rfl, rfl⟩
  exact ro_rt (ex := []) rfl (seq_nx (s_set rfl) (seq_nx hw (s_ret rfl))) (objsL_nat xs) rfl
theorem mex_X {xs : List Nat} {st : Sto} {k : Nat} (hk : st[k]? = some (.lst (natD xs))) (hl : xs.length < 999999) : callX b_mex [.obj k] st = .ok (.int (mex xs)) st :=
  callX_ro hk (objsL_nat xs) rfl (by simp [renL, D.ren, idx_one]) (mex_run hl) rfl
/-! ### sorted rows of whole numbers -/
def rowD (r : List Nat) : D := .tup (natD r)
theorem pd_row (r : List Nat) : pd (rowD r) = some (.tuple ((r.map fun (x : Nat) => (x : Int)).map PyData.int)) := by
  have : ∀ l : List Int, pds (l.map D.int) = some (l.map PyData.int) := fun l => by
    induction l with
    | nil => rfl
    | cons a l ih => simp [pds, pd, ih]
  simp only [rowD, pd, natD_eq, this, Option.map_some]
theorem pdG_row (r : List Nat) : pdG (rowD r) = .tuple ((r.map fun (x : Nat) => (x : Int)).map PyData.int) := by
  rw [pdG, pd_row]
  rfl
theorem sortOk_rows {rows : List (List Nat)} (hne : ∀ r ∈ rows, r ≠ []) (hl : rows.length ≤ 16777216) : sortOk (rows.map rowD) = true := by
  have h1 : allPd (rows.map rowD) = true := by
    unfold allPd
    rw [List.all_eq_true]
    intro d hd
    obtain ⟨r, _, rfl⟩ := List.mem_map.mp hd
    rw [pd_row]
    rfl
  have h2 : alikeB (rows.map rowD) = true := by
    unfold alikeB
    rw [List.all_eq_true]
    intro d hd
    rw [List.all_eq_true]
    intro d' hd'
    obtain ⟨r, _, rfl⟩ := List.mem_map.mp hd
    obtain ⟨r', _, rfl⟩ := List.mem_map.mp hd'
    rw [pdG_row, pdG_row]
    simp only [PySem.W.alike]
    exact PySem.W.alike_ints _ _
  have h3 : (rows.map rowD).all (fun d => tupB (pdG d)) = true := by
    rw [List.all_eq_true]
    intro d hd
    obtain ⟨r, hr, rfl⟩ := List.mem_map.mp hd
    rw [pdG_row]
    cases r with
    | nil => exact absurd rfl (hne [] hr)
    | cons a r => rfl
  have h4 : (rows.map rowD).all (fun d => decide ((pdG d).depth ≤ 60)) = true := by
    rw [List.all_eq_true]
    intro d hd
    obtain ⟨r, hr, rfl⟩ := List.mem_map.mp hd
    rw [pdG_row, PyData.depth, PySem.W.depth_ints]
    decide
  simp only [sortOk, h1, h2, h3, h4, Bool.true_or, Bool.and_self, List.length_map, hl, decide_true]
theorem sorted_rows {rows : List (List Nat)} {k : Nat} {st : Sto} (hne : ∀ r ∈ rows, r ≠ []) (hl : rows.length ≤ 16777216) (hk : st[k]? = some (.lst (rows.map rowD))) :
    ∃ rows' : List (List Nat), rows'.Perm rows ∧ fSorted [.obj k] st = some (.obj st.length, st ++ [.lst (rows'.map rowD)]) := by
  refine ⟨rows.mergeSort (PySem.W.dataLe false fun r => pdG (rowD r)), List.mergeSort_perm _ _, ?_⟩
  have e : sortD (rows.map rowD) = (rows.mergeSort (PySem.W.dataLe false fun r => pdG (rowD r))).map rowD := by
    unfold sortD
    rw [List.map_mergeSort (r := PySem.W.dataLe false fun r => pdG (rowD r)) (s := PySem.W.dataLe false pdG) (f := rowD) (l := rows) (fun a _ b _ => rfl)]
  simp only [fSorted, lstOf, hk, Option.bind_some, Ob.seq]
  rw [if_pos (sortOk_rows hne hl), e]
theorem objsL_rows (rows : List (List Nat)) : objsL (rows.map rowD) = [] := by
  induction rows with
  | nil => rfl
  | cons r rows ih => simp [objsL, rowD, D.objs, objsL_nat, ih]
end Gv
namespace Gv
open PySem

/-! ### comprehensions of two clauses, elements that leave the store as it is -/
theorem inner_pure {i1 : ID} {u1 : UD} {c1 : BD} {elt : ED} {vs1 : List Nat} {en1 : En} {st : Sto} {its : List D} {acc0 ys : List D} (hi : ∀ s, i1 en1 s = .ok ⟨its, none⟩ s) (hlen : ys.length = its.length)
    (hs : ∀ (j : Nat) (d : D) (s : Sto), its[j]? = some d → ∃ en2 y, u1 d (wipeE en1 vs1) = some en2 ∧ c1 en2 s = .ok true s ∧ ys[j]? = some y ∧ elt en2 s = .ok y s) (hl : acc0.length + ys.length < 16777216) :
    innerC i1 u1 c1 elt vs1 st.length en1 (st ++ [.lst acc0]) = .ok () (st ++ [.lst (acc0 ++ ys)]) := by
  have hn : ∀ acc : List D, (st ++ [Ob.lst acc])[st.length]? = some (.lst acc) := fun acc => by
    rw [List.getElem?_append_right (Nat.le_refl _), Nat.sub_self]
    rfl
  obtain ⟨acc, s, e, h1, h2, h3⟩ := compL_rule (it := ⟨its, none⟩) (u := u1) (c := c1) (elt := elt) (en := wipeE en1 vs1) (n := st.length) (fun j acc s => s = st ++ [.lst acc] ∧ acc = acc0 ++ ys.take j ∧ j ≤ its.length) (fun j d acc s hd hnn ⟨e1, e2, hj⟩ => by
    subst e1
    have hj' : j < its.length := (List.getElem?_eq_some_iff.mp hd).1
    obtain ⟨en2, y, q1, q2, q3, q4⟩ := hs j d (st ++ [.lst acc]) hd
    refine ⟨rfl, en2, q1, true, _, q2, (fun z => nomatch z), fun _ => ⟨y, _, q4, hnn, ?_, ?_, ?_, hj'⟩⟩
    · rw [e2, List.length_append, List.length_take]
      omega
    · rw [List.set_append_right _ _ (Nat.le_refl _), Nat.sub_self]
      rfl
    · rw [e2, List.append_assoc, List.take_add_one, q3]
      rfl) (fun _ _ _ _ => rfl) _ 0 acc0 (st ++ [.lst acc0]) rfl (Nat.zero_le _) (hn acc0) ⟨rfl, by simp, Nat.zero_le _⟩
  rw [List.drop_zero] at e
  unfold innerC
  rw [hi]
  dsimp only [Re.bind]
  rw [e, h2, h3.1]
  show Re.ok () (st ++ [Ob.lst (acc0 ++ ys.take its.length)]) = _
  rw [← hlen, List.take_length]
theorem LE.map2 {own vs1 : List Nat} {i i1 : ID} {u u1 : UD} {c1 : BD} {elt : ED} {en : En} {st : Sto} {items : List D} (hi : i en st = .ok ⟨items, none⟩ st) (f : Nat → List D)
    (hs : ∀ (k : Nat) (d : D), items[k]? = some d → ∃ (en1 : En) (its : List D), u d (wipeE en own) = some en1 ∧ (∀ s, i1 en1 s = .ok ⟨its, none⟩ s) ∧ (f k).length = its.length ∧
      ∀ (j : Nat) (d1 : D) (s : Sto), its[j]? = some d1 → ∃ en2 y, u1 d1 (wipeE en1 vs1) = some en2 ∧ c1 en2 s = .ok true s ∧ (f k)[j]? = some y ∧ elt en2 s = .ok y s)
    (hl : ((List.range items.length).flatMap f).length < 16777216) : LE (dLC2 own vs1 i u bYes i1 u1 c1 elt) en st ((List.range items.length).flatMap f) := by
  have key : ∀ n k, items.length - k = n → k ≤ items.length → compL2 ⟨items, none⟩ u bYes (innerC i1 u1 c1 elt vs1 st.length) (wipeE en own) k (items.drop k) (st ++ [.lst ((List.range k).flatMap f)]) = .ok () (st ++ [.lst ((List.range items.length).flatMap f)]) := by
    intro n
    induction n with
    | zero =>
      intro k hn hk
      have e : k = items.length := by omega
      subst e
      rw [List.drop_length]
      rfl
    | succ n ih =>
      intro k hn hk
      have hlt : k < items.length := by omega
      obtain ⟨en1, its, q1, q2, q3, q4⟩ := hs k _ (List.getElem?_eq_getElem hlt)
      have hr : (List.range (k + 1)).flatMap f = (List.range k).flatMap f ++ f k := by rw [List.range_succ, List.flatMap_append]; simp
      have hle : ((List.range (k + 1)).flatMap f).length ≤ ((List.range items.length).flatMap f).length := by
        have : List.range items.length = List.range (k + 1) ++ (List.range (items.length - (k + 1))).map (k + 1 + ·) := by
          rw [← List.range_add]
          congr 1
          omega
        rw [this, List.flatMap_append, List.length_append]
        omega
      have hin := inner_pure (st := st) (acc0 := (List.range k).flatMap f) (ys := f k) (i1 := i1) (u1 := u1) (c1 := c1) (elt := elt) (vs1 := vs1) (en1 := en1) q2 q3 q4 (by rw [hr, List.length_append] at hle; omega)
      rw [List.drop_eq_getElem_cons hlt, compL2, if_pos (ok_none _ _ _), q1]
      dsimp only [bYes, Re.bind]
      rw [if_pos rfl, hin]
      dsimp only [Re.bind]
      rw [← hr]
      exact ih (k + 1) (by omega) hlt
  have h := key _ 0 rfl (Nat.zero_le _)
  rw [List.drop_zero] at h
  refine ⟨st.length, [.lst ((List.range items.length).flatMap f)], ?_, by simp, Nat.le_refl _⟩
  simp only [dLC2, hi, Re.bind_ok]
  have e0 : ([] : List D) = (List.range 0).flatMap f := rfl
  rw [e0, h]
  rfl
end Gv
namespace K66
open PySem PySem.Spec L2 Gv
def topS (i : Nat) : Stmt := PySem.Challenge.pw_playvalues_k66_whole_lexicodes_as_lost_c.main.body.getD i (.Pass ⟨0, 0, 0, 0⟩)
abbrev st_least_missing : Stmt := topS 4
def least_missing_b1 : SD := sSet 1 (dOp fAdd (dV 1) (dC (.int 1)))
def least_missing_0 : SD := sSet 1 (dC (.int 0))
def least_missing_1 : SD := sWhile (bCmp (fIn false) (dV 1) (dV 0)) least_missing_b1
def least_missing_2 : SD := sRet (dV 1)
def T_least_missing : FnD := dFc 2 1 (sSeq least_missing_0 (sSeq least_missing_1 least_missing_2))
abbrev st_check_places : Stmt := topS 7
def check_places_0 : SD := sIf (bTru (dGC (dCB fAny (dCons (dLC [1] (iRg1 (dCons (dOp fSub (dCB fLen (dCons (dV 0) dNil)) (dC (.int 1))) dNil)) (uN 1) bYes (dOp fGe (dOp fIx (dV 0) (dV 1)) (dOp fIx (dV 0) (dOp fAdd (dV 1) (dC (.int 1)))))) dNil)))) (sRs1 0 (dCons (dC (.str "places")) dNil)) sSkip
def check_places_1 : SD := sIf (bTru (dGC (dCB fAny (dCons (dLC [2] (iSeq (dV 0)) (uN 2) bYes (dNot (dChain fLe fLt (dC (.int 0)) (dV 2) (dC (.int 64))))) dNil)))) (sRs1 0 (dCons (dC (.str "places")) dNil)) sSkip
def T_check_places : FnD := dFc 3 1 (sSeq check_places_0 check_places_1)
abbrev st_turns : Stmt := topS 8
def turns_0 : SD := sIf (bNot (bChain fLe fLt (dC (.int 0)) (dV 1) (dC (.int 64)))) (sRs1 0 (dCons (dC (.str "place")) dNil)) sSkip
def turns_1 : SD := sIf (bCmp fEq (dV 0) (dC (.str "turtles"))) (sSet 2 (dOp fAdd (dLst (dCons (dTup (dCons (dV 1) dNil)) dNil)) (dLC [3] (iRg1 (dCons (dV 1) dNil)) (uN 3) bYes (dTup (dCons (dV 3) (dCons (dV 1) dNil)))))) (sIf (bCmp fEq (dV 0) (dC (.str "mock"))) (sSeq (sSet 2 (dOp fAdd (dLst (dCons (dTup (dCons (dV 1) dNil)) dNil)) (dLC [3] (iRg1 (dCons (dV 1) dNil)) (uN 3) bYes (dTup (dCons (dV 3) (dCons (dV 1) dNil)))))) (sEx (dM isL fExtend (dV 2) (dCons (dLC2 [3, 4] [4] (iRg1 (dCons (dV 1) dNil)) (uN 3) bYes (iRg1 (dCons (dV 3) dNil)) (uN 4) bYes (dTup (dCons (dV 4) (dCons (dV 3) (dCons (dV 1) dNil))))) dNil)))) (sIf (bCmp fEq (dV 0) (dC (.str "ruler"))) (sSet 2 (dLC [3] (iRg1 (dCons (dOp fAdd (dV 1) (dC (.int 1))) dNil)) (uN 3) bYes (dCB fTuple (dCons dNo dNil)))) (sIf (bCmp fEq (dV 0) (dC (.str "twins"))) (sSet 2 (dLC [3] (iRg1 (dCons (dV 1) dNil)) (uN 3) bYes (dTup (dCons (dV 3) (dCons (dV 1) dNil))))) (sRs1 0 (dCons (dC (.str "kind")) dNil)))))
def turns_2 : SD := sRet (dGC (dCB fTuple (dCons (dCB fSorted (dCons (dV 2) dNil)) dNil)))
def T_turns : FnD := dFc 5 2 (sSeq turns_0 (sSeq turns_1 turns_2))
abbrev st_coin_row : Stmt := topS 9
def coin_row_b1 : SD := sSet 6 (dOp fXor (dV 6) (dOp fIx (dV 2) (dV 7)))
def coin_row_b2 : SD := sSeq (sSet 6 (dC (.int 0))) (sSeq (sFor (iSeq (dSl (dV 5) oNo (oSo (dUn fNeg (dC (.int 1)))))) (uN 7) coin_row_b1) (sEx (dM isL fAppend (dV 4) (dCons (dV 6) dNil))))
def coin_row_b3 : SD := sSeq (sSet 4 (dLst dNil)) (sSeq (sFor (iSeq (dX T_turns (dCons (dV 0) (dCons (dV 3) dNil)))) (uN 5) coin_row_b2) (sEx (dM isL fAppend (dV 2) (dCons (dX T_least_missing (dCons (dV 4) dNil)) dNil))))
def coin_row_0 : SD := sIf (bNot (bChain fLe fLe (dC (.int 0)) (dV 1) (dC (.int 64)))) (sRs1 0 (dCons (dC (.str "many")) dNil)) sSkip
def coin_row_1 : SD := sSet 2 (dLst dNil)
def coin_row_2 : SD := sFor (iRg1 (dCons (dV 1) dNil)) (uN 3) coin_row_b3
def coin_row_3 : SD := sRet (dCB fTuple (dCons (dV 2) dNil))
def T_coin_row : FnD := dFc 8 2 (sSeq coin_row_0 (sSeq coin_row_1 (sSeq coin_row_2 coin_row_3)))
abbrev st_coin_value : Stmt := topS 10
def coin_value_b1 : SD := sSet 3 (dOp fXor (dV 3) (dOp fIx (dV 2) (dV 4)))
def coin_value_0 : SD := sEx (dX T_check_places (dCons (dV 1) dNil))
def coin_value_1 : SD := sSet 2 (dIf (bCmp fGt (dCB fLen (dCons (dV 1) dNil)) (dC (.int 0))) (dX T_coin_row (dCons (dV 0) (dCons (dOp fAdd (dOp fIx (dV 1) (dUn fNeg (dC (.int 1)))) (dC (.int 1))) dNil))) (dTup dNil))
def coin_value_2 : SD := sSet 3 (dC (.int 0))
def coin_value_3 : SD := sFor (iSeq (dV 1)) (uN 4) coin_value_b1
def coin_value_4 : SD := sRet (dV 3)
def T_coin_value : FnD := dFc 5 2 (sSeq coin_value_0 (sSeq coin_value_1 (sSeq coin_value_2 (sSeq coin_value_3 coin_value_4))))
abbrev st_coin_moves : Stmt := topS 11
def coin_moves_b1 : SD := sSet 7 (dOp fXor (dV 7) (dOp fIx (dV 3) (dV 8)))
def coin_moves_b2 : SD := sSeq (sSet 7 (dV 2)) (sSeq (sFor (iSeq (dV 6)) (uN 8) coin_moves_b1) (sIf (bCmp fEq (dV 7) (dC (.int 0))) (sEx (dM isL fAppend (dV 4) (dCons (dV 6) dNil))) sSkip))
def coin_moves_b3 : SD := sFor (iSeq (dX T_turns (dCons (dV 0) (dCons (dV 5) dNil)))) (uN 6) coin_moves_b2
def coin_moves_0 : SD := sEx (dX T_check_places (dCons (dV 1) dNil))
def coin_moves_1 : SD := sSet 2 (dX T_coin_value (dCons (dV 0) (dCons (dV 1) dNil)))
def coin_moves_2 : SD := sSet 3 (dIf (bCmp fGt (dCB fLen (dCons (dV 1) dNil)) (dC (.int 0))) (dX T_coin_row (dCons (dV 0) (dCons (dOp fAdd (dOp fIx (dV 1) (dUn fNeg (dC (.int 1)))) (dC (.int 1))) dNil))) (dTup dNil))
def coin_moves_3 : SD := sSet 4 (dLst dNil)
def coin_moves_4 : SD := sFor (iSeq (dV 1)) (uN 5) coin_moves_b3
def coin_moves_5 : SD := sRet (dGC (dCB fTuple (dCons (dCB fSorted (dCons (dV 4) dNil)) dNil)))
def T_coin_moves : FnD := dFc 9 2 (sSeq coin_moves_0 (sSeq coin_moves_1 (sSeq coin_moves_2 (sSeq coin_moves_3 (sSeq coin_moves_4 coin_moves_5)))))
abbrev st_ones_of : Stmt := topS 12
def ones_of_b1 : SD := sSeq (sSet 1 (dOp fAdd (dV 1) (dOp fMod (dV 0) (dC (.int 2))))) (sSet 0 (dOp fDiv (dV 0) (dC (.int 2))))
def ones_of_0 : SD := sSet 1 (dC (.int 0))
def ones_of_1 : SD := sWhile (bCmp fGt (dV 0) (dC (.int 0))) ones_of_b1
def ones_of_2 : SD := sRet (dV 1)
def T_ones_of : FnD := dFc 2 1 (sSeq ones_of_0 (sSeq ones_of_1 ones_of_2))
abbrev st_lexicode : Stmt := topS 13
def lexicode_b1 : SD := sIf (bTru (dGC (dCB fAll (dCons (dLC [4] (iSeq (dV 2)) (uN 4) bYes (dOp fGe (dX T_ones_of (dCons (dOp fXor (dV 3) (dV 4)) dNil)) (dV 1))) dNil)))) (sEx (dM isL fAppend (dV 2) (dCons (dV 3) dNil))) sSkip
def lexicode_0 : SD := sIf (bNot (bAnd (bChain fLe fLe (dC (.int 1)) (dV 0) (dC (.int 12))) (bChain fLe fLe (dC (.int 1)) (dV 1) (dV 0)))) (sRs1 0 (dCons (dC (.str "length")) dNil)) sSkip
def lexicode_1 : SD := sSet 2 (dLst dNil)
def lexicode_2 : SD := sFor (iRg1 (dCons (dOp fShl (dC (.int 1)) (dV 0)) dNil)) (uN 3) lexicode_b1
def lexicode_3 : SD := sRet (dCB fTuple (dCons (dV 2) dNil))
def T_lexicode : FnD := dFc 5 2 (sSeq lexicode_0 (sSeq lexicode_1 (sSeq lexicode_2 lexicode_3)))
abbrev st__law_begin : Stmt := topS 15
def _law_begin_b1 : SD := sSet 1 (dOp fMod (dOp fAdd (dOp fAdd (dOp fMul (dV 1) (dC (.int 16807))) (dOp fMod (dCB fInt1 (dCons (dV 2) dNil)) (dC (.int 2147483629)))) (dC (.int 5))) (dC (.int 2147483647)))
def _law_begin_0 : SD := sSet 1 (dC (.int 7))
def _law_begin_1 : SD := sFor (iSeq (dV 0)) (uN 2) _law_begin_b1
def _law_begin_2 : SD := sRet (dLst (dCons (dCB fList (dCons (dV 0) dNil)) (dCons (dC (.int 0)) (dCons (dC (.int 0)) (dCons (dV 1) dNil)))))
def T__law_begin : FnD := dFc 3 1 (sSeq _law_begin_0 (sSeq _law_begin_1 _law_begin_2))
abbrev st__law_take : Stmt := topS 16
def _law_take_0 : SD := sIf (bAnd (bCmp fEq (dOp fIx (dV 0) (dC (.int 2))) (dC (.int 0))) (bCmp fLt (dOp fIx (dV 0) (dC (.int 1))) (dCB fLen (dCons (dOp fIx (dV 0) (dC (.int 0))) dNil)))) (sSeq (sSub (dV 0) (dC (.int 2)) (dCB fAbs (dCons (dCB fInt1 (dCons (dOp fIx (dOp fIx (dV 0) (dC (.int 0))) (dOp fIx (dV 0) (dC (.int 1)))) dNil)) dNil))) (sSeq (sSub (dV 0) (dC (.int 1)) (dOp fAdd (dOp fIx (dV 0) (dC (.int 1))) (dC (.int 1)))) (sIf (bCmp fLt (dOp fIx (dV 0) (dC (.int 2))) (dOp fPow (dC (.int 10)) (dC (.int 18)))) (sSeq (sSet 2 (dCB fInt1 (dCons (dOp fIx (dV 0) (dC (.int 2))) dNil))) (sSeq (sSub (dV 0) (dC (.int 2)) (dC (.int 0))) (sRet (dOp fMod (dV 2) (dV 1))))) sSkip))) sSkip
def _law_take_1 : SD := sIf (bCmp fGt (dOp fIx (dV 0) (dC (.int 2))) (dC (.int 0))) (sSeq (sSet 3 (dOp fMod (dCB fInt1 (dCons (dOp fIx (dV 0) (dC (.int 2))) dNil)) (dV 1))) (sSeq (sSub (dV 0) (dC (.int 2)) (dOp fDiv (dCB fInt1 (dCons (dOp fIx (dV 0) (dC (.int 2))) dNil)) (dV 1))) (sRet (dV 3)))) sSkip
def _law_take_2 : SD := sSub (dV 0) (dC (.int 3)) (dOp fMod (dCB fInt1 (dCons (dOp fAdd (dOp fMul (dOp fIx (dV 0) (dC (.int 3))) (dC (.int 48271))) (dC (.int 17))) dNil)) (dC (.int 2147483647)))
def _law_take_3 : SD := sRet (dOp fMod (dCB fInt1 (dCons (dOp fDiv (dOp fIx (dV 0) (dC (.int 3))) (dC (.int 11))) dNil)) (dV 1))
def T__law_take : FnD := dFc 4 2 (sSeq _law_take_0 (sSeq _law_take_1 (sSeq _law_take_2 _law_take_3)))
abbrev st__law_pick : Stmt := topS 17
def _law_pick_0 : SD := sRet (dOp fIx (dV 1) (dX T__law_take (dCons (dV 0) (dCons (dCB fLen (dCons (dV 1) dNil)) dNil))))
def T__law_pick : FnD := dFc 2 2 _law_pick_0
abbrev st__law_power : Stmt := topS 18
def _law_power_b1 : SD := sSet 2 (dOp fMul (dV 2) (dV 0))
def _law_power_0 : SD := sSet 2 (dC (.int 1))
def _law_power_1 : SD := sFor (iRg1 (dCons (dV 1) dNil)) (uN 3) _law_power_b1
def _law_power_2 : SD := sRet (dV 2)
def T__law_power : FnD := dFc 4 2 (sSeq _law_power_0 (sSeq _law_power_1 _law_power_2))
abbrev st__law_in : Stmt := topS 19
def _law_in_0 : SD := sRet (dOp fEq (dOp fMod (dOp fDiv (dV 0) (dX T__law_power (dCons (dC (.int 2)) (dCons (dV 1) dNil)))) (dC (.int 2))) (dC (.int 1)))
def T__law_in : FnD := dFc 2 2 _law_in_0
abbrev st_law : Stmt := topS 20
def law_b1 : SD := sIf (bTru (dX T__law_in (dCons (dV 7) (dCons (dV 9) dNil)))) (sSet 8 (dOp fXor (dV 8) (dOp fIx (dV 6) (dV 9)))) sSkip
def law_b2 : SD := sSeq (sSet 8 (dC (.int 0))) (sSeq (sFor (iRg1 (dCons (dV 2) dNil)) (uN 9) law_b1) (sIf (bCmp fEq (dV 8) (dC (.int 0))) (sEx (dM isL fAppend (dV 5) (dCons (dV 7) dNil))) sSkip))
def law_0 : SD := sSet 1 (dCall T__law_begin (dCons (dV 0) dNil))
def law_1 : SD := sSet 2 (dOp fAdd (dC (.int 4)) (dX T__law_take (dCons (dV 1) (dCons (dC (.int 5)) dNil))))
def law_2 : SD := sSet 3 (dX T__law_pick (dCons (dV 1) (dCons (dLst (dCons (dC (.str "turtles")) (dCons (dC (.str "mock")) dNil))) dNil)))
def law_3 : SD := sSet 4 (dIf (bCmp fEq (dV 3) (dC (.str "turtles"))) (dC (.int 3)) (dC (.int 4)))
def law_4 : SD := sSet 5 (dLst dNil)
def law_5 : SD := sSet 6 (dLC [9] (iRg1 (dCons (dV 2) dNil)) (uN 9) bYes (dX T_coin_value (dCons (dV 3) (dCons (dTup (dCons (dV 9) dNil)) dNil))))
def law_6 : SD := sFor (iRg1 (dCons (dX T__law_power (dCons (dC (.int 2)) (dCons (dV 2) dNil))) dNil)) (uN 7) law_b2
def law_7 : SD := sSet 10 (dX T__law_pick (dCons (dV 1) (dCons (dV 5) dNil)))
def law_8 : SD := sIf (bCmp fNe (dX T_coin_value (dCons (dV 3) (dCons (dGC (dCB fTuple (dCons (dLC [9] (iRg1 (dCons (dV 2) dNil)) (uN 9) (bTru (dX T__law_in (dCons (dV 10) (dCons (dV 9) dNil)))) (dV 9)) dNil))) dNil))) (dC (.int 0))) (sRet (dC (.bl false))) sSkip
def law_9 : SD := sIf (bCmp fNe (dX T_lexicode (dCons (dV 2) (dCons (dV 4) dNil))) (dCB fTuple (dCons (dV 5) dNil))) (sRet (dC (.bl false))) sSkip
def law_10 : SD := sSet 7 (dX T__law_take (dCons (dV 1) (dCons (dX T__law_power (dCons (dC (.int 2)) (dCons (dV 2) dNil))) dNil)))
def law_11 : SD := sSet 11 (dGC (dCB fTuple (dCons (dLC [9] (iRg1 (dCons (dV 2) dNil)) (uN 9) (bTru (dX T__law_in (dCons (dV 7) (dCons (dV 9) dNil)))) (dV 9)) dNil)))
def law_12 : SD := sIf (bCmp fNe (dOp fEq (dGC (dCB fLen (dCons (dX T_coin_moves (dCons (dV 3) (dCons (dV 11) dNil))) dNil))) (dC (.int 0))) (dOp (fIn false) (dV 7) (dV 5))) (sRet (dC (.bl false))) sSkip
def law_13 : SD := sSet 12 (dLC [13] (iRg1 (dCons (dX T__law_power (dCons (dC (.int 2)) (dCons (dV 2) dNil))) dNil)) (uN 13) (bCmp fEq (dOp fMod (dGC (dCB fLen (dCons (dLC [9] (iRg1 (dCons (dV 2) dNil)) (uN 9) (bTru (dX T__law_in (dCons (dV 13) (dCons (dV 9) dNil)))) (dV 9)) dNil))) (dC (.int 2))) (dC (.int 0))) (dV 13))
def law_14 : SD := sRet (dOp fEq (dX T_lexicode (dCons (dV 2) (dCons (dC (.int 2)) dNil))) (dCB fTuple (dCons (dV 12) dNil)))
def T_law : FnD := dFc 14 1 (sSeq law_0 (sSeq law_1 (sSeq law_2 (sSeq law_3 (sSeq law_4 (sSeq law_5 (sSeq law_6 (sSeq law_7 (sSeq law_8 (sSeq law_9 (sSeq law_10 (sSeq law_11 (sSeq law_12 (sSeq law_13 law_14))))))))))))))
structure Bn (P : Program) (w : World) (K : PySem.W.Frag) (mg : Str → Option Value) (base : Heap) (T : Nat → Addr) : Prop where
  m_abs : mg "abs" = none
  m_all : mg "all" = none
  m_any : mg "any" = none
  m_int : mg "int" = none
  m_len : mg "len" = none
  m_list : mg "list" = none
  m_range : mg "range" = none
  m_sorted : mg "sorted" = none
  m_tuple : mg "tuple" = none
  c_LONG : ∃ t, mg "LONG" = some (.int 64 t)
  x_RuleError : Exn P w K mg base T 0 "RuleError"
section
variable {P : Program} {w : World} {K : PySem.W.Frag} {mg : Str → Option Value} {base : Heap} {T : Nat → Addr}
theorem S_least_missing : FnScope ["values", "told"] ["values"] (defScope st_least_missing) := ⟨rfl, rfl, rfl, by decide +kernel, rfl, by decide +kernel, by decide +kernel⟩
theorem d_least_missing {f : Addr} {fd : FuncData} (B : Bn P w K mg base T)  (F : Fun K "least_missing" "least_missing" st_least_missing f fd) : GF P w K mg base T 1 f fd ["values"] T_least_missing :=
  (g_fn (k := 0) F S_least_missing (fun cdv A outer s H E hr tk hp =>
      (gs_cons (gs_set (i := 1) S_least_missing.nd rfl (by first | exact .inl rfl | exact .inr rfl) g_int)
      (gs_cons (gs_while hp (gt_cmp (og_in (u65 hr)) (g_v 1) (g_v 0)) (gs_one (gs_set (i := 1) S_least_missing.nd rfl (by first | exact .inl rfl | exact .inr rfl) (g_op og_add (g_v 1) g_int))))
      (gs_one (gs_ret (g_v 1))))))).clean
theorem c_least_missing {f : Addr} {fd : FuncData} (B : Bn P w K mg base T)  (F : Fun K "least_missing" "least_missing" st_least_missing f fd) (g : mg "least_missing" = some (.ref f)) : Cal P w K mg base T 1 "least_missing" ["values"] T_least_missing :=
  ⟨f, fd, d_least_missing B  F, g, F.kp, F.binds fun _ _ _ _ _ _ us hl => match us, hl with | [_], _ => rfl⟩
theorem S_check_places : FnScope ["places", "k", "place"] ["places"] (defScope st_check_places) := ⟨rfl, rfl, rfl, by decide +kernel, rfl, by decide +kernel, by decide +kernel⟩
theorem d_check_places {f : Addr} {fd : FuncData} (B : Bn P w K mg base T)  (F : Fun K "check_places" "check_places" st_check_places f fd) : GF P w K mg base T 3 f fd ["places"] T_check_places :=
  (g_fn (k := 2) F S_check_places (fun cdv A outer s H E hr tk hp =>
      (gs_cons (gs_if (gt_tru (g_callB (cg_any rfl) B.m_any bt_any (g_cons (g_lc rfl S_check_places.nd (gi_rg1 (g_cons (g_op og_sub (g_callB0 cg_len B.m_len bt_len (g_cons (g_v 0) g_nil)) g_int) g_nil) B.m_range) (own := [("k", 1)]) (blkOk_by (by rfl)) gok_n (fun _ _ _ _ _ => (pg_name (i := 1) S_check_places.nd rfl (by first | exact .inl rfl | exact .inr rfl))) (fun _ _ _ _ _ => gts_nil) (fun _ _ _ _ _ => (g_cmp og_ge (g_ix (u1 hr) (g_v 0) (g_v 1)) (g_ix (u1 hr) (g_v 0) (g_op og_add (g_v 1) g_int))))) g_nil))) (gs_one (g_rs1 B.x_RuleError rfl tk hr (by decide) (g_cons g_str g_nil))) gs_nil)
      (gs_one (gs_if (gt_tru (g_callB (cg_any rfl) B.m_any bt_any (g_cons (g_lc rfl S_check_places.nd (gi_seq (g_v 0)) (own := [("place", 2)]) (blkOk_by (by rfl)) gok_n (fun _ _ _ _ _ => (pg_name (i := 2) S_check_places.nd rfl (by first | exact .inl rfl | exact .inr rfl))) (fun _ _ _ _ _ => gts_nil) (fun _ _ _ _ _ => (g_not (g_chain og_le og_lt g_int (g_v 2) (g_gint B.c_LONG.choose_spec))))) g_nil))) (gs_one (g_rs1 B.x_RuleError rfl tk hr (by decide) (g_cons g_str g_nil))) gs_nil))))).clean
theorem c_check_places {f : Addr} {fd : FuncData} (B : Bn P w K mg base T)  (F : Fun K "check_places" "check_places" st_check_places f fd) (g : mg "check_places" = some (.ref f)) : Cal P w K mg base T 3 "check_places" ["places"] T_check_places :=
  ⟨f, fd, d_check_places B  F, g, F.kp, F.binds fun _ _ _ _ _ _ us hl => match us, hl with | [_], _ => rfl⟩
theorem S_turns : FnScope ["kind", "place", "told", "k", "j"] ["kind", "place"] (defScope st_turns) := ⟨rfl, rfl, rfl, by decide +kernel, rfl, by decide +kernel, by decide +kernel⟩
theorem d_turns {f : Addr} {fd : FuncData} (B : Bn P w K mg base T)  (F : Fun K "turns" "turns" st_turns f fd) : GF P w K mg base T 3 f fd ["kind", "place"] T_turns :=
  (g_fn (k := 2) F S_turns (fun cdv A outer s H E hr tk hp =>
      (gs_cons (gs_if (gt_not (gt_chain og_le og_lt g_int (g_v 1) (g_gint B.c_LONG.choose_spec))) (gs_one (g_rs1 B.x_RuleError rfl tk hr (by decide) (g_cons g_str g_nil))) gs_nil)
      (gs_cons (gs_if (gt_cmp (og_eq hr.units) (g_v 0) g_str) (gs_one (gs_set (i := 2) S_turns.nd rfl (by first | exact .inl rfl | exact .inr rfl) (g_op og_add (g_lst (g_cons (g_tup (g_cons (g_v 1) g_nil)) g_nil)) (g_lc rfl S_turns.nd (gi_rg1 (g_cons (g_v 1) g_nil) B.m_range) (own := [("k", 3)]) (blkOk_by (by rfl)) gok_n (fun _ _ _ _ _ => (pg_name (i := 3) S_turns.nd rfl (by first | exact .inl rfl | exact .inr rfl))) (fun _ _ _ _ _ => gts_nil) (fun _ _ _ _ _ => (g_tup (g_cons (g_v 3) (g_cons (g_v 1) g_nil)))))))) (gs_one (gs_if (gt_cmp (og_eq hr.units) (g_v 0) g_str) (gs_cons (gs_set (i := 2) S_turns.nd rfl (by first | exact .inl rfl | exact .inr rfl) (g_op og_add (g_lst (g_cons (g_tup (g_cons (g_v 1) g_nil)) g_nil)) (g_lc rfl S_turns.nd (gi_rg1 (g_cons (g_v 1) g_nil) B.m_range) (own := [("k", 3)]) (blkOk_by (by rfl)) gok_n (fun _ _ _ _ _ => (pg_name (i := 3) S_turns.nd rfl (by first | exact .inl rfl | exact .inr rfl))) (fun _ _ _ _ _ => gts_nil) (fun _ _ _ _ _ => (g_tup (g_cons (g_v 3) (g_cons (g_v 1) g_nil))))))) (gs_one (gs_ex (g_m PySem.F.slot_list_extend PySem.F.type_list_extend mg_extend (g_v 2) (g_cons (g_lc2 rfl S_turns.nd (gi_rg1 (g_cons (g_v 1) g_nil) B.m_range) (own := [("k", 3), ("j", 4)]) (vs1 := [4]) (blkOk_by (by rfl)) (by decide) (gok_sub gok_n (by decide)) gok_n (fun _ _ _ _ _ => (pg_name (i := 3) S_turns.nd rfl (by first | exact .inl rfl | exact .inr rfl))) (fun _ _ _ _ _ => gts_nil) (fun _ _ _ _ _ => (gi_rg1 (g_cons (g_v 3) g_nil) B.m_range)) (fun _ _ _ _ _ => (pg_name (i := 4) S_turns.nd rfl (by first | exact .inl rfl | exact .inr rfl))) (fun _ _ _ _ _ => gts_nil) (fun _ _ _ _ _ => (g_tup (g_cons (g_v 4) (g_cons (g_v 3) (g_cons (g_v 1) g_nil)))))) g_nil))))) (gs_one (gs_if (gt_cmp (og_eq hr.units) (g_v 0) g_str) (gs_one (gs_setLc (i := 2) rfl S_turns.nd rfl rfl (sw_true rfl rfl rfl rfl) (gi_rg1 (g_cons (g_op og_add (g_v 1) g_int) g_nil) B.m_range) (own := [("k", 3)]) (blkOk_by (by rfl)) gok_n (fun _ _ _ _ _ => (pg_name (i := 3) S_turns.nd rfl (by first | exact .inl rfl | exact .inr rfl))) (fun _ _ _ _ _ => gts_nil) (fun _ _ _ _ _ => (g_callT0 cg_tuple B.m_tuple bt_tuple (g_cons g_no g_nil))))) (gs_one (gs_if (gt_cmp (og_eq hr.units) (g_v 0) g_str) (gs_one (gs_setLc (i := 2) rfl S_turns.nd rfl rfl (sw_true rfl rfl rfl rfl) (gi_rg1 (g_cons (g_v 1) g_nil) B.m_range) (own := [("k", 3)]) (blkOk_by (by rfl)) gok_n (fun _ _ _ _ _ => (pg_name (i := 3) S_turns.nd rfl (by first | exact .inl rfl | exact .inr rfl))) (fun _ _ _ _ _ => gts_nil) (fun _ _ _ _ _ => (g_tup (g_cons (g_v 3) (g_cons (g_v 1) g_nil)))))) (gs_one (g_rs1 B.x_RuleError rfl tk hr (by decide) (g_cons g_str g_nil))))))))))
      (gs_one (gs_ret (g_callT cg_tuple B.m_tuple bt_tuple (g_cons (g_callB0 (cg_sorted rfl hr.units) B.m_sorted bt_sorted (g_cons (g_v 2) g_nil)) g_nil)))))))).clean
theorem c_turns {f : Addr} {fd : FuncData} (B : Bn P w K mg base T)  (F : Fun K "turns" "turns" st_turns f fd) (g : mg "turns" = some (.ref f)) : Cal P w K mg base T 3 "turns" ["kind", "place"] T_turns :=
  ⟨f, fd, d_turns B  F, g, F.kp, F.binds fun _ _ _ _ _ _ us hl => match us, hl with | [_, _], _ => rfl⟩
theorem S_coin_row : FnScope ["kind", "many", "row", "place", "values", "turned", "total", "at"] ["kind", "many"] (defScope st_coin_row) := ⟨rfl, rfl, rfl, by decide +kernel, rfl, by decide +kernel, by decide +kernel⟩
theorem d_coin_row {f : Addr} {fd : FuncData} (B : Bn P w K mg base T) (c_turns : Cal P w K mg base T 3 "turns" ["kind", "place"] T_turns) (c_least_missing : Cal P w K mg base T 1 "least_missing" ["values"] T_least_missing) (F : Fun K "coin_row" "coin_row" st_coin_row f fd) : GF P w K mg base T 4 f fd ["kind", "many"] T_coin_row :=
  (g_fn (k := 3) F S_coin_row (fun cdv A outer s H E hr tk hp =>
      (gs_cons (gs_if (gt_not (gt_chain og_le og_le g_int (g_v 1) (g_gint B.c_LONG.choose_spec))) (gs_one (g_rs1 B.x_RuleError rfl tk hr (by decide) (g_cons g_str g_nil))) gs_nil)
      (gs_cons (gs_set (i := 2) S_coin_row.nd rfl (by first | exact .inl rfl | exact .inr rfl) (g_lst g_nil))
      (gs_cons (gs_for hp rfl (gi_rg1 (g_cons (g_v 1) g_nil) B.m_range) (pg_name (i := 3) S_coin_row.nd rfl (by first | exact .inl rfl | exact .inr rfl)) gok_n (gs_cons (gs_set (i := 4) S_coin_row.nd rfl (by first | exact .inl rfl | exact .inr rfl) (g_lst g_nil)) (gs_cons (gs_for hp rfl (gi_seq (g_cX c_turns hr (by decide) tk (g_cons (g_v 0) (g_cons (g_v 3) g_nil)))) (pg_name (i := 5) S_coin_row.nd rfl (by first | exact .inl rfl | exact .inr rfl)) gok_n (gs_cons (gs_set (i := 6) S_coin_row.nd rfl (by first | exact .inl rfl | exact .inr rfl) g_int) (gs_cons (gs_for hp rfl (gi_seq (g_sl (g_v 5) go_no (go_so (g_neg g_int)))) (pg_name (i := 7) S_coin_row.nd rfl (by first | exact .inl rfl | exact .inr rfl)) gok_n (gs_one (gs_set (i := 6) S_coin_row.nd rfl (by first | exact .inl rfl | exact .inr rfl) (g_op og_xor (g_v 6) (g_ix (u1 hr) (g_v 2) (g_v 7)))))) (gs_one (gs_ex (g_m PySem.F.slot_list_append PySem.F.type_list_append mg_append (g_v 4) (g_cons (g_v 6) g_nil))))))) (gs_one (gs_ex (g_m PySem.F.slot_list_append PySem.F.type_list_append mg_append (g_v 2) (g_cons (g_cX c_least_missing hr (by decide) tk (g_cons (g_v 4) g_nil)) g_nil)))))))
      (gs_one (gs_ret (g_callT0 cg_tuple B.m_tuple bt_tuple (g_cons (g_v 2) g_nil))))))))).clean
theorem c_coin_row {f : Addr} {fd : FuncData} (B : Bn P w K mg base T) (c_turns : Cal P w K mg base T 3 "turns" ["kind", "place"] T_turns) (c_least_missing : Cal P w K mg base T 1 "least_missing" ["values"] T_least_missing) (F : Fun K "coin_row" "coin_row" st_coin_row f fd) (g : mg "coin_row" = some (.ref f)) : Cal P w K mg base T 4 "coin_row" ["kind", "many"] T_coin_row :=
  ⟨f, fd, d_coin_row B c_turns c_least_missing F, g, F.kp, F.binds fun _ _ _ _ _ _ us hl => match us, hl with | [_, _], _ => rfl⟩
theorem S_coin_value : FnScope ["kind", "places", "row", "total", "place"] ["kind", "places"] (defScope st_coin_value) := ⟨rfl, rfl, rfl, by decide +kernel, rfl, by decide +kernel, by decide +kernel⟩
theorem d_coin_value {f : Addr} {fd : FuncData} (B : Bn P w K mg base T) (c_check_places : Cal P w K mg base T 3 "check_places" ["places"] T_check_places) (c_coin_row : Cal P w K mg base T 4 "coin_row" ["kind", "many"] T_coin_row) (F : Fun K "coin_value" "coin_value" st_coin_value f fd) : GF P w K mg base T 5 f fd ["kind", "places"] T_coin_value :=
  (g_fn (k := 4) F S_coin_value (fun cdv A outer s H E hr tk hp =>
      (gs_cons (gs_ex (g_cX c_check_places hr (by decide) tk (g_cons (g_v 1) g_nil)))
      (gs_cons (gs_set (i := 2) S_coin_value.nd rfl (by first | exact .inl rfl | exact .inr rfl) (g_if (gt_cmp og_gt (g_callB0 cg_len B.m_len bt_len (g_cons (g_v 1) g_nil)) g_int) (g_cX c_coin_row hr (by decide) tk (g_cons (g_v 0) (g_cons (g_op og_add (g_ix (u1 hr) (g_v 1) (g_neg g_int)) g_int) g_nil))) (g_tup g_nil)))
      (gs_cons (gs_set (i := 3) S_coin_value.nd rfl (by first | exact .inl rfl | exact .inr rfl) g_int)
      (gs_cons (gs_for hp rfl (gi_seq (g_v 1)) (pg_name (i := 4) S_coin_value.nd rfl (by first | exact .inl rfl | exact .inr rfl)) gok_n (gs_one (gs_set (i := 3) S_coin_value.nd rfl (by first | exact .inl rfl | exact .inr rfl) (g_op og_xor (g_v 3) (g_ix (u1 hr) (g_v 2) (g_v 4))))))
      (gs_one (gs_ret (g_v 3))))))))).clean
theorem c_coin_value {f : Addr} {fd : FuncData} (B : Bn P w K mg base T) (c_check_places : Cal P w K mg base T 3 "check_places" ["places"] T_check_places) (c_coin_row : Cal P w K mg base T 4 "coin_row" ["kind", "many"] T_coin_row) (F : Fun K "coin_value" "coin_value" st_coin_value f fd) (g : mg "coin_value" = some (.ref f)) : Cal P w K mg base T 5 "coin_value" ["kind", "places"] T_coin_value :=
  ⟨f, fd, d_coin_value B c_check_places c_coin_row F, g, F.kp, F.binds fun _ _ _ _ _ _ us hl => match us, hl with | [_, _], _ => rfl⟩
theorem S_coin_moves : FnScope ["kind", "places", "total", "row", "told", "place", "turned", "rest", "at"] ["kind", "places"] (defScope st_coin_moves) := ⟨rfl, rfl, rfl, by decide +kernel, rfl, by decide +kernel, by decide +kernel⟩
theorem d_coin_moves {f : Addr} {fd : FuncData} (B : Bn P w K mg base T) (c_check_places : Cal P w K mg base T 3 "check_places" ["places"] T_check_places) (c_coin_value : Cal P w K mg base T 5 "coin_value" ["kind", "places"] T_coin_value) (c_coin_row : Cal P w K mg base T 4 "coin_row" ["kind", "many"] T_coin_row) (c_turns : Cal P w K mg base T 3 "turns" ["kind", "place"] T_turns) (F : Fun K "coin_moves" "coin_moves" st_coin_moves f fd) : GF P w K mg base T 6 f fd ["kind", "places"] T_coin_moves :=
  (g_fn (k := 5) F S_coin_moves (fun cdv A outer s H E hr tk hp =>
      (gs_cons (gs_ex (g_cX c_check_places hr (by decide) tk (g_cons (g_v 1) g_nil)))
      (gs_cons (gs_set (i := 2) S_coin_moves.nd rfl (by first | exact .inl rfl | exact .inr rfl) (g_cX c_coin_value hr (by decide) tk (g_cons (g_v 0) (g_cons (g_v 1) g_nil))))
      (gs_cons (gs_set (i := 3) S_coin_moves.nd rfl (by first | exact .inl rfl | exact .inr rfl) (g_if (gt_cmp og_gt (g_callB0 cg_len B.m_len bt_len (g_cons (g_v 1) g_nil)) g_int) (g_cX c_coin_row hr (by decide) tk (g_cons (g_v 0) (g_cons (g_op og_add (g_ix (u1 hr) (g_v 1) (g_neg g_int)) g_int) g_nil))) (g_tup g_nil)))
      (gs_cons (gs_set (i := 4) S_coin_moves.nd rfl (by first | exact .inl rfl | exact .inr rfl) (g_lst g_nil))
      (gs_cons (gs_for hp rfl (gi_seq (g_v 1)) (pg_name (i := 5) S_coin_moves.nd rfl (by first | exact .inl rfl | exact .inr rfl)) gok_n (gs_one (gs_for hp rfl (gi_seq (g_cX c_turns hr (by decide) tk (g_cons (g_v 0) (g_cons (g_v 5) g_nil)))) (pg_name (i := 6) S_coin_moves.nd rfl (by first | exact .inl rfl | exact .inr rfl)) gok_n (gs_cons (gs_set (i := 7) S_coin_moves.nd rfl (by first | exact .inl rfl | exact .inr rfl) (g_v 2)) (gs_cons (gs_for hp rfl (gi_seq (g_v 6)) (pg_name (i := 8) S_coin_moves.nd rfl (by first | exact .inl rfl | exact .inr rfl)) gok_n (gs_one (gs_set (i := 7) S_coin_moves.nd rfl (by first | exact .inl rfl | exact .inr rfl) (g_op og_xor (g_v 7) (g_ix (u1 hr) (g_v 3) (g_v 8)))))) (gs_one (gs_if (gt_cmp (og_eq hr.units) (g_v 7) g_int) (gs_one (gs_ex (g_m PySem.F.slot_list_append PySem.F.type_list_append mg_append (g_v 4) (g_cons (g_v 6) g_nil)))) gs_nil)))))))
      (gs_one (gs_ret (g_callT cg_tuple B.m_tuple bt_tuple (g_cons (g_callB0 (cg_sorted rfl hr.units) B.m_sorted bt_sorted (g_cons (g_v 4) g_nil)) g_nil))))))))))).clean
theorem c_coin_moves {f : Addr} {fd : FuncData} (B : Bn P w K mg base T) (c_check_places : Cal P w K mg base T 3 "check_places" ["places"] T_check_places) (c_coin_value : Cal P w K mg base T 5 "coin_value" ["kind", "places"] T_coin_value) (c_coin_row : Cal P w K mg base T 4 "coin_row" ["kind", "many"] T_coin_row) (c_turns : Cal P w K mg base T 3 "turns" ["kind", "place"] T_turns) (F : Fun K "coin_moves" "coin_moves" st_coin_moves f fd) (g : mg "coin_moves" = some (.ref f)) : Cal P w K mg base T 6 "coin_moves" ["kind", "places"] T_coin_moves :=
  ⟨f, fd, d_coin_moves B c_check_places c_coin_value c_coin_row c_turns F, g, F.kp, F.binds fun _ _ _ _ _ _ us hl => match us, hl with | [_, _], _ => rfl⟩
theorem S_ones_of : FnScope ["number", "told"] ["number"] (defScope st_ones_of) := ⟨rfl, rfl, rfl, by decide +kernel, rfl, by decide +kernel, by decide +kernel⟩
theorem d_ones_of {f : Addr} {fd : FuncData} (B : Bn P w K mg base T)  (F : Fun K "ones_of" "ones_of" st_ones_of f fd) : GF P w K mg base T 1 f fd ["number"] T_ones_of :=
  (g_fn (k := 0) F S_ones_of (fun cdv A outer s H E hr tk hp =>
      (gs_cons (gs_set (i := 1) S_ones_of.nd rfl (by first | exact .inl rfl | exact .inr rfl) g_int)
      (gs_cons (gs_while hp (gt_cmp og_gt (g_v 0) g_int) (gs_cons (gs_set (i := 1) S_ones_of.nd rfl (by first | exact .inl rfl | exact .inr rfl) (g_op og_add (g_v 1) (g_op og_mod (g_v 0) g_int))) (gs_one (gs_set (i := 0) S_ones_of.nd rfl (by first | exact .inl rfl | exact .inr rfl) (g_op og_div (g_v 0) g_int)))))
      (gs_one (gs_ret (g_v 1))))))).clean
theorem c_ones_of {f : Addr} {fd : FuncData} (B : Bn P w K mg base T)  (F : Fun K "ones_of" "ones_of" st_ones_of f fd) (g : mg "ones_of" = some (.ref f)) : Cal P w K mg base T 1 "ones_of" ["number"] T_ones_of :=
  ⟨f, fd, d_ones_of B  F, g, F.kp, F.binds fun _ _ _ _ _ _ us hl => match us, hl with | [_], _ => rfl⟩
theorem S_lexicode : FnScope ["length", "gap", "told", "number", "one"] ["length", "gap"] (defScope st_lexicode) := ⟨rfl, rfl, rfl, by decide +kernel, rfl, by decide +kernel, by decide +kernel⟩
theorem d_lexicode {f : Addr} {fd : FuncData} (B : Bn P w K mg base T) (c_ones_of : Cal P w K mg base T 1 "ones_of" ["number"] T_ones_of) (F : Fun K "lexicode" "lexicode" st_lexicode f fd) : GF P w K mg base T 3 f fd ["length", "gap"] T_lexicode :=
  (g_fn (k := 2) F S_lexicode (fun cdv A outer s H E hr tk hp =>
      (gs_cons (gs_if (gt_not (gt_w (gw_and (gt_chain og_le og_le g_int (g_v 0) g_int) (gw_and1 (gt_chain og_le og_le g_int (g_v 1) (g_v 0)))))) (gs_one (g_rs1 B.x_RuleError rfl tk hr (by decide) (g_cons g_str g_nil))) gs_nil)
      (gs_cons (gs_set (i := 2) S_lexicode.nd rfl (by first | exact .inl rfl | exact .inr rfl) (g_lst g_nil))
      (gs_cons (gs_for hp rfl (gi_rg1 (g_cons (g_op og_shl g_int (g_v 0)) g_nil) B.m_range) (pg_name (i := 3) S_lexicode.nd rfl (by first | exact .inl rfl | exact .inr rfl)) gok_n (gs_one (gs_if (gt_tru (g_callB (cg_all rfl) B.m_all bt_all (g_cons (g_lc rfl S_lexicode.nd (gi_seq (g_v 2)) (own := [("one", 4)]) (blkOk_by (by rfl)) gok_n (fun _ _ _ _ _ => (pg_name (i := 4) S_lexicode.nd rfl (by first | exact .inl rfl | exact .inr rfl))) (fun _ _ _ _ _ => gts_nil) (fun _ _ _ _ _ => (g_cmp og_ge (g_cX c_ones_of hr (by decide) takes0 (g_cons (g_op og_xor (g_v 3) (g_v 4)) g_nil)) (g_v 1)))) g_nil))) (gs_one (gs_ex (g_m PySem.F.slot_list_append PySem.F.type_list_append mg_append (g_v 2) (g_cons (g_v 3) g_nil)))) gs_nil)))
      (gs_one (gs_ret (g_callT0 cg_tuple B.m_tuple bt_tuple (g_cons (g_v 2) g_nil))))))))).clean
theorem c_lexicode {f : Addr} {fd : FuncData} (B : Bn P w K mg base T) (c_ones_of : Cal P w K mg base T 1 "ones_of" ["number"] T_ones_of) (F : Fun K "lexicode" "lexicode" st_lexicode f fd) (g : mg "lexicode" = some (.ref f)) : Cal P w K mg base T 3 "lexicode" ["length", "gap"] T_lexicode :=
  ⟨f, fd, d_lexicode B c_ones_of F, g, F.kp, F.binds fun _ _ _ _ _ _ us hl => match us, hl with | [_, _], _ => rfl⟩
theorem S__law_begin : FnScope ["script", "seed", "cell"] ["script"] (defScope st__law_begin) := ⟨rfl, rfl, rfl, by decide +kernel, rfl, by decide +kernel, by decide +kernel⟩
theorem d__law_begin {f : Addr} {fd : FuncData} (B : Bn P w K mg base T)  (F : Fun K "_law_begin" "_law_begin" st__law_begin f fd) : GF P w K mg base T 1 f fd ["script"] T__law_begin :=
  (g_fn (k := 0) F S__law_begin (fun cdv A outer s H E hr tk hp =>
      (gs_cons (gs_set (i := 1) S__law_begin.nd rfl (by first | exact .inl rfl | exact .inr rfl) g_int)
      (gs_cons (gs_for hp rfl (gi_seq (g_v 0)) (pg_name (i := 2) S__law_begin.nd rfl (by first | exact .inl rfl | exact .inr rfl)) gok_n (gs_one (gs_set (i := 1) S__law_begin.nd rfl (by first | exact .inl rfl | exact .inr rfl) (g_op og_mod (g_op og_add (g_op og_add (g_op og_mul (g_v 1) g_int) (g_op og_mod (g_callT0 cg_int B.m_int bt_int (g_cons (g_v 2) g_nil)) g_int)) g_int) g_int))))
      (gs_one (gs_ret (g_lst (g_cons (g_callT0 cg_list B.m_list bt_list (g_cons (g_v 0) g_nil)) (g_cons g_int (g_cons g_int (g_cons (g_v 1) g_nil))))))))))).clean
theorem c__law_begin {f : Addr} {fd : FuncData} (B : Bn P w K mg base T)  (F : Fun K "_law_begin" "_law_begin" st__law_begin f fd) (g : mg "_law_begin" = some (.ref f)) : Cal P w K mg base T 1 "_law_begin" ["script"] T__law_begin :=
  ⟨f, fd, d__law_begin B  F, g, F.kp, F.binds fun _ _ _ _ _ _ us hl => match us, hl with | [_], _ => rfl⟩
theorem S__law_take : FnScope ["d", "many", "small", "digit"] ["d", "many"] (defScope st__law_take) := ⟨rfl, rfl, rfl, by decide +kernel, rfl, by decide +kernel, by decide +kernel⟩
theorem d__law_take {f : Addr} {fd : FuncData} (B : Bn P w K mg base T)  (F : Fun K "_law_take" "_law_take" st__law_take f fd) : GF P w K mg base T 1 f fd ["d", "many"] T__law_take :=
  (g_fn (k := 0) F S__law_take (fun cdv A outer s H E hr tk hp =>
      (gs_cons (gs_if (gt_w (gw_and (gt_cmp (og_eq hr.units) (g_ix (u1 hr) (g_v 0) g_int) g_int) (gw_and1 (gt_cmp og_lt (g_ix (u1 hr) (g_v 0) g_int) (g_callB0 cg_len B.m_len bt_len (g_cons (g_ix (u1 hr) (g_v 0) g_int) g_nil)))))) (gs_cons (gs_sub (u1 hr) (g_v 0) g_int (g_callB0 cg_abs B.m_abs bt_abs (g_cons (g_callT0 cg_int B.m_int bt_int (g_cons (g_ix (u1 hr) (g_ix (u1 hr) (g_v 0) g_int) (g_ix (u1 hr) (g_v 0) g_int)) g_nil)) g_nil))) (gs_cons (gs_sub (u1 hr) (g_v 0) g_int (g_op og_add (g_ix (u1 hr) (g_v 0) g_int) g_int)) (gs_one (gs_if (gt_cmp og_lt (g_ix (u1 hr) (g_v 0) g_int) (g_op og_pow g_int g_int)) (gs_cons (gs_set (i := 2) S__law_take.nd rfl (by first | exact .inl rfl | exact .inr rfl) (g_callT0 cg_int B.m_int bt_int (g_cons (g_ix (u1 hr) (g_v 0) g_int) g_nil))) (gs_cons (gs_sub (u1 hr) (g_v 0) g_int g_int) (gs_one (gs_ret (g_op og_mod (g_v 2) (g_v 1)))))) gs_nil)))) gs_nil)
      (gs_cons (gs_if (gt_cmp og_gt (g_ix (u1 hr) (g_v 0) g_int) g_int) (gs_cons (gs_set (i := 3) S__law_take.nd rfl (by first | exact .inl rfl | exact .inr rfl) (g_op og_mod (g_callT0 cg_int B.m_int bt_int (g_cons (g_ix (u1 hr) (g_v 0) g_int) g_nil)) (g_v 1))) (gs_cons (gs_sub (u1 hr) (g_v 0) g_int (g_op og_div (g_callT0 cg_int B.m_int bt_int (g_cons (g_ix (u1 hr) (g_v 0) g_int) g_nil)) (g_v 1))) (gs_one (gs_ret (g_v 3))))) gs_nil)
      (gs_cons (gs_sub (u1 hr) (g_v 0) g_int (g_op og_mod (g_callT0 cg_int B.m_int bt_int (g_cons (g_op og_add (g_op og_mul (g_ix (u1 hr) (g_v 0) g_int) g_int) g_int) g_nil)) g_int))
      (gs_one (gs_ret (g_op og_mod (g_callT0 cg_int B.m_int bt_int (g_cons (g_op og_div (g_ix (u1 hr) (g_v 0) g_int) g_int) g_nil)) (g_v 1))))))))).clean
theorem c__law_take {f : Addr} {fd : FuncData} (B : Bn P w K mg base T)  (F : Fun K "_law_take" "_law_take" st__law_take f fd) (g : mg "_law_take" = some (.ref f)) : Cal P w K mg base T 1 "_law_take" ["d", "many"] T__law_take :=
  ⟨f, fd, d__law_take B  F, g, F.kp, F.binds fun _ _ _ _ _ _ us hl => match us, hl with | [_, _], _ => rfl⟩
theorem S__law_pick : FnScope ["d", "menu"] ["d", "menu"] (defScope st__law_pick) := ⟨rfl, rfl, rfl, by decide +kernel, rfl, by decide +kernel, by decide +kernel⟩
theorem d__law_pick {f : Addr} {fd : FuncData} (B : Bn P w K mg base T) (c__law_take : Cal P w K mg base T 1 "_law_take" ["d", "many"] T__law_take) (F : Fun K "_law_pick" "_law_pick" st__law_pick f fd) : GF P w K mg base T 2 f fd ["d", "menu"] T__law_pick :=
  (g_fn (k := 1) F S__law_pick (fun cdv A outer s H E hr tk hp =>
      (gs_one (gs_ret (g_ix (u1 hr) (g_v 1) (g_cX c__law_take hr (by decide) tk (g_cons (g_v 0) (g_cons (g_callB0 cg_len B.m_len bt_len (g_cons (g_v 1) g_nil)) g_nil)))))))).clean
theorem c__law_pick {f : Addr} {fd : FuncData} (B : Bn P w K mg base T) (c__law_take : Cal P w K mg base T 1 "_law_take" ["d", "many"] T__law_take) (F : Fun K "_law_pick" "_law_pick" st__law_pick f fd) (g : mg "_law_pick" = some (.ref f)) : Cal P w K mg base T 2 "_law_pick" ["d", "menu"] T__law_pick :=
  ⟨f, fd, d__law_pick B c__law_take F, g, F.kp, F.binds fun _ _ _ _ _ _ us hl => match us, hl with | [_, _], _ => rfl⟩
theorem S__law_power : FnScope ["number", "exponent", "told", "k"] ["number", "exponent"] (defScope st__law_power) := ⟨rfl, rfl, rfl, by decide +kernel, rfl, by decide +kernel, by decide +kernel⟩
theorem d__law_power {f : Addr} {fd : FuncData} (B : Bn P w K mg base T)  (F : Fun K "_law_power" "_law_power" st__law_power f fd) : GF P w K mg base T 1 f fd ["number", "exponent"] T__law_power :=
  (g_fn (k := 0) F S__law_power (fun cdv A outer s H E hr tk hp =>
      (gs_cons (gs_set (i := 2) S__law_power.nd rfl (by first | exact .inl rfl | exact .inr rfl) g_int)
      (gs_cons (gs_for hp rfl (gi_rg1 (g_cons (g_v 1) g_nil) B.m_range) (pg_name (i := 3) S__law_power.nd rfl (by first | exact .inl rfl | exact .inr rfl)) gok_n (gs_one (gs_set (i := 2) S__law_power.nd rfl (by first | exact .inl rfl | exact .inr rfl) (g_op og_mul (g_v 2) (g_v 0)))))
      (gs_one (gs_ret (g_v 2))))))).clean
theorem c__law_power {f : Addr} {fd : FuncData} (B : Bn P w K mg base T)  (F : Fun K "_law_power" "_law_power" st__law_power f fd) (g : mg "_law_power" = some (.ref f)) : Cal P w K mg base T 1 "_law_power" ["number", "exponent"] T__law_power :=
  ⟨f, fd, d__law_power B  F, g, F.kp, F.binds fun _ _ _ _ _ _ us hl => match us, hl with | [_, _], _ => rfl⟩
theorem S__law_in : FnScope ["number", "k"] ["number", "k"] (defScope st__law_in) := ⟨rfl, rfl, rfl, by decide +kernel, rfl, by decide +kernel, by decide +kernel⟩
theorem d__law_in {f : Addr} {fd : FuncData} (B : Bn P w K mg base T) (c__law_power : Cal P w K mg base T 1 "_law_power" ["number", "exponent"] T__law_power) (F : Fun K "_law_in" "_law_in" st__law_in f fd) : GF P w K mg base T 2 f fd ["number", "k"] T__law_in :=
  (g_fn (k := 1) F S__law_in (fun cdv A outer s H E hr tk hp =>
      (gs_one (gs_ret (g_cmp (og_eq hr.units) (g_op og_mod (g_op og_div (g_v 0) (g_cX c__law_power hr (by decide) tk (g_cons g_int (g_cons (g_v 1) g_nil)))) g_int) g_int))))).clean
theorem c__law_in {f : Addr} {fd : FuncData} (B : Bn P w K mg base T) (c__law_power : Cal P w K mg base T 1 "_law_power" ["number", "exponent"] T__law_power) (F : Fun K "_law_in" "_law_in" st__law_in f fd) (g : mg "_law_in" = some (.ref f)) : Cal P w K mg base T 2 "_law_in" ["number", "k"] T__law_in :=
  ⟨f, fd, d__law_in B c__law_power F, g, F.kp, F.binds fun _ _ _ _ _ _ us hl => match us, hl with | [_, _], _ => rfl⟩
theorem S_law : FnScope ["script", "d", "length", "kind", "gap", "lost", "sizes", "number", "total", "k", "some", "heads", "even", "x"] ["script"] (defScope st_law) := ⟨rfl, rfl, rfl, by decide +kernel, rfl, by decide +kernel, by decide +kernel⟩
theorem d_law {f : Addr} {fd : FuncData} (B : Bn P w K mg base T) (c__law_begin : Cal P w K mg base T 1 "_law_begin" ["script"] T__law_begin) (c__law_take : Cal P w K mg base T 1 "_law_take" ["d", "many"] T__law_take) (c__law_pick : Cal P w K mg base T 2 "_law_pick" ["d", "menu"] T__law_pick) (c_coin_value : Cal P w K mg base T 5 "coin_value" ["kind", "places"] T_coin_value) (c__law_power : Cal P w K mg base T 1 "_law_power" ["number", "exponent"] T__law_power) (c__law_in : Cal P w K mg base T 2 "_law_in" ["number", "k"] T__law_in) (c_lexicode : Cal P w K mg base T 3 "lexicode" ["length", "gap"] T_lexicode) (c_coin_moves : Cal P w K mg base T 6 "coin_moves" ["kind", "places"] T_coin_moves) (F : Fun K "law" "law" st_law f fd) : GF P w K mg base T 7 f fd ["script"] T_law :=
  (g_fn (k := 6) F S_law (fun cdv A outer s H E hr tk hp =>
      (gs_cons (gs_set (i := 1) S_law.nd rfl (by first | exact .inl rfl | exact .inr rfl) (g_cC c__law_begin hr (by decide) tk (g_cons (g_v 0) g_nil)))
      (gs_cons (gs_set (i := 2) S_law.nd rfl (by first | exact .inl rfl | exact .inr rfl) (g_op og_add g_int (g_cX c__law_take hr (by decide) tk (g_cons (g_v 1) (g_cons g_int g_nil)))))
      (gs_cons (gs_set (i := 3) S_law.nd rfl (by first | exact .inl rfl | exact .inr rfl) (g_cX c__law_pick hr (by decide) tk (g_cons (g_v 1) (g_cons (g_lst (g_cons g_str (g_cons g_str g_nil))) g_nil))))
      (gs_cons (gs_set (i := 4) S_law.nd rfl (by first | exact .inl rfl | exact .inr rfl) (g_if (gt_cmp (og_eq hr.units) (g_v 3) g_str) g_int g_int))
      (gs_cons (gs_set (i := 5) S_law.nd rfl (by first | exact .inl rfl | exact .inr rfl) (g_lst g_nil))
      (gs_cons (gs_setLc (i := 6) rfl S_law.nd rfl rfl (sw_true rfl rfl rfl rfl) (gi_rg1 (g_cons (g_v 2) g_nil) B.m_range) (own := [("k", 9)]) (blkOk_by (by rfl)) gok_n (fun _ _ _ _ _ => (pg_name (i := 9) S_law.nd rfl (by first | exact .inl rfl | exact .inr rfl))) (fun _ _ _ _ _ => gts_nil) (fun _ _ _ _ _ => (g_cX c_coin_value hr (by decide) takes0 (g_cons (g_v 3) (g_cons (g_tup (g_cons (g_v 9) g_nil)) g_nil)))))
      (gs_cons (gs_for hp rfl (gi_rg1 (g_cons (g_cX c__law_power hr (by decide) tk (g_cons g_int (g_cons (g_v 2) g_nil))) g_nil) B.m_range) (pg_name (i := 7) S_law.nd rfl (by first | exact .inl rfl | exact .inr rfl)) gok_n (gs_cons (gs_set (i := 8) S_law.nd rfl (by first | exact .inl rfl | exact .inr rfl) g_int) (gs_cons (gs_for hp rfl (gi_rg1 (g_cons (g_v 2) g_nil) B.m_range) (pg_name (i := 9) S_law.nd rfl (by first | exact .inl rfl | exact .inr rfl)) gok_n (gs_one (gs_if (gt_tru (g_cX c__law_in hr (by decide) tk (g_cons (g_v 7) (g_cons (g_v 9) g_nil)))) (gs_one (gs_set (i := 8) S_law.nd rfl (by first | exact .inl rfl | exact .inr rfl) (g_op og_xor (g_v 8) (g_ix (u1 hr) (g_v 6) (g_v 9))))) gs_nil))) (gs_one (gs_if (gt_cmp (og_eq hr.units) (g_v 8) g_int) (gs_one (gs_ex (g_m PySem.F.slot_list_append PySem.F.type_list_append mg_append (g_v 5) (g_cons (g_v 7) g_nil)))) gs_nil)))))
      (gs_cons (gs_set (i := 10) S_law.nd rfl (by first | exact .inl rfl | exact .inr rfl) (g_cX c__law_pick hr (by decide) tk (g_cons (g_v 1) (g_cons (g_v 5) g_nil))))
      (gs_cons (gs_if (gt_cmp (og_ne hr.units) (g_cX c_coin_value hr (by decide) tk (g_cons (g_v 3) (g_cons (g_callT cg_tuple B.m_tuple bt_tuple (g_cons (g_lc rfl S_law.nd (gi_rg1 (g_cons (g_v 2) g_nil) B.m_range) (own := [("k", 9)]) (blkOk_by (by rfl)) gok_n (fun _ _ _ _ _ => (pg_name (i := 9) S_law.nd rfl (by first | exact .inl rfl | exact .inr rfl))) (fun _ _ _ _ _ => (gts_one (gt_tru (g_cX c__law_in hr (by decide) takes0 (g_cons (g_v 10) (g_cons (g_v 9) g_nil)))))) (fun _ _ _ _ _ => (g_v 9))) g_nil)) g_nil))) g_int) (gs_one (gs_ret g_bl)) gs_nil)
      (gs_cons (gs_if (gt_cmp (og_ne hr.units) (g_cX c_lexicode hr (by decide) tk (g_cons (g_v 2) (g_cons (g_v 4) g_nil))) (g_callT0 cg_tuple B.m_tuple bt_tuple (g_cons (g_v 5) g_nil))) (gs_one (gs_ret g_bl)) gs_nil)
      (gs_cons (gs_set (i := 7) S_law.nd rfl (by first | exact .inl rfl | exact .inr rfl) (g_cX c__law_take hr (by decide) tk (g_cons (g_v 1) (g_cons (g_cX c__law_power hr (by decide) tk (g_cons g_int (g_cons (g_v 2) g_nil))) g_nil))))
      (gs_cons (gs_set (i := 11) S_law.nd rfl (by first | exact .inl rfl | exact .inr rfl) (g_callT cg_tuple B.m_tuple bt_tuple (g_cons (g_lc rfl S_law.nd (gi_rg1 (g_cons (g_v 2) g_nil) B.m_range) (own := [("k", 9)]) (blkOk_by (by rfl)) gok_n (fun _ _ _ _ _ => (pg_name (i := 9) S_law.nd rfl (by first | exact .inl rfl | exact .inr rfl))) (fun _ _ _ _ _ => (gts_one (gt_tru (g_cX c__law_in hr (by decide) takes0 (g_cons (g_v 7) (g_cons (g_v 9) g_nil)))))) (fun _ _ _ _ _ => (g_v 9))) g_nil)))
      (gs_cons (gs_if (gt_cmp (og_ne hr.units) (g_cmp (og_eq hr.units) (g_callB cg_len B.m_len bt_len (g_cons (g_cX c_coin_moves hr (by decide) tk (g_cons (g_v 3) (g_cons (g_v 11) g_nil))) g_nil)) g_int) (g_cmp (og_in (u65 hr)) (g_v 7) (g_v 5))) (gs_one (gs_ret g_bl)) gs_nil)
      (gs_cons (gs_setLc (i := 12) rfl S_law.nd rfl rfl (sw_true rfl rfl rfl rfl) (gi_rg1 (g_cons (g_cX c__law_power hr (by decide) tk (g_cons g_int (g_cons (g_v 2) g_nil))) g_nil) B.m_range) (own := [("x", 13)]) (blkOk_by (by rfl)) gok_n (fun _ _ _ _ _ => (pg_name (i := 13) S_law.nd rfl (by first | exact .inl rfl | exact .inr rfl))) (fun _ _ _ _ _ => (gts_one (gt_cmp (og_eq hr.units) (g_op og_mod (g_callB cg_len B.m_len bt_len (g_cons (g_lc rfl S_law.nd (gi_rg1 (g_cons (g_v 2) g_nil) B.m_range) (own := [("k", 9)]) (blkOk_by (by rfl)) gok_n (fun _ _ _ _ _ => (pg_name (i := 9) S_law.nd rfl (by first | exact .inl rfl | exact .inr rfl))) (fun _ _ _ _ _ => (gts_one (gt_tru (g_cX c__law_in hr (by decide) takes0 (g_cons (g_v 13) (g_cons (g_v 9) g_nil)))))) (fun _ _ _ _ _ => (g_v 9))) g_nil)) g_int) g_int))) (fun _ _ _ _ _ => (g_v 13)))
      (gs_one (gs_ret (g_cmp (og_eq hr.units) (g_cX c_lexicode hr (by decide) tk (g_cons (g_v 2) (g_cons g_int g_nil))) (g_callT0 cg_tuple B.m_tuple bt_tuple (g_cons (g_v 12) g_nil))))))))))))))))))))).clean
theorem c_law {f : Addr} {fd : FuncData} (B : Bn P w K mg base T) (c__law_begin : Cal P w K mg base T 1 "_law_begin" ["script"] T__law_begin) (c__law_take : Cal P w K mg base T 1 "_law_take" ["d", "many"] T__law_take) (c__law_pick : Cal P w K mg base T 2 "_law_pick" ["d", "menu"] T__law_pick) (c_coin_value : Cal P w K mg base T 5 "coin_value" ["kind", "places"] T_coin_value) (c__law_power : Cal P w K mg base T 1 "_law_power" ["number", "exponent"] T__law_power) (c__law_in : Cal P w K mg base T 2 "_law_in" ["number", "k"] T__law_in) (c_lexicode : Cal P w K mg base T 3 "lexicode" ["length", "gap"] T_lexicode) (c_coin_moves : Cal P w K mg base T 6 "coin_moves" ["kind", "places"] T_coin_moves) (F : Fun K "law" "law" st_law f fd) (g : mg "law" = some (.ref f)) : Cal P w K mg base T 7 "law" ["script"] T_law :=
  ⟨f, fd, d_law B c__law_begin c__law_take c__law_pick c_coin_value c__law_power c__law_in c_lexicode c_coin_moves F, g, F.kp, F.binds fun _ _ _ _ _ _ us hl => match us, hl with | [_], _ => rfl⟩
end
end K66
namespace K66
open PySem Gv
theorem pick_eq : T__law_pick = b_pick := rfl
theorem mex_eq : T_least_missing = b_mex := rfl
def onesF : Nat → Nat → Nat
  | 0, _ => 0
  | f + 1, n => n % 2 + onesF f (n / 2)
def ones (n : Nat) : Nat := onesF 9 n
def synL : List Nat → Nat → Nat
  | [], _ => 0
  | c :: cs, n => (if n % 2 = 1 then c else 0) ^^^ synL cs (n / 2)
def cols : Nat → List Nat
  | 1 => [0, 0, 0, 0, 0, 0, 0, 0, 0]
  | 2 => [1, 1, 1, 1, 1, 1, 1, 1, 1]
  | 3 => [1, 2, 3, 4, 5, 6, 7, 8, 9]
  | 4 => [1, 2, 4, 7, 8, 11, 13, 14, 16]
  | 5 => [1, 2, 4, 8, 15, 16, 32, 51, 64]
  | 6 => [1, 2, 4, 8, 16, 31, 32, 64, 103]
  | 7 => [1, 2, 4, 8, 16, 32, 63, 64, 128]
  | 8 => [1, 2, 4, 8, 16, 32, 64, 127, 128]
  | _ => [1, 2, 4, 8, 16, 32, 64, 128, 255]
def synz (g n : Nat) : Bool := synL (cols g) n == 0
theorem syn_xor : ∀ (cs : List Nat) (x y : Nat), synL cs (x ^^^ y) = synL cs x ^^^ synL cs y
  | [], _, _ => by simp [synL]
  | c :: cs, x, y => by
    have e : (x ^^^ y) / 2 = x / 2 ^^^ y / 2 := Nat.xor_div_two
    have m : (x ^^^ y) % 2 = (x + y) % 2 := by
      have := @Nat.xor_mod_two_eq_one x y
      omega
    simp only [synL, e, syn_xor cs, m]
    rcases Nat.mod_two_eq_zero_or_one x with hx | hx <;> rcases Nat.mod_two_eq_zero_or_one y with hy | hy
    · rw [show (x + y) % 2 = 0 by omega, hx, hy]; simp
    · rw [show (x + y) % 2 = 1 by omega, hx, hy]
      simp only [if_true, Nat.zero_ne_one, if_false, Nat.zero_xor]
      rw [← Nat.xor_assoc, ← Nat.xor_assoc, Nat.xor_comm c]
    · rw [show (x + y) % 2 = 1 by omega, hx, hy]
      simp only [if_true, Nat.zero_ne_one, if_false, Nat.zero_xor, Nat.xor_assoc]
    · rw [show (x + y) % 2 = 0 by omega, hx, hy]
      simp only [if_true, Nat.zero_ne_one, if_false, Nat.zero_xor]
      have : c ^^^ synL cs (x / 2) ^^^ (c ^^^ synL cs (y / 2)) = (c ^^^ c) ^^^ (synL cs (x / 2) ^^^ synL cs (y / 2)) := by ac_rfl
      rw [this, Nat.xor_self, Nat.zero_xor]
theorem synz_xor {g x y : Nat} (hx : synz g x = true) (hy : synz g y = true) : synz g (x ^^^ y) = true := by
  simp only [synz, beq_iff_eq] at *
  rw [syn_xor, hx, hy]
  rfl
theorem synz_xor' {g x y : Nat} (hx : synz g x = true) (hy : synz g y = false) : synz g (x ^^^ y) = false := by
  simp only [synz, beq_iff_eq, beq_eq_false_iff_ne, ne_eq] at *
  rw [syn_xor, hx, Nat.zero_xor]
  exact hy
/-! tables -/
theorem t_wt : (List.range 9).all (fun i => (List.range 512).all fun n => n == 0 || !synz (i + 1) n || Nat.ble (i + 1) (ones n)) = true := by decide +kernel
theorem t_cov : (List.range 9).all (fun i => (List.range 512).all fun n => synz (i + 1) n || ((List.range 512).filter (synz (i + 1))).any fun x => Nat.blt x n && Nat.blt (ones (n ^^^ x)) (i + 1)) = true := by decide +kernel
theorem t_len : (List.range 9).all (fun i => (List.range 10).all fun L => (List.range (L + 1)).any fun k => ((List.range (2 ^ L)).filter (synz (i + 1))).length == 2 ^ k) = true := by decide +kernel
theorem t_one : (List.range 512).all (fun n => synz 1 n) = true := by decide +kernel
theorem t_two : (List.range 512).all (fun n => !synz 2 n || ones n % 2 == 0) = true := by decide +kernel
theorem ones_tab : (List.range 512).all (fun n => isR (T_ones_of [.int n] []) (.int (ones n))) = true := by decide +kernel
theorem pow_tab : (List.range 13).all (fun k => isR (T__law_power [.int 2, .int k] []) (.int (2 ^ k : Nat))) = true := by decide +kernel
theorem w_wt {g n : Nat} (hg : 1 ≤ g) (hg2 : g ≤ 9) (hn : n < 512) (h0 : n ≠ 0) (h : synz g n = true) : g ≤ ones n := by
  have := List.all_eq_true.mp (List.all_eq_true.mp t_wt (g - 1) (List.mem_range.mpr (by omega))) n (List.mem_range.mpr hn)
  rw [show g - 1 + 1 = g by omega, h] at this
  simp only [Bool.or_eq_true, beq_iff_eq, Bool.not_true, Bool.false_eq_true, or_false] at this
  rcases this with h | h
  · exact absurd h h0
  · exact Nat.le_of_ble_eq_true h
theorem w_cov {g n : Nat} (hg : 1 ≤ g) (hg2 : g ≤ 9) (hn : n < 512) (h : synz g n = false) : ∃ x, x < n ∧ synz g x = true ∧ ones (n ^^^ x) < g := by
  have := List.all_eq_true.mp (List.all_eq_true.mp t_cov (g - 1) (List.mem_range.mpr (by omega))) n (List.mem_range.mpr hn)
  rw [show g - 1 + 1 = g by omega, h, Bool.false_or] at this
  obtain ⟨x, hx, h2⟩ := List.any_eq_true.mp this
  simp only [Bool.and_eq_true, Nat.blt_eq] at h2
  exact ⟨x, h2.1, (List.mem_filter.mp hx).2, h2.2⟩
/-! the greedy rows -/
def lexS (g : Nat) (due : List Nat) (n : Nat) : List Nat := if due.all (fun x => decide (g ≤ ones (n ^^^ x))) then due ++ [n] else due
def lexN (g m : Nat) : List Nat := (List.range m).foldl (lexS g) []
theorem lexN_succ (g m : Nat) : lexN g (m + 1) = lexS g (lexN g m) m := by simp [lexN, List.range_succ]
theorem lex_eq {g : Nat} (hg : 1 ≤ g) (hg2 : g ≤ 9) : ∀ m, m ≤ 512 → lexN g m = (List.range m).filter (synz g)
  | 0, _ => rfl
  | m + 1, h => by
    rw [lexN_succ, lex_eq hg hg2 m (by omega), List.range_succ, List.filter_append, lexS]
    cases hs : synz g m with
    | true =>
      rw [if_pos]
      · simp [hs]
      · rw [List.all_eq_true]
        intro x hx
        obtain ⟨h1, h2⟩ := List.mem_filter.mp hx
        have h1 := List.mem_range.mp h1
        have hlt : m ^^^ x < 512 := Nat.xor_lt_two_pow (n := 9) (by omega) (by omega)
        have hne : m ^^^ x ≠ 0 := fun z => by
          have e : m ^^^ x ^^^ x = m := by rw [Nat.xor_assoc, Nat.xor_self, Nat.xor_zero]
          rw [z, Nat.zero_xor] at e
          omega
        exact decide_eq_true (w_wt hg hg2 hlt hne (synz_xor hs h2))
    | false =>
      obtain ⟨x, h1, h2, h3⟩ := w_cov hg hg2 (by omega) hs
      rw [if_neg]
      · simp [hs]
      · intro hall
        have := List.all_eq_true.mp hall x (List.mem_filter.mpr ⟨List.mem_range.mpr h1, h2⟩)
        have := of_decide_eq_true this
        omega
theorem lex_mem {g L x : Nat} (hg : 1 ≤ g) (hg2 : g ≤ 9) (hL : L ≤ 9) : x ∈ lexN g (2 ^ L) ↔ x < 2 ^ L ∧ synz g x = true := by
  have : 2 ^ L ≤ 2 ^ 9 := Nat.pow_le_pow_right (by decide) hL
  rw [lex_eq hg hg2 _ this, List.mem_filter, List.mem_range]
theorem pow_le {L : Nat} (hL : L ≤ 9) : 2 ^ L ≤ 512 := Nat.pow_le_pow_right (show 0 < 2 by decide) hL
theorem lex_pre (g m : Nat) : ∀ d, ∃ t, lexN g (m + d) = lexN g m ++ t
  | 0 => ⟨[], by simp⟩
  | d + 1 => by
    obtain ⟨t, h⟩ := lex_pre g m d
    rw [show m + (d + 1) = m + d + 1 by omega, lexN_succ, h, lexS]
    split
    · exact ⟨t ++ [m + d], by rw [List.append_assoc]⟩
    · exact ⟨t, rfl⟩
theorem lex_len (g : Nat) : ∀ m, (lexN g m).length ≤ m
  | 0 => by simp [lexN]
  | m + 1 => by
    have := lex_len g m
    rw [lexN_succ, lexS]
    split
    · rw [List.length_append]; simp; exact this
    · omega
theorem lex_lt (g : Nat) : ∀ m, ∀ x ∈ lexN g m, x < m
  | 0, x, h => by simp [lexN] at h
  | m + 1, x, h => by
    rw [lexN_succ, lexS] at h
    split at h
    · rcases List.mem_append.mp h with h | h
      · have := lex_lt g m x h; omega
      · simp at h; omega
    · have := lex_lt g m x h; omega
/-! what the defs tell -/
theorem one_X {n : Nat} (h : n < 512) (st : Sto) : callX T_ones_of [.int n] st = .ok (.int (ones n)) st := callX_data (isR_eq (List.all_eq_true.mp ones_tab n (List.mem_range.mpr h))) rfl rfl st
theorem pow_X {k : Nat} (h : k < 13) (st : Sto) : callX T__law_power [.int 2, .int k] st = .ok (.int (2 ^ k : Nat)) st := callX_data (isR_eq (List.all_eq_true.mp pow_tab k (List.mem_range.mpr h))) rfl rfl st
theorem natD_at {xs : List Nat} {k : Nat} {d : D} (h : (natD xs)[k]? = some d) : ∃ x, xs[k]? = some x ∧ d = .int x := by
  simp only [natD, List.getElem?_map] at h
  cases e : xs[k]? with
  | none => rw [e] at h; cases h
  | some x => rw [e] at h; cases h; exact ⟨x, rfl, rfl⟩
/-- one number of the greedy row -/
theorem lex_body {L g n : Nat} {due : List Nat} {G : Sto} {c4 : Option D} (hn : n < 512) (hd : ∀ x ∈ due, x < 512) (hl : due.length < 1000) :
    lexicode_b1 [some (.int L), some (.int g), some (.obj 0), some (.int n), c4] (.lst (natD due) :: G) = .nx [some (.int L), some (.int g), some (.obj 0), some (.int n), c4] (.lst (natD (lexS g due n)) :: G) := by
  have hi : iSeq (dV 2) [some (.int L), some (.int g), some (.obj 0), some (.int n), c4] (.lst (natD due) :: G) = .ok ⟨natD due, some (0, natD due)⟩ (.lst (natD due) :: G) := rfl
  have hall : dGC (dCB fAll (dCons (dLC [4] (iSeq (dV 2)) (uN 4) bYes (dOp fGe (dX T_ones_of (dCons (dOp fXor (dV 3) (dV 4)) dNil)) (dV 1))) dNil)) [some (.int L), some (.int g), some (.obj 0), some (.int n), c4] (.lst (natD due) :: G) = .ok (.bl (due.all fun x => decide (g ≤ ones (n ^^^ x)))) (.lst (natD due) :: G) := by
    have := LE.maps (own := [4]) (u := uN 4) (elt := dOp fGe (dX T_ones_of (dCons (dOp fXor (dV 3) (dV 4)) dNil)) (dV 1)) hi (j := 0) rfl rfl (fun k => .bl (decide (g ≤ ones (n ^^^ due.getD k 0)))) (fun k d ex hk => by
      obtain ⟨x, hx, rfl⟩ := natD_at hk
      have hx5 := hd x (List.mem_of_getElem? hx)
      refine ⟨_, rfl, ?_⟩
      rw [List.getD_eq_getElem?_getD, hx, Option.getD_some]
      exact v_op (v_X (v_cons (v_op (x := .int n) (y := .int x) rfl rfl (f_xor n x _)) v_nil) (one_X (Nat.xor_lt_two_pow (n := 9) hn hx5) _)) (y := .int g) rfl (f_ge _ _ _)) (by rw [natD_len]; omega)
    have hb : (List.range (natD due).length).map (fun k => D.bl (decide (g ≤ ones (n ^^^ due.getD k 0)))) = (due.map fun x => decide (g ≤ ones (n ^^^ x))).map D.bl := by
      apply List.ext_getElem
      · simp [natD]
      · intro k h1 h2
        simp only [List.length_map, List.length_range, natD_len] at h1
        simp [List.getD_eq_getElem?_getD, List.getElem?_eq_getElem h1]
    refine (this.of_eq hb).call (fun n s h => ?_) rfl
    rw [all_at h]
    simp [Function.comp_def]
  unfold lexicode_b1
  cases hb : due.all fun x => decide (g ≤ ones (n ^^^ x)) with
  | true =>
    rw [hb] at hall
    refine s_if1 (t_tru hall rfl) ?_
    have hl' : (natD due).length < 16777216 := by rw [natD_len]; omega
    have ea : fAppend (.obj 0) [.int n] (.lst (natD due) :: G) = some (.non, .lst (natD due ++ [.int n]) :: G) := by
      simp only [fAppend, List.getElem?_cons_zero]
      rw [if_pos hl']
      rfl
    refine (s_ex (x := .non) (s1 := .lst (natD due ++ [.int n]) :: G) ?_).trans ?_
    · have h2 : dV 2 [some (.int L), some (.int g), some (.obj 0), some (.int n), c4] (.lst (natD due) :: G) = .ok (.obj 0) (.lst (natD due) :: G) := rfl
      have h3 : dCons (dV 3) dNil [some (.int L), some (.int g), some (.obj 0), some (.int n), c4] (.lst (natD due) :: G) = .ok [.int n] (.lst (natD due) :: G) := rfl
      have h4 : isL (.lst (natD due) :: G) (.obj 0) = true := rfl
      simp only [dM, h2, Re.bind_ok, h4, if_true, h3, ea, Vr.re_some]
    · rw [lexS, if_pos hb, natD_app]
      rfl
  | false =>
    rw [hb] at hall
    refine s_if0 (t_tru hall rfl) ?_
    rw [lexS, hb, if_neg Bool.false_ne_true]
    rfl
theorem lex_ok {L g : Nat} (hL : L ≤ 9) (hL1 : 1 ≤ L) (hg : 1 ≤ g) (hgL : g ≤ L) : T_lexicode [.int L, .int g] [] = .ok (.tup (natD (lexN g (2 ^ L)))) [] := by
  have h5 := pow_le hL
  have a1 : (1 : Int) ≤ L := by omega
  have a2 : (L : Int) ≤ 12 := by omega
  have a3 : (1 : Int) ≤ g := by omega
  have a4 : (g : Int) ≤ L := by omega
  have h0 : lexicode_0 [some (.int L), some (.int g), none, none, none] [] = .nx [some (.int L), some (.int g), none, none, none] [] := by
    simp [dFn, sSeq, sIf, sSub, sSet, sRet, sRetN, sEx, sSkip, sUn, sPar, sPar3, sBrk, sCt, uN, uT2, uT3, uT4, bAnd, bOr, bNot, bCmp, bChain, bTru, bYes, truD, dAnd, dOr, dNot, dOp, dUn, dV, dC, dCB, dCons, dNil, dTup, dLst, dIf, dChain, dNewK, dNewT, dM, isL, fIx, fInt1, fIntC, fInt, fLt, fLe, fGt, fGe, fSub, fDiv, fMod, fMul, fAdd, fXor, fAnd, fOr, fShl, fShr, fPow, fNeg, fEq, fNe, fAbs, fLen, fMax2, fMin2, fAppend, fExtend, fPop, setV, lexicode_0, a1, a2, a3, a4]
  have h1 : lexicode_1 [some (.int L), some (.int g), none, none, none] [] = .nx [some (.int L), some (.int g), some (.obj 0), none, none] [.lst (natD (lexN g 0))] := s_set rfl
  have hi : iRg1 (dCons (dOp fShl (dC (.int 1)) (dV 0)) dNil) [some (.int L), some (.int g), some (.obj 0), none, none] [.lst (natD (lexN g 0))] = .ok ⟨rng 0 (2 ^ L), none⟩ [.lst (natD (lexN g 0))] := by
    have cp : cPow 1 (L : Int) = true := by simp [cPow]; omega
    have hs : fShl (.int 1) (.int L) [.lst (natD (lexN g 0))] = some (.int ((2 ^ L : Nat) : Int), [.lst (natD (lexN g 0))]) := by
      simp [fShl, fIntC, cp]
    exact iRg1_n (v_cons (v_op (x := .int 1) (y := .int L) rfl rfl hs) v_nil) (by omega)
  have h2 : ∃ x y, lexicode_2 [some (.int L), some (.int g), some (.obj 0), none, none] [.lst (natD (lexN g 0))] = .nx [some (.int L), some (.int g), some (.obj 0), x, y] [.lst (natD (lexN g (2 ^ L)))] := by
    refine sFor_rule hi (fun k en st => ∃ x, k ≤ 2 ^ L ∧ en = [some (.int L), some (.int g), some (.obj 0), x, none] ∧ st = [.lst (natD (lexN g k))]) (fun r => ∃ x y, r = .nx [some (.int L), some (.int g), some (.obj 0), x, y] [.lst (natD (lexN g (2 ^ L)))]) ⟨none, Nat.zero_le _, rfl, rfl⟩ ?_ ?_
    · rintro k d en st hd ⟨x, _, rfl, rfl⟩
      obtain ⟨hk, rfl⟩ := rng_at hd
      rw [Int.zero_add]
      have hl := lex_len g k
      have e := lex_body (L := L) (g := g) (n := k) (due := lexN g k) (G := []) (c4 := none) (by omega) (fun x hx => by have := lex_lt g k x hx; omega) (by omega)
      rw [← lexN_succ] at e
      exact ⟨rfl, _, _, rfl, e, _, hk, rfl, rfl⟩
    · rintro en st ⟨x, _, rfl, rfl⟩
      refine ⟨rfl, x, none, ?_⟩
      have e : (ItD.mk (rng 0 (2 ^ L)) none).items.length = 2 ^ L := rng_len _ _
      rw [e]
  obtain ⟨x, y, h2⟩ := h2
  have ho : (D.tup (natD (lexN g (2 ^ L)))).objs = [] := by
    simp only [D.objs]
    exact objsL_nat _
  exact data_rt rfl (seq_nx h0 (seq_nx h1 (seq_nx h2 (s_ret (v_cb (xs := [.obj 0]) rfl (tuple_at rfl)))))) ho
end K66
namespace K66
open PySem Gv
def kindS (mock : Bool) : PySem.Str := if mock then "mock" else "turtles"
def base (p : Nat) : List (List Nat) := [p] :: (List.range p).map fun k => [k, p]
def mock3 (p : Nat) : List (List Nat) := (List.range p).flatMap fun k => (List.range k).map fun j => [j, k, p]
def turnsL (mock : Bool) (p : Nat) : List (List Nat) := if mock then base p ++ mock3 p else base p
theorem base_LE (p : Nat) (hp : p ≤ 63) (c0 c2 c3 c4 : Option D) (st : Sto) : LE (dOp fAdd (dLst (dCons (dTup (dCons (dV 1) dNil)) dNil)) (dLC [3] (iRg1 (dCons (dV 1) dNil)) (uN 3) bYes (dTup (dCons (dV 3) (dCons (dV 1) dNil))))) [c0, some (.int p), c2, c3, c4] st ((base p).map rowD) := by
  have h1 : LE (dLst (dCons (dTup (dCons (dV 1) dNil)) dNil)) [c0, some (.int p), c2, c3, c4] st [rowD [p]] := LE.lst rfl (by simp)
  have h2 : ∀ ex, LE (dLC [3] (iRg1 (dCons (dV 1) dNil)) (uN 3) bYes (dTup (dCons (dV 3) (dCons (dV 1) dNil)))) [c0, some (.int p), c2, c3, c4] (st ++ ex) ((List.range p).map fun k => rowD [k, p]) := fun ex => LE.mapR rfl _ (fun k s hk => ⟨_, rfl, rfl⟩) (by omega)
  refine (h1.add h2 (by simp; omega)).of_eq ?_
  simp [base, Function.comp_def]
theorem base_ne (p : Nat) : ∀ r ∈ base p, r ≠ [] := by
  intro r hr
  rcases List.mem_cons.mp hr with rfl | hr
  · simp
  · obtain ⟨k, _, rfl⟩ := List.mem_map.mp hr
    simp
theorem mock_ne (p : Nat) : ∀ r ∈ mock3 p, r ≠ [] := by
  intro r hr
  obtain ⟨k, _, hr⟩ := List.mem_flatMap.mp hr
  obtain ⟨j, _, rfl⟩ := List.mem_map.mp hr
  simp
theorem mock_len (p : Nat) : (mock3 p).length ≤ p * p := by
  have : ∀ n, n ≤ p → ((List.range n).flatMap fun k => (List.range k).map fun j => [j, k, p]).length ≤ n * p := fun n => by
    induction n with
    | zero => intro _; simp
    | succ n ih =>
      intro h
      have := ih (by omega)
      rw [List.range_succ, List.flatMap_append, List.length_append, Nat.succ_mul]
      simp only [List.flatMap_cons, List.flatMap_nil, List.append_nil, List.length_map, List.length_range]
      omega
  exact this p (Nat.le_refl _)
theorem turns_ne (mock : Bool) (p : Nat) : ∀ r ∈ turnsL mock p, r ≠ [] := by
  intro r hr
  unfold turnsL at hr
  split at hr
  · rcases List.mem_append.mp hr with h | h
    · exact base_ne p r h
    · exact mock_ne p r h
  · exact base_ne p r hr
theorem turns_len (mock : Bool) {p : Nat} (hp : p ≤ 63) : (turnsL mock p).length ≤ 5000 := by
  have h1 := mock_len p
  have h2 : p * p ≤ 63 * 63 := Nat.mul_le_mul hp hp
  unfold turnsL
  split
  · rw [List.length_append]
    simp only [base, List.length_cons, List.length_map, List.length_range]
    omega
  · simp only [base, List.length_cons, List.length_map, List.length_range]
    omega
theorem turns_ok (mock : Bool) {p : Nat} (hp : p ≤ 63) : ∃ rows : List (List Nat), rows.Perm (turnsL mock p) ∧ T_turns [.str (kindS mock), .int p] [] = .ok (.tup (rows.map rowD)) [] := by
  have h0 : turns_0 [some (.str (kindS mock)), some (.int p), none, none, none] [] = .nx [some (.str (kindS mock)), some (.int p), none, none, none] [] := by
    have a1 : (p : Int) < 64 := by omega
    simp [dFn, sSeq, sIf, sSub, sSet, sRet, sRetN, sEx, sSkip, sUn, sPar, sPar3, sBrk, sCt, uN, uT2, uT3, uT4, bAnd, bOr, bNot, bCmp, bChain, bTru, bYes, truD, dAnd, dOr, dNot, dOp, dUn, dV, dC, dCB, dCons, dNil, dTup, dLst, dIf, dChain, dNewK, dNewT, dM, isL, fIx, fInt1, fIntC, fInt, fLt, fLe, fGt, fGe, fSub, fDiv, fMod, fMul, fAdd, fXor, fAnd, fOr, fShl, fShr, fPow, fNeg, fEq, fNe, fAbs, fLen, fMax2, fMin2, fAppend, fExtend, fPop, setV, turns_0, a1]
  have h1 : ∃ (k : Nat) (st : Sto), turns_1 [some (.str (kindS mock)), some (.int p), none, none, none] [] = .nx [some (.str (kindS mock)), some (.int p), some (.obj k), none, none] st ∧ st[k]? = some (.lst ((turnsL mock p).map rowD)) := by
    obtain ⟨k, ex, e, g⟩ := (base_LE p hp (some (.str (kindS mock))) none none none []).set (i := 2)
    cases mock with
    | false =>
      exact ⟨k, [] ++ ex, s_if1 (t_cmp (x := .str (kindS false)) (y := .str "turtles") rfl rfl (by simp [fEq, kindS])) e, g⟩
    | true =>
      have hle : LE (dLC2 [3, 4] [4] (iRg1 (dCons (dV 1) dNil)) (uN 3) bYes (iRg1 (dCons (dV 3) dNil)) (uN 4) bYes (dTup (dCons (dV 4) (dCons (dV 3) (dCons (dV 1) dNil))))) [some (.str (kindS true)), some (.int p), some (.obj k), none, none] ([] ++ ex) ((mock3 p).map rowD) := by
        have hi : iRg1 (dCons (dV 1) dNil) [some (.str (kindS true)), some (.int p), some (.obj k), none, none] ([] ++ ex) = .ok ⟨rng 0 p, none⟩ ([] ++ ex) := iRg1_n rfl (by omega)
        have hl := mock_len p
        have h2 : p * p ≤ 63 * 63 := Nat.mul_le_mul hp hp
        have hq : (List.range (rng 0 p).length).flatMap (fun k => (List.range k).map fun j => rowD [j, k, p]) = (mock3 p).map rowD := by
          rw [rng_len]
          simp [mock3, List.map_flatMap, Function.comp_def]
        refine (LE.map2 hi (fun k => (List.range k).map fun j => rowD [j, k, p]) (fun a d hd => ?_) (by rw [hq, List.length_map]; omega)).of_eq hq
        obtain ⟨ha, rfl⟩ := rng_at hd
        refine ⟨_, rng 0 a, rfl, fun s => ?_, by rw [rng_len]; simp, fun j d1 s hd1 => ?_⟩
        · rw [Int.zero_add]
          exact iRg1_n rfl (by omega)
        · obtain ⟨hj, rfl⟩ := rng_at hd1
          rw [Int.zero_add, Int.zero_add]
          refine ⟨_, rowD [j, a, p], rfl, rfl, ?_, rfl⟩
          rw [List.getElem?_map, List.getElem?_range hj]
          rfl
      obtain ⟨k2, ex2, e2, g2, _⟩ := hle
      have g1 : ([] ++ ex ++ ex2 : Sto)[k]? = some (.lst ((base p).map rowD)) := by
        rw [List.getElem?_append_left (List.getElem?_eq_some_iff.mp g).1]
        exact g
      have hx : fExtend (.obj k) [.obj k2] ([] ++ ex ++ ex2) = some (.non, ([] ++ ex ++ ex2 : Sto).set k (.lst ((base p).map rowD ++ (mock3 p).map rowD))) := by
        have hl := turns_len true hp
        simp only [turnsL, if_true, List.length_append] at hl
        simp only [fExtend, g1, g2]
        rw [if_pos (by simp only [List.length_map]; omega)]
      refine ⟨k, ([] ++ ex ++ ex2 : Sto).set k (.lst ((base p).map rowD ++ (mock3 p).map rowD)), s_if0 (t_cmp (x := .str (kindS true)) (y := .str "turtles") rfl rfl ?_) (s_if1 (t_cmp (x := .str (kindS true)) (y := .str "mock") (st := []) (s1 := []) (s2 := []) (s3 := []) rfl rfl (by simp [fEq, kindS])) (seq_nx e (s_ex (x := .non) ?_))), ?_⟩
      · have : decide (kindS true = ("turtles" : PySem.Str)) = false := by decide +kernel
        simp only [fEq, this]
      · have h2 : dV 2 [some (.str (kindS true)), some (.int p), some (.obj k), none, none] ([] ++ ex) = .ok (.obj k) ([] ++ ex) := rfl
        have h4 : isL ([] ++ ex) (.obj k) = true := by simp only [isL, g]
        have h3 := v_cons e2 (v_nil (en := [some (.str (kindS true)), some (.int p), some (.obj k), none, none]) (st := [] ++ ex ++ ex2))
        show dM isL fExtend (dV 2) _ [some (.str (kindS true)), some (.int p), some (.obj k), none, none] ([] ++ ex) = _
        simp only [dM, h2, Re.bind_ok, h4, if_true, h3, hx, Vr.re_some]
      · rw [List.getElem?_set_self (List.getElem?_eq_some_iff.mp g1).1, ← List.map_append]
        rfl
  obtain ⟨k, st, h1, g⟩ := h1
  have hl := turns_len mock hp
  obtain ⟨rows, hperm, hs⟩ := sorted_rows (turns_ne mock p) (by omega) g
  refine ⟨rows, hperm, ?_⟩
  have h2 : turns_2 [some (.str (kindS mock)), some (.int p), some (.obj k), none, none] st = .rt (.tup (rows.map rowD)) st := by
    have hc : (D.tup (rows.map rowD)).cl st.length = true := by
      have : ∀ (z : Nat) (l : List (List Nat)), clDs z (l.map rowD) = true := fun z l => by
        have hn : ∀ (xs : List Nat), clDs z (natD xs) = true := fun xs => by
          induction xs with
          | nil => rfl
          | cons a xs ih => simpa [natD, clDs, D.cl] using ih
        induction l with
        | nil => rfl
        | cons a l ih => simp [clDs, ih, rowD, D.cl, hn]
      simp [D.cl, this]
    have hv := v_cb (g := fTuple) (v_cons (v_cb (g := fSorted) (as := dCons (dV 2) dNil) (en := [some (.str (kindS mock)), some (.int p), some (.obj k), none, none]) (st := st) (s1 := st) (xs := [.obj k]) rfl hs) v_nil) (tuple_at (xs := rows.map rowD) (n := st.length) (s := st ++ [.lst (rows.map rowD)]) (by simp))
    refine s_ret ?_
    rw [dGC, hv]
    exact gc_app hc
  exact data_rt rfl (seq_nx h0 (seq_nx h1 h2)) (by simp only [D.objs]; exact objsL_rows _)
end K66
namespace K66
open PySem Gv
def xv (row r : List Nat) : Nat := r.dropLast.foldl (fun t a => t ^^^ row.getD a 0) 0
def rowM (mock : Bool) : Nat → List Nat
  | 0 => []
  | m + 1 => rowM mock m ++ [mex ((turnsL mock m).map (xv (rowM mock m)))]
theorem rowM_len (mock : Bool) : ∀ m, (rowM mock m).length = m
  | 0 => rfl
  | m + 1 => by rw [rowM, List.length_append, rowM_len mock m]; rfl
theorem row_at {row : List Nat} {a : Nat} (h : a < row.length) : row[a]? = some (row.getD a 0) := by
  rw [List.getD_eq_getElem?_getD, List.getElem?_eq_getElem h]
  rfl
theorem turns_lt {mock : Bool} {m : Nat} : ∀ r ∈ turnsL mock m, ∀ a ∈ r.dropLast, a < m := by
  have hb : ∀ r ∈ base m, ∀ a ∈ r.dropLast, a < m := by
    intro r hr a ha
    rcases List.mem_cons.mp hr with rfl | hr
    · simp at ha
    · obtain ⟨k, hk, rfl⟩ := List.mem_map.mp hr
      simp at ha
      subst ha
      simpa using hk
  have hm : ∀ r ∈ mock3 m, ∀ a ∈ r.dropLast, a < m := by
    intro r hr a ha
    obtain ⟨k, hk, hr⟩ := List.mem_flatMap.mp hr
    obtain ⟨j, hj, rfl⟩ := List.mem_map.mp hr
    have hk := List.mem_range.mp hk
    have hj := List.mem_range.mp hj
    simp at ha
    rcases ha with rfl | rfl <;> omega
  intro r hr
  unfold turnsL at hr
  split at hr
  · rcases List.mem_append.mp hr with h | h
    · exact hb r h
    · exact hm r h
  · exact hb r hr
theorem cut_last (xs : List D) : cutD xs none (some (-1)) = xs.dropLast := by
  unfold cutD
  rw [HT.sIx_none, List.drop_zero, Nat.sub_zero, List.dropLast_eq_take]
  congr 1
  unfold HT.sIx
  simp
  omega
/-- the total of a turn -/
theorem total_loop {row r : List Nat} {kk : Nat} {c0 c1 c3 c4 c7 : Option D} {S : Sto} (hrow : S[kk]? = some (.lst (natD row))) (hr : ∀ a ∈ r.dropLast, a < row.length) :
    ∃ x, sFor (iSeq (dSl (dV 5) oNo (oSo (dUn fNeg (dC (.int 1)))))) (uN 7) coin_row_b1 [c0, c1, some (.obj kk), c3, c4, some (rowD r), some (.int (0 : Nat)), c7] S = .nx [c0, c1, some (.obj kk), c3, c4, some (rowD r), some (.int (xv row r)), x] S := by
  have hi : iSeq (dSl (dV 5) oNo (oSo (dUn fNeg (dC (.int 1))))) [c0, c1, some (.obj kk), c3, c4, some (rowD r), some (.int (0 : Nat)), c7] S = .ok ⟨natD r.dropLast, none⟩ S := by
    have : natD r.dropLast = cutD (natD r) none (some (-1)) := by
      rw [cut_last]
      simp [natD, List.map_dropLast]
    rw [this]
    rfl
  have hf : ∀ j, j ≤ r.dropLast.length → (r.dropLast.take j).foldl (fun t a => t ^^^ row.getD a 0) 0 = (r.dropLast.take j).foldl (fun t a => t ^^^ row.getD a 0) 0 := fun _ _ => rfl
  refine sFor_rule hi (fun j en st => ∃ x, j ≤ r.dropLast.length ∧ en = [c0, c1, some (.obj kk), c3, c4, some (rowD r), some (.int ((r.dropLast.take j).foldl (fun t a => t ^^^ row.getD a 0) 0 : Nat)), x] ∧ st = S) (fun q => ∃ x, q = .nx [c0, c1, some (.obj kk), c3, c4, some (rowD r), some (.int (xv row r)), x] S) ⟨c7, Nat.zero_le _, rfl, rfl⟩ ?_ ?_
  · rintro j d en st hd ⟨x, _, rfl, rfl⟩
    obtain ⟨a, ha, rfl⟩ := natD_at hd
    have hj := (List.getElem?_eq_some_iff.mp ha).1
    have hlt := hr a (List.mem_of_getElem? ha)
    refine ⟨rfl, _, _, rfl, s_set (v_op (x := .int ((r.dropLast.take j).foldl (fun t a => t ^^^ row.getD a 0) 0 : Nat)) rfl (v_op (x := .obj kk) (y := .int a) rfl rfl (f_ix hrow (row_at hlt))) (f_xor _ _ _)), some (.int a), hj, ?_, rfl⟩
    rw [List.take_add_one, ha, List.foldl_append]
    rfl
  · rintro en st ⟨x, _, rfl, rfl⟩
    refine ⟨rfl, x, ?_⟩
    have e : (ItD.mk (natD r.dropLast) none).items.length = r.dropLast.length := natD_len _
    rw [e, List.take_length]
    rfl
/-- one turn's value -/
theorem turn_body {row r vals : List Nat} {kk kv : Nat} {c0 c1 c3 c6 c7 : Option D} {S : Sto} (hrow : S[kk]? = some (.lst (natD row))) (hv : S[kv]? = some (.lst (natD vals))) (hl : vals.length < 10000) (hr : ∀ a ∈ r.dropLast, a < row.length) :
    ∃ x y, coin_row_b2 [c0, c1, some (.obj kk), c3, some (.obj kv), some (rowD r), c6, c7] S = .nx [c0, c1, some (.obj kk), c3, some (.obj kv), some (rowD r), x, y] (S.set kv (.lst (natD (vals ++ [xv row r])))) := by
  obtain ⟨x, e⟩ := total_loop (c0 := c0) (c1 := c1) (c3 := c3) (c4 := some (.obj kv)) (c7 := c7) hrow hr
  refine ⟨_, x, seq_nx (s_set rfl) (seq_nx e (s_ex (x := .non) ?_))⟩
  have h2 : dV 4 [c0, c1, some (.obj kk), c3, some (.obj kv), some (rowD r), some (.int (xv row r)), x] S = .ok (.obj kv) S := rfl
  have h3 : dCons (dV 6) dNil [c0, c1, some (.obj kk), c3, some (.obj kv), some (rowD r), some (.int (xv row r)), x] S = .ok [.int (xv row r)] S := rfl
  have h4 : isL S (.obj kv) = true := by simp only [isL, hv]
  have ea : fAppend (.obj kv) [.int (xv row r)] S = some (.non, S.set kv (.lst (natD vals ++ [.int (xv row r)]))) := by
    simp only [fAppend, hv]
    rw [if_pos (by rw [natD_len]; omega)]
  simp only [dM, h2, Re.bind_ok, h4, if_true, h3, ea, Vr.re_some]
  rw [natD_app]
  rfl
/-- one place of the row -/
theorem place_body {mock : Bool} {p : Nat} {c1 c4 c5 c6 c7 : Option D} {G : Sto} (hp : p ≤ 63) :
    ∃ (G' : Sto) (x4 x5 x6 x7 : Option D), coin_row_b3 [some (.str (kindS mock)), c1, some (.obj 0), some (.int p), c4, c5, c6, c7] (.lst (natD (rowM mock p)) :: G) = .nx [some (.str (kindS mock)), c1, some (.obj 0), some (.int p), x4, x5, x6, x7] (.lst (natD (rowM mock (p + 1))) :: G') := by
  obtain ⟨rows, hperm, hT⟩ := turns_ok mock hp
  have hX : ∀ st, callX T_turns [.str (kindS mock), .int p] st = .ok (.tup (rows.map rowD)) st := fun st => callX_data hT rfl (by simp only [D.objs]; exact objsL_rows _) st
  have hrl : rows.length ≤ 5000 := by rw [hperm.length_eq]; exact turns_len mock hp
  have e0 : sSet 4 (dLst dNil) [some (.str (kindS mock)), c1, some (.obj 0), some (.int p), c4, c5, c6, c7] (.lst (natD (rowM mock p)) :: G) = .nx [some (.str (kindS mock)), c1, some (.obj 0), some (.int p), some (.obj (G.length + 1)), c5, c6, c7] (.lst (natD (rowM mock p)) :: G ++ [.lst (natD [])]) := s_set rfl
  have hi : iSeq (dX T_turns (dCons (dV 0) (dCons (dV 3) dNil))) [some (.str (kindS mock)), c1, some (.obj 0), some (.int p), some (.obj (G.length + 1)), c5, c6, c7] (.lst (natD (rowM mock p)) :: G ++ [.lst (natD [])]) = .ok ⟨rows.map rowD, none⟩ (.lst (natD (rowM mock p)) :: G ++ [.lst (natD [])]) := by
    have hv := v_X (T := T_turns) (as := dCons (dV 0) (dCons (dV 3) dNil)) (en := [some (.str (kindS mock)), c1, some (.obj 0), some (.int p), some (.obj (G.length + 1)), c5, c6, c7]) (st := .lst (natD (rowM mock p)) :: G ++ [.lst (natD [])]) rfl (hX _)
    simp only [iSeq, hv, Re.bind_ok]
  have hloop : ∃ x5 x6 x7, sFor (iSeq (dX T_turns (dCons (dV 0) (dCons (dV 3) dNil)))) (uN 5) coin_row_b2 [some (.str (kindS mock)), c1, some (.obj 0), some (.int p), some (.obj (G.length + 1)), c5, c6, c7] (.lst (natD (rowM mock p)) :: G ++ [.lst (natD [])]) = .nx [some (.str (kindS mock)), c1, some (.obj 0), some (.int p), some (.obj (G.length + 1)), x5, x6, x7] (.lst (natD (rowM mock p)) :: G ++ [.lst (natD (rows.map (xv (rowM mock p))))]) := by
    refine sFor_rule hi (fun j en st => ∃ x5 x6 x7, j ≤ rows.length ∧ en = [some (.str (kindS mock)), c1, some (.obj 0), some (.int p), some (.obj (G.length + 1)), x5, x6, x7] ∧ st = .lst (natD (rowM mock p)) :: G ++ [.lst (natD ((rows.take j).map (xv (rowM mock p))))]) (fun q => ∃ x5 x6 x7, q = .nx [some (.str (kindS mock)), c1, some (.obj 0), some (.int p), some (.obj (G.length + 1)), x5, x6, x7] (.lst (natD (rowM mock p)) :: G ++ [.lst (natD (rows.map (xv (rowM mock p))))])) ⟨c5, c6, c7, Nat.zero_le _, rfl, rfl⟩ ?_ ?_
    · rintro j d en st hd ⟨x5, x6, x7, _, rfl, rfl⟩
      obtain ⟨r, hr, rfl⟩ : ∃ r, rows[j]? = some r ∧ d = rowD r := by
        simp only [List.getElem?_map] at hd
        cases e : rows[j]? with
        | none => rw [e] at hd; cases hd
        | some r => rw [e] at hd; cases hd; exact ⟨r, rfl, rfl⟩
      have hj := (List.getElem?_eq_some_iff.mp hr).1
      have hmem : r ∈ turnsL mock p := hperm.mem_iff.mp (List.mem_of_getElem? hr)
      obtain ⟨y6, y7, e⟩ := turn_body (row := rowM mock p) (r := r) (vals := (rows.take j).map (xv (rowM mock p))) (kk := 0) (kv := G.length + 1) (c0 := some (.str (kindS mock))) (c1 := c1) (c3 := some (.int p)) (c6 := x6) (c7 := x7) (S := .lst (natD (rowM mock p)) :: G ++ [.lst (natD ((rows.take j).map (xv (rowM mock p))))]) rfl (by simp) (by rw [List.length_map, List.length_take]; omega) (fun a ha => by rw [rowM_len]; exact turns_lt r hmem a ha)
      refine ⟨rfl, _, _, rfl, e, some (rowD r), y6, y7, hj, rfl, ?_⟩
      rw [List.take_add_one, hr, Option.toList_some, List.map_append]
      simp
    · rintro en st ⟨x5, x6, x7, _, rfl, rfl⟩
      refine ⟨rfl, x5, x6, x7, ?_⟩
      have e : (ItD.mk (rows.map rowD) none).items.length = rows.length := List.length_map _
      rw [e, List.take_length]
  obtain ⟨x5, x6, x7, e1⟩ := hloop
  have hmex : mex (rows.map (xv (rowM mock p))) = mex ((turnsL mock p).map (xv (rowM mock p))) := mex_congr fun m => (hperm.map _).mem_iff
  have hkv : (.lst (natD (rowM mock p)) :: G ++ [.lst (natD (rows.map (xv (rowM mock p))))] : Sto)[G.length + 1]? = some (.lst (natD (rows.map (xv (rowM mock p))))) := by simp
  have e2 : sEx (dM isL fAppend (dV 2) (dCons (dX T_least_missing (dCons (dV 4) dNil)) dNil)) [some (.str (kindS mock)), c1, some (.obj 0), some (.int p), some (.obj (G.length + 1)), x5, x6, x7] (.lst (natD (rowM mock p)) :: G ++ [.lst (natD (rows.map (xv (rowM mock p))))]) = .nx [some (.str (kindS mock)), c1, some (.obj 0), some (.int p), some (.obj (G.length + 1)), x5, x6, x7] (.lst (natD (rowM mock (p + 1))) :: (G ++ [.lst (natD (rows.map (xv (rowM mock p))))])) := by
    refine s_ex (x := .non) ?_
    have h2 : dV 2 [some (.str (kindS mock)), c1, some (.obj 0), some (.int p), some (.obj (G.length + 1)), x5, x6, x7] (.lst (natD (rowM mock p)) :: G ++ [.lst (natD (rows.map (xv (rowM mock p))))]) = .ok (.obj 0) (.lst (natD (rowM mock p)) :: G ++ [.lst (natD (rows.map (xv (rowM mock p))))]) := rfl
    have h3 := v_cons (v_X (T := T_least_missing) (as := dCons (dV 4) dNil) (en := [some (.str (kindS mock)), c1, some (.obj 0), some (.int p), some (.obj (G.length + 1)), x5, x6, x7]) (st := .lst (natD (rowM mock p)) :: G ++ [.lst (natD (rows.map (xv (rowM mock p))))]) rfl (mex_X hkv (by rw [List.length_map]; omega))) v_nil
    have h4 : isL (.lst (natD (rowM mock p)) :: G ++ [.lst (natD (rows.map (xv (rowM mock p))))]) (.obj 0) = true := rfl
    have ea : fAppend (.obj 0) [.int (mex (rows.map (xv (rowM mock p))))] (.lst (natD (rowM mock p)) :: G ++ [.lst (natD (rows.map (xv (rowM mock p))))]) = some (.non, .lst (natD (rowM mock p) ++ [.int (mex (rows.map (xv (rowM mock p))))]) :: (G ++ [.lst (natD (rows.map (xv (rowM mock p))))])) := by
      simp only [fAppend, List.cons_append, List.getElem?_cons_zero]
      rw [if_pos (by rw [natD_len, rowM_len]; omega)]
      rfl
    simp only [dM, h2, Re.bind_ok, h4, if_true, h3, ea, Vr.re_some]
    rw [rowM, natD_app, hmex]
    rfl
  exact ⟨_, _, x5, x6, x7, seq_nx e0 (seq_nx e1 e2)⟩
end K66
namespace K66
open PySem Gv
theorem row_ok (mock : Bool) {m : Nat} (hm : m ≤ 64) : T_coin_row [.str (kindS mock), .int m] [] = .ok (.tup (natD (rowM mock m))) [] := by
  have a1 : (m : Int) ≤ 64 := by omega
  have h0 : coin_row_0 [some (.str (kindS mock)), some (.int m), none, none, none, none, none, none] [] = .nx [some (.str (kindS mock)), some (.int m), none, none, none, none, none, none] [] := by
    simp [dFn, sSeq, sIf, sSub, sSet, sRet, sRetN, sEx, sSkip, sUn, sPar, sPar3, sBrk, sCt, uN, uT2, uT3, uT4, bAnd, bOr, bNot, bCmp, bChain, bTru, bYes, truD, dAnd, dOr, dNot, dOp, dUn, dV, dC, dCB, dCons, dNil, dTup, dLst, dIf, dChain, dNewK, dNewT, dM, isL, fIx, fInt1, fIntC, fInt, fLt, fLe, fGt, fGe, fSub, fDiv, fMod, fMul, fAdd, fXor, fAnd, fOr, fShl, fShr, fPow, fNeg, fEq, fNe, fAbs, fLen, fMax2, fMin2, fAppend, fExtend, fPop, setV, coin_row_0, a1]
  have h1 : coin_row_1 [some (.str (kindS mock)), some (.int m), none, none, none, none, none, none] [] = .nx [some (.str (kindS mock)), some (.int m), some (.obj 0), none, none, none, none, none] [.lst (natD (rowM mock 0))] := s_set rfl
  have h2 : ∃ (G : Sto) (x3 x4 x5 x6 x7 : Option D), coin_row_2 [some (.str (kindS mock)), some (.int m), some (.obj 0), none, none, none, none, none] [.lst (natD (rowM mock 0))] = .nx [some (.str (kindS mock)), some (.int m), some (.obj 0), x3, x4, x5, x6, x7] (.lst (natD (rowM mock m)) :: G) := by
    have hi : iRg1 (dCons (dV 1) dNil) [some (.str (kindS mock)), some (.int m), some (.obj 0), none, none, none, none, none] [.lst (natD (rowM mock 0))] = .ok ⟨rng 0 m, none⟩ [.lst (natD (rowM mock 0))] := iRg1_n rfl (by omega)
    refine sFor_rule hi (fun k en st => ∃ (G : Sto) (x3 x4 x5 x6 x7 : Option D), k ≤ m ∧ en = [some (.str (kindS mock)), some (.int m), some (.obj 0), x3, x4, x5, x6, x7] ∧ st = .lst (natD (rowM mock k)) :: G) (fun r => ∃ (G : Sto) (x3 x4 x5 x6 x7 : Option D), r = .nx [some (.str (kindS mock)), some (.int m), some (.obj 0), x3, x4, x5, x6, x7] (.lst (natD (rowM mock m)) :: G)) ⟨[], none, none, none, none, none, Nat.zero_le _, rfl, rfl⟩ ?_ ?_
    · rintro k d en st hd ⟨G, x3, x4, x5, x6, x7, _, rfl, rfl⟩
      obtain ⟨hk, rfl⟩ := rng_at hd
      rw [Int.zero_add]
      obtain ⟨G', y4, y5, y6, y7, e⟩ := place_body (mock := mock) (p := k) (c1 := some (.int m)) (c4 := x4) (c5 := x5) (c6 := x6) (c7 := x7) (G := G) (by omega)
      exact ⟨rfl, _, _, rfl, e, G', _, y4, y5, y6, y7, hk, rfl, rfl⟩
    · rintro en st ⟨G, x3, x4, x5, x6, x7, _, rfl, rfl⟩
      refine ⟨rfl, G, x3, x4, x5, x6, x7, ?_⟩
      have e : (ItD.mk (rng 0 m) none).items.length = m := rng_len _ _
      rw [e]
  obtain ⟨G, x3, x4, x5, x6, x7, h2⟩ := h2
  exact data_rt rfl (seq_nx h0 (seq_nx h1 (seq_nx h2 (s_ret (v_cb (xs := [.obj 0]) rfl (tuple_at rfl)))))) (by simp only [D.objs]; exact objsL_nat _)
theorem row_X (mock : Bool) {m : Nat} (hm : m ≤ 64) (st : Sto) : callX T_coin_row [.str (kindS mock), .int m] st = .ok (.tup (natD (rowM mock m))) st := callX_data (row_ok mock hm) rfl (by simp only [D.objs]; exact objsL_nat _) st
theorem rowM_pre (mock : Bool) (m : Nat) : ∀ d, ∃ t, rowM mock (m + d) = rowM mock m ++ t
  | 0 => ⟨[], by simp⟩
  | d + 1 => by
    obtain ⟨t, h⟩ := rowM_pre mock m d
    refine ⟨t ++ [mex ((turnsL mock (m + d)).map (xv (rowM mock (m + d))))], ?_⟩
    have e : rowM mock (m + (d + 1)) = rowM mock (m + d) ++ [mex ((turnsL mock (m + d)).map (xv (rowM mock (m + d))))] := rfl
    rw [e, ← List.append_assoc, ← h]
/-- the size of a place -/
def sz (mock : Bool) (p : Nat) : Nat := (rowM mock 8).getD p 0
theorem sz_at {mock : Bool} {m p : Nat} (hm : m ≤ 8) (hp : p < m) : (rowM mock m)[p]? = some (sz mock p) := by
  obtain ⟨t, h⟩ := rowM_pre mock m (8 - m)
  rw [show m + (8 - m) = 8 by omega] at h
  unfold sz
  rw [List.getD_eq_getElem?_getD, h, List.getElem?_append_left (by rw [rowM_len]; exact hp), List.getElem?_eq_getElem (by rw [rowM_len]; exact hp)]
  rfl
theorem sz_tab : rowM false 8 = [1, 2, 3, 4, 5, 6, 7, 8] ∧ rowM true 8 = [1, 2, 4, 7, 8, 11, 13, 14] := by decide +kernel
def Inc (ps : List Nat) : Prop := ps.Pairwise (· < ·)
theorem check_ok {ps : List Nat} (hi : Inc ps) (h8 : ∀ p ∈ ps, p < 8) : T_check_places [.tup (natD ps)] [] = .ok .non [] := by
  have hlen : ps.length ≤ 1000 := by
    have : ∀ (l : List Nat) (k : Nat), l.Pairwise (· < ·) → (∀ p ∈ l, k ≤ p ∧ p < 8) → l.length + k ≤ 8 ∨ l = [] := fun l => by
      induction l with
      | nil => intro k _ _; exact .inr rfl
      | cons a l ih =>
        intro k h1 h2
        left
        have ha := h2 a List.mem_cons_self
        rcases ih (a + 1) (List.pairwise_cons.mp h1).2 (fun p hp => ⟨(List.pairwise_cons.mp h1).1 p hp, (h2 p (List.mem_cons_of_mem _ hp)).2⟩) with h | h
        · rw [List.length_cons]; omega
        · rw [h]; simp; omega
    rcases this ps 0 hi (fun p hp => ⟨Nat.zero_le _, h8 p hp⟩) with h | h
    · omega
    · rw [h]; simp
  have nof : ∀ n, ((List.range n).map fun _ => D.bl false) = ((List.range n).map fun _ => false).map D.bl := fun n => by simp
  have anyf : ∀ n, (((List.range n).map fun _ => false).any id) = false := fun n => by
    rw [List.any_eq_false]
    intro b hb
    obtain ⟨_, _, rfl⟩ := List.mem_map.mp hb
    simp
  have h0 : check_places_0 [some (.tup (natD ps)), none, none] [] = .nx [some (.tup (natD ps)), none, none] [] := by
    have hrg : dCons (dOp fSub (dCB fLen (dCons (dV 0) dNil)) (dC (.int 1))) dNil [some (.tup (natD ps)), none, none] [] = .ok [.int ((ps.length : Int) - 1)] [] := by
      refine v_cons (v_op (v_cb (xs := [.tup (natD ps)]) (z := .int ps.length) (s1 := []) (s2 := []) rfl (by simp only [fLen, natD_len])) rfl rfl) v_nil
    have hit : iRg1 (dCons (dOp fSub (dCB fLen (dCons (dV 0) dNil)) (dC (.int 1))) dNil) [some (.tup (natD ps)), none, none] [] = .ok ⟨rng 0 (ps.length - 1), none⟩ [] := by
      rw [iRg1_ok hrg (by omega) (by omega), show ((ps.length : Int) - 1).toNat = ps.length - 1 by omega]
    have hle : LE (dLC [1] (iRg1 (dCons (dOp fSub (dCB fLen (dCons (dV 0) dNil)) (dC (.int 1))) dNil)) (uN 1) bYes (dOp fGe (dOp fIx (dV 0) (dV 1)) (dOp fIx (dV 0) (dOp fAdd (dV 1) (dC (.int 1)))))) [some (.tup (natD ps)), none, none] [] ((List.range (ps.length - 1)).map fun _ => .bl false) := by
      have := LE.map (own := [1]) (u := uN 1) (elt := dOp fGe (dOp fIx (dV 0) (dV 1)) (dOp fIx (dV 0) (dOp fAdd (dV 1) (dC (.int 1))))) hit (fun _ => .bl false) (fun k d s hd => by
        obtain ⟨hk, rfl⟩ := rng_at hd
        rw [Int.zero_add]
        have g1 : ps[k]? = some ps[k] := List.getElem?_eq_getElem (by omega)
        have g2 : ps[k + 1]? = some ps[k + 1] := List.getElem?_eq_getElem (by omega)
        have hlt : ps[k] < ps[k + 1] := List.pairwise_iff_getElem.mp hi k (k + 1) (by omega) (by omega) (by omega)
        refine ⟨_, rfl, v_op (v_op (x := .tup (natD ps)) (y := .int k) rfl rfl (f_ixT g1 s)) (v_op (x := .tup (natD ps)) rfl (v_op (x := .int k) (y := .int (1 : Nat)) rfl rfl (f_add k 1 s)) (f_ixT g2 s)) ?_⟩
        rw [f_ge, decide_eq_false (by omega)]) (by rw [rng_len]; omega)
      rwa [rng_len] at this
    have hany := hle.call (f := fAny) (x := .bl false) (fun n s hs => by rw [nof] at hs; rw [any_at hs, anyf]) rfl
    exact s_if0 (t_tru hany rfl) s_skip
  have h1 : check_places_1 [some (.tup (natD ps)), none, none] [] = .nx [some (.tup (natD ps)), none, none] [] := by
    have hit : iSeq (dV 0) [some (.tup (natD ps)), none, none] [] = .ok ⟨natD ps, none⟩ [] := rfl
    have hle : LE (dLC [2] (iSeq (dV 0)) (uN 2) bYes (dNot (dChain fLe fLt (dC (.int 0)) (dV 2) (dC (.int 64))))) [some (.tup (natD ps)), none, none] [] ((List.range ps.length).map fun _ => .bl false) := by
      have := LE.map (own := [2]) (u := uN 2) (elt := dNot (dChain fLe fLt (dC (.int 0)) (dV 2) (dC (.int 64)))) hit (fun _ => .bl false) (fun k d s hd => by
        obtain ⟨p, hp, rfl⟩ := natD_at hd
        have h1 := h8 p (List.mem_of_getElem? hp)
        have a1 : (p : Int) < 64 := by omega
        exact ⟨_, rfl, by simp [dFn, sSeq, sIf, sSub, sSet, sRet, sRetN, sEx, sSkip, sUn, sPar, sPar3, sBrk, sCt, uN, uT2, uT3, uT4, bAnd, bOr, bNot, bCmp, bChain, bTru, bYes, truD, dAnd, dOr, dNot, dOp, dUn, dV, dC, dCB, dCons, dNil, dTup, dLst, dIf, dChain, dNewK, dNewT, dM, isL, fIx, fInt1, fIntC, fInt, fLt, fLe, fGt, fGe, fSub, fDiv, fMod, fMul, fAdd, fXor, fAnd, fOr, fShl, fShr, fPow, fNeg, fEq, fNe, fAbs, fLen, fMax2, fMin2, fAppend, fExtend, fPop, setV, wipeE, a1]⟩) (by rw [natD_len]; omega)
      rwa [natD_len] at this
    have hany := hle.call (f := fAny) (x := .bl false) (fun n s hs => by rw [nof] at hs; rw [any_at hs, anyf]) rfl
    exact s_if0 (t_tru hany rfl) s_skip
  show canon 0 (dFn 3 1 (sSeq check_places_0 check_places_1) [.tup (natD ps)] []) = _
  rw [fn_nx (n := 3) (ar := 1) (ds := [.tup (natD ps)]) rfl (seq_nx h0 h1)]
  exact canon_data rfl
end K66
namespace K66
open PySem Gv
/-- the row that the places ask for -/
theorem row_sel (mock : Bool) {ps : List Nat} (hi : Inc ps) (h8 : ∀ p ∈ ps, p < 8) : ∃ R : List Nat, (∀ p ∈ ps, ∀ a, a ≤ p → R[a]? = some (sz mock a)) ∧ ∀ (en : En) (st : Sto), en[0]? = some (some (.str (kindS mock))) → en[1]? = some (some (.tup (natD ps))) →
    dIf (bCmp fGt (dCB fLen (dCons (dV 1) dNil)) (dC (.int 0))) (dX T_coin_row (dCons (dV 0) (dCons (dOp fAdd (dOp fIx (dV 1) (dUn fNeg (dC (.int 1)))) (dC (.int 1))) dNil))) (dTup dNil) en st = .ok (.tup (natD R)) st := by
  have hv : ∀ (en : En) (st : Sto) (i : Nat) (d : D), en[i]? = some (some d) → dV i en st = .ok d st := fun en st i d h => by simp only [dV, h]
  have hlen : ∀ (en : En) (st : Sto), en[1]? = some (some (.tup (natD ps))) → bCmp fGt (dCB fLen (dCons (dV 1) dNil)) (dC (.int 0)) en st = .ok (decide (0 < ps.length)) st := fun en st h =>
    t_cmp (v_cb (z := .int ps.length) (s2 := st) (v_cons (hv en st 1 _ h) v_nil) (by simp only [fLen, natD_len])) (y := .int (0 : Nat)) rfl (f_gt _ _ _)
  rcases List.eq_nil_or_concat ps with rfl | ⟨qs, l, rfl⟩
  · refine ⟨[], (fun p hp => absurd hp (by simp)), fun en st h0 h1 => v_if (hlen en st h1) ?_⟩
    rfl
  · rw [List.concat_eq_append] at *
    have hl : l < 8 := h8 l (by simp)
    refine ⟨rowM mock (l + 1), fun p hp a hap => ?_, fun en st h0 h1 => v_if (hlen en st h1) ?_⟩
    · have : p ≤ l := by
        rcases List.mem_append.mp hp with h | h
        · exact Nat.le_of_lt ((List.pairwise_append.mp hi).2.2 p h l (by simp))
        · simp at h; omega
      exact sz_at (by omega) (by omega)
    · have hat : fIx (.tup (natD (qs ++ [l]))) (.int (-1)) st = some (.int l, st) := by
        have : L2.atI (natD (qs ++ [l])) (-1) = some (.int l) := by
          rw [natD_app]
          exact L2.atI_last _ _
        simp only [fIx, this, Option.map_some]
      rw [decide_eq_true (show 0 < (qs ++ [l]).length by simp)]
      exact v_X (v_cons (hv en st 0 _ h0) (v_cons (v_op (v_op (hv en st 1 _ h1) (y := .int (-1)) rfl hat) (y := .int (1 : Nat)) rfl (f_add l 1 st)) v_nil)) (row_X mock (m := l + 1) (by omega) st)
def valL (mock : Bool) (ps : List Nat) : Nat := ps.foldl (fun t p => t ^^^ sz mock p) 0
theorem check_X {ps : List Nat} (hi : Inc ps) (h8 : ∀ p ∈ ps, p < 8) (st : Sto) : callX T_check_places [.tup (natD ps)] st = .ok .non st := callX_data (check_ok hi h8) (by simp only [objsL, D.objs, objsL_nat, List.append_nil]) rfl st
theorem value_ok (mock : Bool) {ps : List Nat} (hi : Inc ps) (h8 : ∀ p ∈ ps, p < 8) : T_coin_value [.str (kindS mock), .tup (natD ps)] [] = .ok (.int (valL mock ps)) [] := by
  obtain ⟨R, hR, hsel⟩ := row_sel mock hi h8
  have h0 : coin_value_0 [some (.str (kindS mock)), some (.tup (natD ps)), none, none, none] [] = .nx [some (.str (kindS mock)), some (.tup (natD ps)), none, none, none] [] := s_ex (v_X rfl (check_X hi h8 []))
  have h1 : coin_value_1 [some (.str (kindS mock)), some (.tup (natD ps)), none, none, none] [] = .nx [some (.str (kindS mock)), some (.tup (natD ps)), some (.tup (natD R)), none, none] [] := s_set (hsel _ [] rfl rfl)
  have h3 : ∃ x, coin_value_3 [some (.str (kindS mock)), some (.tup (natD ps)), some (.tup (natD R)), some (.int (0 : Nat)), none] [] = .nx [some (.str (kindS mock)), some (.tup (natD ps)), some (.tup (natD R)), some (.int (valL mock ps)), x] [] := by
    have hit : iSeq (dV 1) [some (.str (kindS mock)), some (.tup (natD ps)), some (.tup (natD R)), some (.int (0 : Nat)), none] [] = .ok ⟨natD ps, none⟩ [] := rfl
    refine sFor_rule hit (fun j en st => ∃ x, j ≤ ps.length ∧ en = [some (.str (kindS mock)), some (.tup (natD ps)), some (.tup (natD R)), some (.int (valL mock (ps.take j))), x] ∧ st = []) (fun r => ∃ x, r = .nx [some (.str (kindS mock)), some (.tup (natD ps)), some (.tup (natD R)), some (.int (valL mock ps)), x] []) ⟨none, Nat.zero_le _, rfl, rfl⟩ ?_ ?_
    · rintro j d en st hd ⟨x, _, rfl, rfl⟩
      obtain ⟨p, hp, rfl⟩ := natD_at hd
      have hj := (List.getElem?_eq_some_iff.mp hp).1
      refine ⟨rfl, _, _, rfl, s_set (v_op (x := .int (valL mock (ps.take j))) rfl (v_op (x := .tup (natD R)) (y := .int p) rfl rfl (f_ixT (hR p (List.mem_of_getElem? hp) p (Nat.le_refl _)) [])) (f_xor _ _ _)), some (.int p), hj, ?_, rfl⟩
      have : valL mock (ps.take (j + 1)) = valL mock (ps.take j) ^^^ sz mock p := by
        rw [List.take_add_one, hp]
        simp [valL]
      rw [this]
      rfl
    · rintro en st ⟨x, _, rfl, rfl⟩
      refine ⟨rfl, x, ?_⟩
      have e : (ItD.mk (natD ps) none).items.length = ps.length := natD_len _
      rw [e, List.take_length]
  obtain ⟨x, h3⟩ := h3
  exact data_rt rfl (seq_nx h0 (seq_nx h1 (seq_nx (a := coin_value_2) (s_set rfl) (seq_nx h3 (s_ret rfl))))) rfl
theorem value_X (mock : Bool) {ps : List Nat} (hi : Inc ps) (h8 : ∀ p ∈ ps, p < 8) (st : Sto) : callX T_coin_value [.str (kindS mock), .tup (natD ps)] st = .ok (.int (valL mock ps)) st := callX_data (value_ok mock hi h8) (by simp only [objsL, D.objs, objsL_nat, List.append_nil]) rfl st
end K66
namespace K66
open PySem Gv
def tv (mock : Bool) (t : Nat) (r : List Nat) : Nat := r.foldl (fun t a => t ^^^ sz mock a) t
theorem turns_le {mock : Bool} {m : Nat} : ∀ r ∈ turnsL mock m, ∀ a ∈ r, a ≤ m := by
  have hb : ∀ r ∈ base m, ∀ a ∈ r, a ≤ m := by
    intro r hr a ha
    rcases List.mem_cons.mp hr with rfl | hr
    · simp at ha; omega
    · obtain ⟨k, hk, rfl⟩ := List.mem_map.mp hr
      have hk := List.mem_range.mp hk
      simp at ha
      rcases ha with rfl | rfl <;> omega
  have hm : ∀ r ∈ mock3 m, ∀ a ∈ r, a ≤ m := by
    intro r hr a ha
    obtain ⟨k, hk, hr⟩ := List.mem_flatMap.mp hr
    obtain ⟨j, hj, rfl⟩ := List.mem_map.mp hr
    have hk := List.mem_range.mp hk
    have hj := List.mem_range.mp hj
    simp at ha
    rcases ha with rfl | rfl | rfl <;> omega
  intro r hr
  unfold turnsL at hr
  split at hr
  · rcases List.mem_append.mp hr with h | h
    · exact hb r h
    · exact hm r h
  · exact hb r hr
/-- a turn tried -/
theorem try_body {mock : Bool} {R r : List Nat} {T : List (List Nat)} {t k : Nat} {c0 c1 c5 c7 c8 : Option D} {S : Sto} (hR : ∀ a ∈ r, R[a]? = some (sz mock a)) (hS : S[k]? = some (.lst (T.map rowD))) (hl : T.length < 100000) :
    ∃ x y, coin_moves_b2 [c0, c1, some (.int t), some (.tup (natD R)), some (.obj k), c5, some (rowD r), c7, c8] S = .nx [c0, c1, some (.int t), some (.tup (natD R)), some (.obj k), c5, some (rowD r), x, y] (S.set k (.lst ((if tv mock t r = 0 then T ++ [r] else T).map rowD))) := by
  have hit : iSeq (dV 6) [c0, c1, some (.int t), some (.tup (natD R)), some (.obj k), c5, some (rowD r), some (.int t), c8] S = .ok ⟨natD r, none⟩ S := rfl
  have hloop : ∃ y, sFor (iSeq (dV 6)) (uN 8) coin_moves_b1 [c0, c1, some (.int t), some (.tup (natD R)), some (.obj k), c5, some (rowD r), some (.int t), c8] S = .nx [c0, c1, some (.int t), some (.tup (natD R)), some (.obj k), c5, some (rowD r), some (.int (tv mock t r)), y] S := by
    refine sFor_rule hit (fun j en st => ∃ y, j ≤ r.length ∧ en = [c0, c1, some (.int t), some (.tup (natD R)), some (.obj k), c5, some (rowD r), some (.int (tv mock t (r.take j))), y] ∧ st = S) (fun q => ∃ y, q = .nx [c0, c1, some (.int t), some (.tup (natD R)), some (.obj k), c5, some (rowD r), some (.int (tv mock t r)), y] S) ⟨c8, Nat.zero_le _, rfl, rfl⟩ ?_ ?_
    · rintro j d en st hd ⟨y, _, rfl, rfl⟩
      obtain ⟨a, ha, rfl⟩ := natD_at hd
      have hj := (List.getElem?_eq_some_iff.mp ha).1
      refine ⟨rfl, _, _, rfl, s_set (v_op (x := .int (tv mock t (r.take j))) rfl (v_op (x := .tup (natD R)) (y := .int a) rfl rfl (f_ixT (hR a (List.mem_of_getElem? ha)) _)) (f_xor _ _ _)), some (.int a), hj, ?_, rfl⟩
      have : tv mock t (r.take (j + 1)) = tv mock t (r.take j) ^^^ sz mock a := by
        rw [List.take_add_one, ha]
        simp [tv]
      rw [this]
      rfl
    · rintro en st ⟨y, _, rfl, rfl⟩
      refine ⟨rfl, y, ?_⟩
      have e : (ItD.mk (natD r) none).items.length = r.length := natD_len _
      rw [e, List.take_length]
  obtain ⟨y, e1⟩ := hloop
  have t1 : bCmp fEq (dV 7) (dC (.int 0)) [c0, c1, some (.int t), some (.tup (natD R)), some (.obj k), c5, some (rowD r), some (.int (tv mock t r)), y] S = .ok (decide (tv mock t r = 0)) S := t_cmp (x := .int (tv mock t r)) (y := .int (0 : Nat)) rfl rfl (f_eq _ _ _)
  by_cases h : tv mock t r = 0
  · rw [decide_eq_true h] at t1
    rw [if_pos h]
    refine ⟨some (.int (tv mock t r)), y, seq_nx (a := sSet 7 (dV 2)) (s_set rfl) (seq_nx e1 (s_if1 t1 (s_ex (x := .non) ?_)))⟩
    have h2 : dV 4 [c0, c1, some (.int t), some (.tup (natD R)), some (.obj k), c5, some (rowD r), some (.int (tv mock t r)), y] S = .ok (.obj k) S := rfl
    have h3 : dCons (dV 6) dNil [c0, c1, some (.int t), some (.tup (natD R)), some (.obj k), c5, some (rowD r), some (.int (tv mock t r)), y] S = .ok [rowD r] S := rfl
    have h4 : isL S (.obj k) = true := by simp only [isL, hS]
    have ea : fAppend (.obj k) [rowD r] S = some (.non, S.set k (.lst (T.map rowD ++ [rowD r]))) := by
      simp only [fAppend, hS]
      rw [if_pos (by rw [List.length_map]; omega)]
    simp only [dM, h2, Re.bind_ok, h4, if_true, h3, ea, Vr.re_some, List.map_append, List.map_cons, List.map_nil]
  · rw [decide_eq_false h] at t1
    rw [if_neg h, sto_set_same hS]
    exact ⟨some (.int (tv mock t r)), y, seq_nx (a := sSet 7 (dV 2)) (s_set rfl) (seq_nx e1 (s_if0 t1 s_skip))⟩
end K66
namespace K66
open PySem Gv
theorem turns_X (mock : Bool) {p : Nat} (hp : p ≤ 63) : ∃ rows : List (List Nat), rows.Perm (turnsL mock p) ∧ ∀ st, callX T_turns [.str (kindS mock), .int p] st = .ok (.tup (rows.map rowD)) st := by
  obtain ⟨rows, hperm, hT⟩ := turns_ok mock hp
  exact ⟨rows, hperm, fun st => callX_data hT rfl (by simp only [D.objs]; exact objsL_rows _) st⟩
def noneAt (mock : Bool) (t p : Nat) : Prop := ∀ r ∈ turnsL mock p, tv mock t r ≠ 0
theorem moves_place {mock : Bool} {R : List Nat} {T : List (List Nat)} {t p : Nat} {c1 c6 c7 c8 : Option D} (hp : p < 8) (hR : ∀ a, a ≤ p → R[a]? = some (sz mock a)) (hl : T.length ≤ 50000) (hne : ∀ r ∈ T, r ≠ []) :
    ∃ (T' : List (List Nat)) (x6 x7 x8 : Option D), coin_moves_b3 [some (.str (kindS mock)), c1, some (.int t), some (.tup (natD R)), some (.obj 0), some (.int p), c6, c7, c8] [.lst (T.map rowD)] = .nx [some (.str (kindS mock)), c1, some (.int t), some (.tup (natD R)), some (.obj 0), some (.int p), x6, x7, x8] [.lst (T'.map rowD)] ∧
      T'.length ≤ T.length + 5000 ∧ (∀ r ∈ T', r ≠ []) ∧ (T' = [] ↔ T = [] ∧ noneAt mock t p) := by
  obtain ⟨rows, hperm, hX⟩ := turns_X mock (p := p) (by omega)
  have hrl : rows.length ≤ 5000 := by rw [hperm.length_eq]; exact turns_len mock (by omega)
  have hi : iSeq (dX T_turns (dCons (dV 0) (dCons (dV 5) dNil))) [some (.str (kindS mock)), c1, some (.int t), some (.tup (natD R)), some (.obj 0), some (.int p), c6, c7, c8] [.lst (T.map rowD)] = .ok ⟨rows.map rowD, none⟩ [.lst (T.map rowD)] := by
    have hv := v_X (T := T_turns) (as := dCons (dV 0) (dCons (dV 5) dNil)) (en := [some (.str (kindS mock)), c1, some (.int t), some (.tup (natD R)), some (.obj 0), some (.int p), c6, c7, c8]) (st := [.lst (T.map rowD)]) rfl (hX _)
    simp only [iSeq, hv, Re.bind_ok]
  refine sFor_rule hi (fun j en st => ∃ (T' : List (List Nat)) (x6 x7 x8 : Option D), j ≤ rows.length ∧ en = [some (.str (kindS mock)), c1, some (.int t), some (.tup (natD R)), some (.obj 0), some (.int p), x6, x7, x8] ∧ st = [.lst (T'.map rowD)] ∧ T'.length ≤ T.length + j ∧ (∀ r ∈ T', r ≠ []) ∧ (T' = [] ↔ T = [] ∧ ∀ r ∈ rows.take j, tv mock t r ≠ 0))
    (fun q => ∃ (T' : List (List Nat)) (x6 x7 x8 : Option D), q = .nx [some (.str (kindS mock)), c1, some (.int t), some (.tup (natD R)), some (.obj 0), some (.int p), x6, x7, x8] [.lst (T'.map rowD)] ∧ T'.length ≤ T.length + 5000 ∧ (∀ r ∈ T', r ≠ []) ∧ (T' = [] ↔ T = [] ∧ noneAt mock t p)) ⟨T, c6, c7, c8, Nat.zero_le _, rfl, rfl, by omega, hne, by simp⟩ ?_ ?_
  · rintro j d en st hd ⟨T', x6, x7, x8, _, rfl, rfl, hl', hne', hiff⟩
    obtain ⟨r, hr, rfl⟩ : ∃ r, rows[j]? = some r ∧ d = rowD r := by
      simp only [List.getElem?_map] at hd
      cases e : rows[j]? with
      | none => rw [e] at hd; cases hd
      | some r => rw [e] at hd; cases hd; exact ⟨r, rfl, rfl⟩
    have hj := (List.getElem?_eq_some_iff.mp hr).1
    have hmem : r ∈ turnsL mock p := hperm.mem_iff.mp (List.mem_of_getElem? hr)
    obtain ⟨y7, y8, e⟩ := try_body (mock := mock) (R := R) (r := r) (T := T') (t := t) (k := 0) (c0 := some (.str (kindS mock))) (c1 := c1) (c5 := some (.int p)) (c7 := x7) (c8 := x8) (S := [.lst (T'.map rowD)]) (fun a ha => hR a (turns_le r hmem a ha)) rfl (by omega)
    refine ⟨rfl, _, _, rfl, e, (if tv mock t r = 0 then T' ++ [r] else T'), some (rowD r), y7, y8, hj, rfl, rfl, ?_, ?_, ?_⟩
    · split
      · rw [List.length_append]; simp; omega
      · omega
    · split
      · intro q hq
        rcases List.mem_append.mp hq with h | h
        · exact hne' q h
        · simp at h; subst h; exact turns_ne mock p q hmem
      · exact hne'
    · rw [List.take_add_one, hr, Option.toList_some]
      by_cases h : tv mock t r = 0
      · rw [if_pos h]
        constructor
        · intro z; simp at z
        · rintro ⟨_, z⟩
          exact absurd h (z r (by simp))
      · rw [if_neg h, hiff]
        constructor
        · rintro ⟨a, b⟩
          refine ⟨a, fun q hq => ?_⟩
          rcases List.mem_append.mp hq with h' | h'
          · exact b q h'
          · simp at h'; subst h'; exact h
        · rintro ⟨a, b⟩
          exact ⟨a, fun q hq => b q (List.mem_append_left _ hq)⟩
  · rintro en st ⟨T', x6, x7, x8, _, rfl, rfl, hl', hne', hiff⟩
    have e : (ItD.mk (rows.map rowD) none).items.length = rows.length := List.length_map _
    rw [e] at hl' hiff
    rw [List.take_length] at hiff
    refine ⟨rfl, T', x6, x7, x8, rfl, by omega, hne', ?_⟩
    rw [hiff]
    unfold noneAt
    constructor
    · rintro ⟨a, b⟩
      exact ⟨a, fun r hr => b r (hperm.mem_iff.mpr hr)⟩
    · rintro ⟨a, b⟩
      exact ⟨a, fun r hr => b r (hperm.mem_iff.mp hr)⟩
end K66
namespace K66
open PySem Gv
theorem clD_rows (z : Nat) (l : List (List Nat)) : clDs z (l.map rowD) = true := by
  have hn : ∀ (xs : List Nat), clDs z (natD xs) = true := fun xs => by
    induction xs with
    | nil => rfl
    | cons a xs ih => simpa [natD, clDs, D.cl] using ih
  induction l with
  | nil => rfl
  | cons a l ih => simp [clDs, ih, rowD, D.cl, hn]
theorem moves_ok (mock : Bool) {ps : List Nat} (hi : Inc ps) (h8 : ∀ p ∈ ps, p < 8) (hl8 : ps.length ≤ 8) : ∃ T : List (List Nat), T_coin_moves [.str (kindS mock), .tup (natD ps)] [] = .ok (.tup (T.map rowD)) [] ∧ (T = [] ↔ ∀ p ∈ ps, noneAt mock (valL mock ps) p) := by
  obtain ⟨R, hR, hsel⟩ := row_sel mock hi h8
  have h0 : coin_moves_0 [some (.str (kindS mock)), some (.tup (natD ps)), none, none, none, none, none, none, none] [] = .nx [some (.str (kindS mock)), some (.tup (natD ps)), none, none, none, none, none, none, none] [] := s_ex (v_X rfl (check_X hi h8 []))
  have h1 : coin_moves_1 [some (.str (kindS mock)), some (.tup (natD ps)), none, none, none, none, none, none, none] [] = .nx [some (.str (kindS mock)), some (.tup (natD ps)), some (.int (valL mock ps)), none, none, none, none, none, none] [] := s_set (v_X rfl (value_X mock hi h8 []))
  have h2 : coin_moves_2 [some (.str (kindS mock)), some (.tup (natD ps)), some (.int (valL mock ps)), none, none, none, none, none, none] [] = .nx [some (.str (kindS mock)), some (.tup (natD ps)), some (.int (valL mock ps)), some (.tup (natD R)), none, none, none, none, none] [] := s_set (hsel _ [] rfl rfl)
  have h3 : coin_moves_3 [some (.str (kindS mock)), some (.tup (natD ps)), some (.int (valL mock ps)), some (.tup (natD R)), none, none, none, none, none] [] = .nx [some (.str (kindS mock)), some (.tup (natD ps)), some (.int (valL mock ps)), some (.tup (natD R)), some (.obj 0), none, none, none, none] [.lst (([] : List (List Nat)).map rowD)] := s_set rfl
  have h4 : ∃ (T : List (List Nat)) (x5 x6 x7 x8 : Option D), coin_moves_4 [some (.str (kindS mock)), some (.tup (natD ps)), some (.int (valL mock ps)), some (.tup (natD R)), some (.obj 0), none, none, none, none] [.lst (([] : List (List Nat)).map rowD)] = .nx [some (.str (kindS mock)), some (.tup (natD ps)), some (.int (valL mock ps)), some (.tup (natD R)), some (.obj 0), x5, x6, x7, x8] [.lst (T.map rowD)] ∧ T.length ≤ 50000 ∧ (∀ r ∈ T, r ≠ []) ∧ (T = [] ↔ ∀ p ∈ ps, noneAt mock (valL mock ps) p) := by
    have hit : iSeq (dV 1) [some (.str (kindS mock)), some (.tup (natD ps)), some (.int (valL mock ps)), some (.tup (natD R)), some (.obj 0), none, none, none, none] [.lst (([] : List (List Nat)).map rowD)] = .ok ⟨natD ps, none⟩ [.lst (([] : List (List Nat)).map rowD)] := rfl
    refine sFor_rule hit (fun j en st => ∃ (T : List (List Nat)) (x5 x6 x7 x8 : Option D), j ≤ ps.length ∧ en = [some (.str (kindS mock)), some (.tup (natD ps)), some (.int (valL mock ps)), some (.tup (natD R)), some (.obj 0), x5, x6, x7, x8] ∧ st = [.lst (T.map rowD)] ∧ T.length ≤ 5000 * j ∧ (∀ r ∈ T, r ≠ []) ∧ (T = [] ↔ ∀ p ∈ ps.take j, noneAt mock (valL mock ps) p))
      (fun q => ∃ (T : List (List Nat)) (x5 x6 x7 x8 : Option D), q = .nx [some (.str (kindS mock)), some (.tup (natD ps)), some (.int (valL mock ps)), some (.tup (natD R)), some (.obj 0), x5, x6, x7, x8] [.lst (T.map rowD)] ∧ T.length ≤ 50000 ∧ (∀ r ∈ T, r ≠ []) ∧ (T = [] ↔ ∀ p ∈ ps, noneAt mock (valL mock ps) p)) ⟨[], none, none, none, none, Nat.zero_le _, rfl, rfl, by simp, by simp, by simp⟩ ?_ ?_
    · rintro j d en st hd ⟨T, x5, x6, x7, x8, _, rfl, rfl, hl, hne, hiff⟩
      obtain ⟨p, hp, rfl⟩ := natD_at hd
      have hj := (List.getElem?_eq_some_iff.mp hp).1
      have hm := List.mem_of_getElem? hp
      obtain ⟨T', y6, y7, y8, e, a1, a2, a3⟩ := moves_place (mock := mock) (R := R) (T := T) (t := valL mock ps) (p := p) (c1 := some (.tup (natD ps))) (c6 := x6) (c7 := x7) (c8 := x8) (h8 p hm) (hR p hm) (by omega) hne
      refine ⟨rfl, _, _, rfl, e, T', some (.int p), y6, y7, y8, hj, rfl, rfl, by omega, a2, ?_⟩
      rw [a3, hiff, List.take_add_one, hp, Option.toList_some]
      constructor
      · rintro ⟨b1, b2⟩ q hq
        rcases List.mem_append.mp hq with h | h
        · exact b1 q h
        · simp at h; subst h; exact b2
      · intro b
        exact ⟨fun q hq => b q (List.mem_append_left _ hq), b p (by simp)⟩
    · rintro en st ⟨T, x5, x6, x7, x8, _, rfl, rfl, hl, hne, hiff⟩
      have e : (ItD.mk (natD ps) none).items.length = ps.length := natD_len _
      rw [e] at hl hiff
      rw [List.take_length] at hiff
      exact ⟨rfl, T, x5, x6, x7, x8, rfl, by omega, hne, hiff⟩
  obtain ⟨T, x5, x6, x7, x8, h4, hl, hne, hiff⟩ := h4
  obtain ⟨rows, hperm, hs⟩ := sorted_rows (rows := T) (k := 0) (st := [.lst (T.map rowD)]) hne (by omega) rfl
  have h5 : coin_moves_5 [some (.str (kindS mock)), some (.tup (natD ps)), some (.int (valL mock ps)), some (.tup (natD R)), some (.obj 0), x5, x6, x7, x8] [.lst (T.map rowD)] = .rt (.tup (rows.map rowD)) [.lst (T.map rowD)] := by
    have hv := v_cb (g := fTuple) (v_cons (v_cb (g := fSorted) (as := dCons (dV 4) dNil) (en := [some (.str (kindS mock)), some (.tup (natD ps)), some (.int (valL mock ps)), some (.tup (natD R)), some (.obj 0), x5, x6, x7, x8]) (st := [.lst (T.map rowD)]) (s1 := [.lst (T.map rowD)]) (xs := [.obj 0]) rfl hs) v_nil) (tuple_at (xs := rows.map rowD) (n := [Ob.lst (T.map rowD)].length) (s := [.lst (T.map rowD)] ++ [.lst (rows.map rowD)]) rfl)
    refine s_ret ?_
    rw [dGC, hv]
    exact gc_app (by simp [D.cl, clD_rows])
  refine ⟨rows, data_rt rfl (seq_nx h0 (seq_nx h1 (seq_nx h2 (seq_nx h3 (seq_nx h4 h5))))) (by simp only [D.objs]; exact objsL_rows _), ?_⟩
  rw [← hiff]
  constructor
  · intro z; subst z; exact List.nil_perm.mp hperm |>.symm ▸ rfl
  · intro z; subst z; exact List.perm_nil.mp hperm
/-! tables -/
def headsL (n : Nat) : List Nat := (List.range 8).filter fun k => n / 2 ^ k % 2 == 1
def anyMove (mock : Bool) (t : Nat) (ps : List Nat) : Bool := ps.any fun p => (turnsL mock p).any fun r => tv mock t r == 0
theorem move_tab : [false, true].all (fun mock => (List.range 256).all fun n => anyMove mock (valL mock (headsL n)) (headsL n) == !(valL mock (headsL n) == 0)) = true := by decide +kernel
theorem val_tab : [false, true].all (fun mock => (List.range 256).all fun n => valL mock (headsL n) == synL (cols (if mock then 4 else 3)) n) = true := by decide +kernel
end K66
namespace K66
open PySem Gv
def bit (n k : Nat) : Bool := n / 2 ^ k % 2 == 1
theorem in_ok {n k : Nat} (hk : k < 13) : T__law_in [.int n, .int k] [] = .ok (.bl (bit n k)) [] := by
  have hp : (0 : Nat) < 2 ^ k := Nat.pow_pos (by decide)
  have hp2 : 2 ^ k < 1073741824 := Nat.lt_of_le_of_lt (Nat.pow_le_pow_right (show 0 < 2 by decide) (show k ≤ 12 by omega)) (by decide)
  refine data_rt (s := []) rfl (s_ret (v_op (v_op (v_op (x := .int n) rfl (v_X rfl (pow_X hk [])) (f_div hp hp2 [])) (y := .int (2 : Nat)) rfl (f_mod (by decide) [])) (y := .int (1 : Nat)) rfl ?_)) rfl
  rw [f_eq]
  rfl
theorem in_X {n k : Nat} (hk : k < 13) (st : Sto) : callX T__law_in [.int n, .int k] st = .ok (.bl (bit n k)) st := callX_data (in_ok hk) rfl rfl st
/-- the places of a number's ones below L -/
def hd (L n : Nat) : List Nat := (List.range L).filter (bit n)
theorem hd_inc (L n : Nat) : Inc (hd L n) := List.Pairwise.filter _ (List.pairwise_lt_range)
theorem hd_lt {L n : Nat} (hL : L ≤ 8) : ∀ p ∈ hd L n, p < 8 := fun p hp => by
  have := List.mem_range.mp (List.mem_filter.mp hp).1
  omega
theorem hd_len {L n : Nat} (hL : L ≤ 8) : (hd L n).length ≤ 8 := Nat.le_trans (List.length_filter_le _ _) (by simp; exact hL)
theorem hd_eq {L n : Nat} (hL : L ≤ 8) (hn : n < 2 ^ L) : hd L n = headsL n := by
  have e : List.range 8 = List.range L ++ (List.range (8 - L)).map (L + ·) := by
    rw [← List.range_add]
    congr 1
    omega
  unfold headsL hd
  rw [e, List.filter_append]
  have : ((List.range (8 - L)).map (L + ·)).filter (fun k => n / 2 ^ k % 2 == 1) = [] := by
    rw [List.filter_eq_nil_iff]
    intro k hk
    obtain ⟨j, _, rfl⟩ := List.mem_map.mp hk
    have : n / 2 ^ (L + j) = 0 := Nat.div_eq_of_lt (Nat.lt_of_lt_of_le hn (Nat.pow_le_pow_right (by decide) (by omega)))
    simp [this]
  rw [this, List.append_nil]
  rfl
end K66
namespace K66
open PySem Gv
section
variable {ns : List Int} {S : Sto} {c0 c3 c4 c5 c6 c7 c8 c9 c10 c11 c12 c13 : Option D} {L : Nat} {mock : Bool}
def szL (mock : Bool) (L : Nat) : List Nat := (List.range L).map (sz mock)
theorem szL_at {k : Nat} (h : k < L) : (szL mock L)[k]? = some (sz mock k) := by
  rw [szL, List.getElem?_map, List.getElem?_range h]
  rfl
theorem w5 (hL : L ≤ 8) : ∃ n ex, law_5 [c0, some (.obj 1), some (.int L), some (.str (kindS mock)), c4, c5, c6, c7, c8, c9, c10, c11, c12, c13] S = .nx [c0, some (.obj 1), some (.int L), some (.str (kindS mock)), c4, c5, some (.obj n), c7, c8, c9, c10, c11, c12, c13] (S ++ ex) ∧ (S ++ ex)[n]? = some (.lst (natD (szL mock L))) ∧ S.length ≤ n := by
  have hle : LE (dLC [9] (iRg1 (dCons (dV 2) dNil)) (uN 9) bYes (dX T_coin_value (dCons (dV 3) (dCons (dTup (dCons (dV 9) dNil)) dNil)))) [c0, some (.obj 1), some (.int L), some (.str (kindS mock)), c4, c5, c6, c7, c8, c9, c10, c11, c12, c13] S (natD (szL mock L)) := by
    refine (LE.mapR (n := L) rfl (fun k => .int (sz mock k)) (fun k s hk => ⟨_, rfl, v_X (xs := [.str (kindS mock), .tup (natD [k])]) rfl ?_⟩) (by omega)).of_eq ?_
    · have := value_X mock (ps := [k]) (List.pairwise_singleton _ _) (fun p hp => by simp at hp; omega) s
      rw [this]
      simp [valL]
    · simp [natD, szL, Function.comp_def]
  obtain ⟨n, ex, e, g, l⟩ := hle.set' (i := 6)
  exact ⟨n, ex, e, g, l⟩
theorem val_step {n j : Nat} : valL mock (hd (j + 1) n) = if bit n j then valL mock (hd j n) ^^^ sz mock j else valL mock (hd j n) := by
  unfold hd
  rw [List.range_succ, List.filter_append]
  cases h : bit n j with
  | true => simp [h, valL]
  | false => simp [h]
theorem inner {n kO : Nat} (hL : L ≤ 8) (hO : S[kO]? = some (.lst (natD (szL mock L)))) :
    ∃ x, sFor (iRg1 (dCons (dV 2) dNil)) (uN 9) law_b1 [c0, some (.obj 1), some (.int L), c3, c4, c5, some (.obj kO), some (.int n), some (.int (0 : Nat)), c9, c10, c11, c12, c13] S = .nx [c0, some (.obj 1), some (.int L), c3, c4, c5, some (.obj kO), some (.int n), some (.int (valL mock (hd L n))), x, c10, c11, c12, c13] S := by
  have hi : iRg1 (dCons (dV 2) dNil) [c0, some (.obj 1), some (.int L), c3, c4, c5, some (.obj kO), some (.int n), some (.int (0 : Nat)), c9, c10, c11, c12, c13] S = .ok ⟨rng 0 L, none⟩ S := iRg1_n rfl (by omega)
  refine sFor_rule hi (fun j en st => ∃ x, j ≤ L ∧ en = [c0, some (.obj 1), some (.int L), c3, c4, c5, some (.obj kO), some (.int n), some (.int (valL mock (hd j n))), x, c10, c11, c12, c13] ∧ st = S) (fun r => ∃ x, r = .nx [c0, some (.obj 1), some (.int L), c3, c4, c5, some (.obj kO), some (.int n), some (.int (valL mock (hd L n))), x, c10, c11, c12, c13] S) ⟨c9, Nat.zero_le _, rfl, rfl⟩ ?_ ?_
  · rintro j d en st hdj ⟨x, _, rfl, rfl⟩
    obtain ⟨hj, rfl⟩ := rng_at hdj
    rw [Int.zero_add]
    have t1 : bTru (dX T__law_in (dCons (dV 7) (dCons (dV 9) dNil))) [c0, some (.obj 1), some (.int L), c3, c4, c5, some (.obj kO), some (.int n), some (.int (valL mock (hd j n))), some (.int j), c10, c11, c12, c13] st = .ok (bit n j) st := t_tru (v_X rfl (in_X (by omega) st)) rfl
    cases hb : bit n j with
    | true =>
      rw [hb] at t1
      refine ⟨rfl, _, _, rfl, s_if1 t1 (s_set (v_op (x := .int (valL mock (hd j n))) rfl (v_op (x := .obj kO) (y := .int j) rfl rfl (f_ix hO (szL_at hj))) (f_xor _ _ _))), some (.int j), hj, ?_, rfl⟩
      rw [val_step, hb]
      rfl
    | false =>
      rw [hb] at t1
      refine ⟨rfl, _, _, rfl, s_if0 t1 s_skip, some (.int j), hj, ?_, rfl⟩
      rw [val_step, hb]
      rfl
  · rintro en st ⟨x, _, rfl, rfl⟩
    refine ⟨rfl, x, ?_⟩
    have e : (ItD.mk (rng 0 L) none).items.length = L := rng_len _ _
    rw [e]
end
end K66
namespace K66
open PySem Gv
theorem LS_setGe {ns : List Int} {S : Sto} (h : LS ns S) {k : Nat} (hk : 3 ≤ k) (o : Ob) : LS ns (S.set k o) := by
  obtain ⟨p, g, s, c, h1, h2, h3⟩ := h.dr.ex
  exact ⟨by rw [List.getElem?_set_ne (by omega)]; exact h.scr, ⟨p, g, s, c, h1, by rw [List.getElem?_set_ne (by omega)]; exact h2, by rw [List.getElem?_set_ne (by omega)]; exact h3⟩⟩
def lostN (mock : Bool) (L m : Nat) : List Nat := (List.range m).filter fun n => valL mock (hd L n) == 0
theorem lost_succ (mock : Bool) (L m : Nat) : lostN mock L (m + 1) = if valL mock (hd L m) = 0 then lostN mock L m ++ [m] else lostN mock L m := by
  unfold lostN
  rw [List.range_succ, List.filter_append]
  by_cases h : valL mock (hd L m) = 0
  · simp [h]
  · simp [h]
theorem lost_len (mock : Bool) (L m : Nat) : (lostN mock L m).length ≤ m := Nat.le_trans (List.length_filter_le _ _) (by simp)
section
variable {ns : List Int} {S : Sto} {c0 c3 c4 c5 c6 c7 c8 c9 c10 c11 c12 c13 : Option D} {L : Nat} {mock : Bool}
theorem w6 {kO kD : Nat} (hL : L ≤ 8) (hO : S[kO]? = some (.lst (natD (szL mock L)))) (hD : S[kD]? = some (.lst (natD []))) (hne : kO ≠ kD) :
    ∃ x7 x8 x9, law_6 [c0, some (.obj 1), some (.int L), c3, c4, some (.obj kD), some (.obj kO), c7, c8, c9, c10, c11, c12, c13] S = .nx [c0, some (.obj 1), some (.int L), c3, c4, some (.obj kD), some (.obj kO), x7, x8, x9, c10, c11, c12, c13] (S.set kD (.lst (natD (lostN mock L (2 ^ L))))) := by
  have h5 : 2 ^ L ≤ 512 := pow_le (by omega)
  have hi : iRg1 (dCons (dX T__law_power (dCons (dC (.int 2)) (dCons (dV 2) dNil))) dNil) [c0, some (.obj 1), some (.int L), c3, c4, some (.obj kD), some (.obj kO), c7, c8, c9, c10, c11, c12, c13] S = .ok ⟨rng 0 (2 ^ L), none⟩ S := iRg1_n (v_cons (v_X rfl (pow_X (by omega) _)) v_nil) (by omega)
  have hkl := (List.getElem?_eq_some_iff.mp hD).1
  refine sFor_rule hi (fun m en st => ∃ x7 x8 x9, m ≤ 2 ^ L ∧ en = [c0, some (.obj 1), some (.int L), c3, c4, some (.obj kD), some (.obj kO), x7, x8, x9, c10, c11, c12, c13] ∧ st = S.set kD (.lst (natD (lostN mock L m)))) (fun r => ∃ x7 x8 x9, r = .nx [c0, some (.obj 1), some (.int L), c3, c4, some (.obj kD), some (.obj kO), x7, x8, x9, c10, c11, c12, c13] (S.set kD (.lst (natD (lostN mock L (2 ^ L)))))) ⟨c7, c8, c9, Nat.zero_le _, rfl, (sto_set_same hD).symm⟩ ?_ ?_
  · rintro m d en st hdm ⟨x7, x8, x9, _, rfl, rfl⟩
    obtain ⟨hm, rfl⟩ := rng_at hdm
    rw [Int.zero_add]
    have hO' : (S.set kD (.lst (natD (lostN mock L m))))[kO]? = some (.lst (natD (szL mock L))) := by rw [List.getElem?_set_ne (Ne.symm hne)]; exact hO
    have hD' : (S.set kD (.lst (natD (lostN mock L m))))[kD]? = some (.lst (natD (lostN mock L m))) := List.getElem?_set_self hkl
    obtain ⟨x, e⟩ := inner (c0 := c0) (c3 := c3) (c4 := c4) (c5 := some (.obj kD)) (c9 := x9) (c10 := c10) (c11 := c11) (c12 := c12) (c13 := c13) (n := m) hL hO'
    have t1 : bCmp fEq (dV 8) (dC (.int 0)) [c0, some (.obj 1), some (.int L), c3, c4, some (.obj kD), some (.obj kO), some (.int m), some (.int (valL mock (hd L m))), x, c10, c11, c12, c13] (S.set kD (.lst (natD (lostN mock L m)))) = .ok (decide (valL mock (hd L m) = 0)) (S.set kD (.lst (natD (lostN mock L m)))) := t_cmp (x := .int (valL mock (hd L m))) (y := .int (0 : Nat)) rfl rfl (f_eq _ _ _)
    have hlen := lost_len mock L m
    by_cases h : valL mock (hd L m) = 0
    · rw [decide_eq_true h] at t1
      have ea : fAppend (.obj kD) [.int m] (S.set kD (.lst (natD (lostN mock L m)))) = some (.non, S.set kD (.lst (natD (lostN mock L (m + 1))))) := by
        simp only [fAppend, hD']
        rw [if_pos (by rw [natD_len]; omega), List.set_set, lost_succ, if_pos h, natD_app]
        rfl
      have h2 : dV 5 [c0, some (.obj 1), some (.int L), c3, c4, some (.obj kD), some (.obj kO), some (.int m), some (.int (valL mock (hd L m))), x, c10, c11, c12, c13] (S.set kD (.lst (natD (lostN mock L m)))) = .ok (.obj kD) (S.set kD (.lst (natD (lostN mock L m)))) := rfl
      have h3 : dCons (dV 7) dNil [c0, some (.obj 1), some (.int L), c3, c4, some (.obj kD), some (.obj kO), some (.int m), some (.int (valL mock (hd L m))), x, c10, c11, c12, c13] (S.set kD (.lst (natD (lostN mock L m)))) = .ok [.int m] (S.set kD (.lst (natD (lostN mock L m)))) := rfl
      have h4 : isL (S.set kD (.lst (natD (lostN mock L m)))) (.obj kD) = true := by simp only [isL, hD']
      refine ⟨rfl, _, _, rfl, seq_nx (a := sSet 8 (dC (.int 0))) (s_set rfl) (seq_nx e (s_if1 t1 (s_ex (x := .non) (s1 := S.set kD (.lst (natD (lostN mock L (m + 1))))) ?_))), some (.int m), some (.int (valL mock (hd L m))), x, hm, rfl, rfl⟩
      simp only [dM, h2, Re.bind_ok, h4, if_true, h3, ea, Vr.re_some]
    · rw [decide_eq_false h] at t1
      refine ⟨rfl, _, _, rfl, seq_nx (a := sSet 8 (dC (.int 0))) (s_set rfl) (seq_nx e (s_if0 t1 s_skip)), some (.int m), some (.int (valL mock (hd L m))), x, hm, rfl, ?_⟩
      rw [lost_succ, if_neg h]
  · rintro en st ⟨x7, x8, x9, _, rfl, rfl⟩
    refine ⟨rfl, x7, x8, x9, ?_⟩
    have e : (ItD.mk (rng 0 (2 ^ L)) none).items.length = 2 ^ L := rng_len _ _
    rw [e]
end
/-! what the lost rows are -/
def gp (mock : Bool) : Nat := if mock then 4 else 3
theorem lost_eq (mock : Bool) {L : Nat} (hL : L ≤ 8) : lostN mock L (2 ^ L) = lexN (gp mock) (2 ^ L) := by
  have h5 : 2 ^ L ≤ 512 := pow_le (by omega)
  have h8 : 2 ^ L ≤ 256 := Nat.pow_le_pow_right (show 0 < 2 by decide) hL
  rw [lex_eq (by cases mock <;> decide) (by cases mock <;> decide) _ h5]
  apply List.filter_congr
  intro n hn
  have hn := List.mem_range.mp hn
  have := List.all_eq_true.mp (List.all_eq_true.mp val_tab mock (by cases mock <;> simp)) n (List.mem_range.mpr (by omega))
  rw [hd_eq hL hn, beq_iff_eq.mp this]
  cases mock <;> rfl
end K66
namespace K66
open PySem Gv
theorem heads_LE {en : En} {S : Sto} {L n s : Nat} (hL : L ≤ 8) (h2 : en[2]? = some (some (.int L))) (hs : en[s]? = some (some (.int n))) (hs9 : s ≠ 9) (hl : 9 < en.length) :
    LE (dLC [9] (iRg1 (dCons (dV 2) dNil)) (uN 9) (bTru (dX T__law_in (dCons (dV s) (dCons (dV 9) dNil)))) (dV 9)) en S (natD (hd L n)) := by
  have hv : ∀ (en : En) (st : Sto) (i : Nat) (d : D), en[i]? = some (some d) → dV i en st = .ok d st := fun en st i d h => by simp only [dV, h]
  have hi : iRg1 (dCons (dV 2) dNil) en S = .ok ⟨rng 0 L, none⟩ S := iRg1_n (v_cons (hv en S 2 _ h2) v_nil) (by omega)
  have hf : (List.range (rng 0 L).length).filterMap (fun k => if bit n k then some (D.int k) else none) = natD (hd L n) := by
    rw [rng_len]
    have : ∀ l : List Nat, l.filterMap (fun (k : Nat) => if bit n k then some (D.int k) else none) = natD (l.filter (bit n)) := fun l => by
      induction l with
      | nil => rfl
      | cons a l ih =>
        cases h : bit n a with
        | true => simp [h, ih, natD]
        | false => simp [h, ih]
    exact this _
  refine ⟨S.length, [.lst (natD (hd L n))], ?_, by simp, Nat.le_refl _⟩
  rw [← hf]
  refine dLC_pure hi (fun k => if bit n k then some (D.int k) else none) (fun k d acc hd' => ?_) (fun _ => rfl) (by rw [rng_len]; omega)
  obtain ⟨hk, rfl⟩ := rng_at hd'
  rw [Int.zero_add]
  have e9 : ((en.set 9 none).set 9 (some (.int k)))[9]? = some (some (.int (k : Int))) := List.getElem?_set_self (by rw [List.length_set]; exact hl)
  have es : ((en.set 9 none).set 9 (some (D.int k)))[s]? = some (some (.int n)) := by
    rw [List.getElem?_set_ne (Ne.symm hs9), List.getElem?_set_ne (Ne.symm hs9)]
    exact hs
  refine ⟨rfl, (en.set 9 none).set 9 (some (.int k)), rfl, ?_⟩
  have t1 : bTru (dX T__law_in (dCons (dV s) (dCons (dV 9) dNil))) ((en.set 9 none).set 9 (some (.int k))) (S ++ [.lst acc]) = .ok (bit n k) (S ++ [.lst acc]) := t_tru (v_X (v_cons (hv _ _ s _ es) (v_cons (hv _ _ 9 _ e9) v_nil)) (in_X (by omega) _)) rfl
  cases hb : bit n k with
  | true =>
    rw [hb] at t1
    exact ⟨t1, hv _ _ 9 _ e9⟩
  | false =>
    rw [hb] at t1
    exact t1
theorem clD_nat (z : Nat) (xs : List Nat) : clDs z (natD xs) = true := by
  induction xs with
  | nil => rfl
  | cons a xs ih => simpa [natD, clDs, D.cl] using ih
theorem heads_tup {en : En} {S : Sto} {L n s : Nat} (hL : L ≤ 8) (h2 : en[2]? = some (some (.int L))) (hs : en[s]? = some (some (.int n))) (hs9 : s ≠ 9) (hl : 9 < en.length) :
    dGC (dCB fTuple (dCons (dLC [9] (iRg1 (dCons (dV 2) dNil)) (uN 9) (bTru (dX T__law_in (dCons (dV s) (dCons (dV 9) dNil)))) (dV 9)) dNil)) en S = .ok (.tup (natD (hd L n))) S :=
  (heads_LE hL h2 hs hs9 hl).call (fun _ _ h => tuple_at h) (by simp [D.cl, clD_nat])
section
variable {ns : List Int} {S : Sto} {c0 c3 c4 c5 c6 c7 c8 c9 c10 c11 c12 c13 : Option D} {L : Nat} {mock : Bool}
theorem w8 {n : Nat} (hL : L ≤ 8) (hv : valL mock (hd L n) = 0) : law_8 [c0, some (.obj 1), some (.int L), some (.str (kindS mock)), c4, c5, c6, c7, c8, c9, some (.int n), c11, c12, c13] S = .nx [c0, some (.obj 1), some (.int L), some (.str (kindS mock)), c4, c5, c6, c7, c8, c9, some (.int n), c11, c12, c13] S := by
  refine s_if0 (t_cmp (v_X (v_cons (x := .str (kindS mock)) rfl (v_cons (heads_tup (n := n) (s := 10) hL rfl rfl (by decide) (by simp)) v_nil)) (value_X mock (hd_inc L n) (hd_lt hL) S)) (y := .int (0 : Nat)) rfl ?_) s_skip
  rw [f_ne, hv]
  rfl
theorem w11 {n : Nat} (hL : L ≤ 8) : law_11 [c0, some (.obj 1), some (.int L), c3, c4, c5, c6, some (.int n), c8, c9, c10, c11, c12, c13] S = .nx [c0, some (.obj 1), some (.int L), c3, c4, c5, c6, some (.int n), c8, c9, c10, some (.tup (natD (hd L n))), c12, c13] S :=
  s_set (heads_tup (n := n) (s := 7) hL rfl rfl (by decide) (by simp))
end
end K66
namespace K66
open PySem Gv
theorem lex_X {L g : Nat} (hL : L ≤ 9) (hL1 : 1 ≤ L) (hg : 1 ≤ g) (hgL : g ≤ L) (st : Sto) : callX T_lexicode [.int L, .int g] st = .ok (.tup (natD (lexN g (2 ^ L)))) st := callX_data (lex_ok hL hL1 hg hgL) rfl (by simp only [D.objs]; exact objsL_nat _) st
theorem even_tab : (List.range 256).all (fun n => ((headsL n).length % 2 == 0) == synz 2 n) = true := by decide +kernel
theorem moves_iff {mock : Bool} {L n : Nat} (hL : L ≤ 8) (hn : n < 2 ^ L) : (∀ p ∈ hd L n, noneAt mock (valL mock (hd L n)) p) ↔ valL mock (hd L n) = 0 := by
  have h8 : 2 ^ L ≤ 256 := Nat.pow_le_pow_right (show 0 < 2 by decide) hL
  have := List.all_eq_true.mp (List.all_eq_true.mp move_tab mock (by cases mock <;> simp)) n (List.mem_range.mpr (by omega))
  rw [← hd_eq hL hn] at this
  have h := beq_iff_eq.mp this
  constructor
  · intro hno
    have hf : anyMove mock (valL mock (hd L n)) (hd L n) = false := by
      unfold anyMove
      rw [List.any_eq_false]
      intro p hp
      simp only [Bool.not_eq_true, List.any_eq_false, beq_iff_eq]
      exact fun r hr => hno p hp r hr
    rw [hf] at h
    simpa using h
  · intro hz p hp r hr hz2
    have ht : anyMove mock (valL mock (hd L n)) (hd L n) = true := by
      unfold anyMove
      exact List.any_eq_true.mpr ⟨p, hp, List.any_eq_true.mpr ⟨r, hr, by simpa using hz2⟩⟩
    rw [ht, hz] at h
    simp at h
section
variable {ns : List Int} {S : Sto} {c0 c3 c4 c5 c6 c7 c8 c9 c10 c11 c12 c13 : Option D} {L : Nat} {mock : Bool}
theorem w9 {kD : Nat} (hL : L ≤ 8) (hL4 : 4 ≤ L) (hD : S[kD]? = some (.lst (natD (lostN mock L (2 ^ L))))) : law_9 [c0, some (.obj 1), some (.int L), c3, some (.int (gp mock)), some (.obj kD), c6, c7, c8, c9, c10, c11, c12, c13] S = .nx [c0, some (.obj 1), some (.int L), c3, some (.int (gp mock)), some (.obj kD), c6, c7, c8, c9, c10, c11, c12, c13] S := by
  have hg : 1 ≤ gp mock ∧ gp mock ≤ 4 := by cases mock <;> decide
  rw [lost_eq mock hL] at hD
  have hne := fNe_tup (plL_nat (lexN (gp mock) (2 ^ L))) (plL_nat (lexN (gp mock) (2 ^ L))) (by rw [dpL_nat]; decide) (by rw [dpL_nat]; decide) S
  rw [beqDs_self] at hne
  exact s_if0 (t_cmp (v_X rfl (lex_X (L := L) (g := gp mock) (by omega) (by omega) hg.1 (by omega) S)) (v_cb (xs := [.obj kD]) rfl (tuple_at hD)) hne) s_skip
theorem w12 {n kD : Nat} (hL : L ≤ 8) (hn : n < 2 ^ L) (hD : S[kD]? = some (.lst (natD (lostN mock L (2 ^ L))))) : law_12 [c0, some (.obj 1), some (.int L), some (.str (kindS mock)), c4, some (.obj kD), c6, some (.int n), c8, c9, c10, some (.tup (natD (hd L n))), c12, c13] S = .nx [c0, some (.obj 1), some (.int L), some (.str (kindS mock)), c4, some (.obj kD), c6, some (.int n), c8, c9, c10, some (.tup (natD (hd L n))), c12, c13] S := by
  obtain ⟨T, hT, hiff⟩ := moves_ok mock (hd_inc L n) (hd_lt hL) (hd_len (n := n) hL)
  have hX := callX_data hT (by simp only [objsL, D.objs, objsL_nat, List.append_nil]) (by simp only [D.objs]; exact objsL_rows _) S
  have hlen : dGC (dCB fLen (dCons (dX T_coin_moves (dCons (dV 3) (dCons (dV 11) dNil))) dNil)) [c0, some (.obj 1), some (.int L), some (.str (kindS mock)), c4, some (.obj kD), c6, some (.int n), c8, c9, c10, some (.tup (natD (hd L n))), c12, c13] S = .ok (.int T.length) S := by
    have hv := v_cb (g := fLen) (z := .int T.length) (s2 := S) (v_cons (v_X (T := T_coin_moves) (as := dCons (dV 3) (dCons (dV 11) dNil)) (en := [c0, some (.obj 1), some (.int L), some (.str (kindS mock)), c4, some (.obj kD), c6, some (.int n), c8, c9, c10, some (.tup (natD (hd L n))), c12, c13]) (st := S) rfl hX) v_nil) (by simp only [fLen, List.length_map])
    rw [dGC, hv]
    have := gc_app (x := .int T.length) (st := S) (ex := []) rfl
    rwa [List.append_nil] at this
  have hb : decide (T.length = 0) = (lostN mock L (2 ^ L)).contains n := by
    rw [Bool.eq_iff_iff, decide_eq_true_iff, List.length_eq_zero_iff, hiff, moves_iff hL hn, List.contains_iff_mem]
    simp [lostN, hn]
  refine s_if0 (t_cmp (v_op hlen (y := .int (0 : Nat)) rfl (f_eq _ _ _)) (v_op (x := .int n) (y := .obj kD) rfl rfl (f_in false hD n)) ?_) s_skip
  rw [hb]
  simp [fNe]
theorem w13 (hL : L ≤ 8) : ∃ k ex, law_13 [c0, some (.obj 1), some (.int L), c3, c4, c5, c6, c7, c8, c9, c10, c11, c12, c13] S = .nx [c0, some (.obj 1), some (.int L), c3, c4, c5, c6, c7, c8, c9, c10, c11, some (.obj k), c13] (S ++ ex) ∧ (S ++ ex)[k]? = some (.lst (natD (lexN 2 (2 ^ L)))) := by
  have h8 : 2 ^ L ≤ 256 := Nat.pow_le_pow_right (show 0 < 2 by decide) hL
  have hi : iRg1 (dCons (dX T__law_power (dCons (dC (.int 2)) (dCons (dV 2) dNil))) dNil) [c0, some (.obj 1), some (.int L), c3, c4, c5, c6, c7, c8, c9, c10, c11, c12, c13] S = .ok ⟨rng 0 (2 ^ L), none⟩ S := iRg1_n (v_cons (v_X rfl (pow_X (by omega) _)) v_nil) (by omega)
  have hf : (List.range (rng 0 (2 ^ L)).length).filterMap (fun (n : Nat) => if synz 2 n then some (D.int n) else none) = natD (lexN 2 (2 ^ L)) := by
    rw [rng_len, lex_eq (by decide) (by decide) _ (by omega)]
    have : ∀ l : List Nat, l.filterMap (fun (n : Nat) => if synz 2 n then some (D.int n) else none) = natD (l.filter (synz 2)) := fun l => by
      induction l with
      | nil => rfl
      | cons a l ih =>
        cases h : synz 2 a with
        | true => simp [h, ih, natD]
        | false => simp [h, ih]
    exact this _
  refine ⟨S.length, [.lst (natD (lexN 2 (2 ^ L)))], s_set ?_, by simp⟩
  rw [← hf]
  refine dLC_pure hi (fun n => if synz 2 n then some (D.int n) else none) (fun n d acc hdn => ?_) (fun _ => rfl) (by rw [rng_len]; omega)
  obtain ⟨hn, rfl⟩ := rng_at hdn
  rw [Int.zero_add]
  have he : ((hd L n).length % 2 == 0) = synz 2 n := by
    have := List.all_eq_true.mp even_tab n (List.mem_range.mpr (by omega))
    rw [hd_eq hL hn]
    exact beq_iff_eq.mp this
  have hlen := (heads_LE (en := [c0, some (.obj 1), some (.int L), c3, c4, c5, c6, c7, c8, c9, c10, c11, c12, some (.int n)]) (S := S ++ [.lst acc]) (L := L) (n := n) (s := 13) hL rfl rfl (by decide) (by simp)).call (f := fLen) (x := .int (hd L n).length) (fun k s h => by rw [len_at h, natD_len]) rfl
  have t1 : bCmp fEq (dOp fMod (dGC (dCB fLen (dCons (dLC [9] (iRg1 (dCons (dV 2) dNil)) (uN 9) (bTru (dX T__law_in (dCons (dV 13) (dCons (dV 9) dNil)))) (dV 9)) dNil))) (dC (.int 2))) (dC (.int 0)) [c0, some (.obj 1), some (.int L), c3, c4, c5, c6, c7, c8, c9, c10, c11, c12, some (.int n)] (S ++ [.lst acc]) = .ok (synz 2 n) (S ++ [.lst acc]) := by
    refine t_cmp (v_op hlen (y := .int (2 : Nat)) rfl (f_mod (by decide) _)) (y := .int (0 : Nat)) rfl ?_
    rw [f_eq, ← he]
    rfl
  refine ⟨rfl, _, rfl, ?_⟩
  cases hb : synz 2 n with
  | true =>
    rw [hb] at t1
    exact ⟨t1, rfl⟩
  | false =>
    rw [hb] at t1
    exact t1
theorem w14 {k : Nat} (hL : L ≤ 8) (hL4 : 4 ≤ L) (hk : S[k]? = some (.lst (natD (lexN 2 (2 ^ L))))) : law_14 [c0, some (.obj 1), some (.int L), c3, c4, c5, c6, c7, c8, c9, c10, c11, some (.obj k), c13] S = .rt (.bl true) S := by
  refine s_ret (v_op (v_X rfl (lex_X (L := L) (g := 2) (by omega) (by omega) (by decide) (by omega) S)) (v_cb (xs := [.obj k]) rfl (tuple_at hk)) ?_)
  rw [fEq_tup (plL_nat _) (plL_nat _) (by rw [dpL_nat]; decide) (by rw [dpL_nat]; decide), beqDs_self]
end
end K66
namespace K66
open PySem Gv
theorem law_ok (ns : List Int) (hlen : ns.length ≤ 63) : ∃ s, T_law [.obj 0] [.fls (ns.map .int)] = .ok (.bl true) s := by
  obtain ⟨S0, e0, l0, z0⟩ := begin_law ns (en := [some (.obj 0), none, none, none, none, none, none, none, none, none, none, none, none, none]) rfl 1
  obtain ⟨r, S1, e1, hr, l1, z1, _⟩ := l0.draw (m := 5) (by decide) (by decide)
  have f1 : law_1 [some (.obj 0), some (.obj 1), none, none, none, none, none, none, none, none, none, none, none, none] S0 = .nx [some (.obj 0), some (.obj 1), some (.int (4 + r : Nat)), none, none, none, none, none, none, none, none, none, none, none] S1 := s_set (v_op (x := .int (4 : Nat)) rfl (v_X rfl e1) (f_add 4 r S1))
  obtain ⟨L, hLe⟩ : ∃ L, L = 4 + r := ⟨_, rfl⟩
  rw [← hLe] at f1
  have hL : L ≤ 8 := by omega
  have hL4 : 4 ≤ L := by omega
  have h5 : 2 ^ L ≤ 512 := pow_le (by omega)
  have hg : (S1 ++ [Ob.lst [.str "turtles", .str "mock"]])[S1.length]? = some (.lst [.str "turtles", .str "mock"]) := by simp
  obtain ⟨q, x, S2, e2, hq, l2, z2, _⟩ := (l1.app [.lst [.str "turtles", .str "mock"]]).pick hg (by omega) rfl (by simp) (by simp)
  obtain ⟨mock, rfl⟩ : ∃ mock, x = .str (kindS mock) := by
    cases q with
    | zero => cases hq; exact ⟨false, rfl⟩
    | succ q =>
      cases q with
      | zero => cases hq; exact ⟨true, rfl⟩
      | succ q => simp at hq
  have z2' : S2.length = S1.length + 1 := by rw [z2]; simp
  rw [← pick_eq] at e2
  have f2 : law_2 [some (.obj 0), some (.obj 1), some (.int L), none, none, none, none, none, none, none, none, none, none, none] S1 = .nx [some (.obj 0), some (.obj 1), some (.int L), some (.str (kindS mock)), none, none, none, none, none, none, none, none, none, none] S2 := s_set (v_X (v_cons (x := .obj 1) rfl (v_cons (x := .obj S1.length) (s1 := S1 ++ [Ob.lst [.str "turtles", .str "mock"]]) (s2 := S1 ++ [Ob.lst [.str "turtles", .str "mock"]]) rfl v_nil)) e2)
  have f3 : law_3 [some (.obj 0), some (.obj 1), some (.int L), some (.str (kindS mock)), none, none, none, none, none, none, none, none, none, none] S2 = .nx [some (.obj 0), some (.obj 1), some (.int L), some (.str (kindS mock)), some (.int (gp mock)), none, none, none, none, none, none, none, none, none] S2 := by
    have t1 : bCmp fEq (dV 3) (dC (.str "turtles")) [some (.obj 0), some (.obj 1), some (.int L), some (.str (kindS mock)), none, none, none, none, none, none, none, none, none, none] S2 = .ok (!mock) S2 := by
      refine t_cmp (x := .str (kindS mock)) (y := .str "turtles") (s1 := S2) (s2 := S2) rfl rfl ?_
      have : decide (kindS mock = ("turtles" : PySem.Str)) = !mock := by cases mock <;> decide +kernel
      simp only [fEq, this]
    refine s_set (v_if t1 ?_)
    cases mock <;> rfl
  have f4 : law_4 [some (.obj 0), some (.obj 1), some (.int L), some (.str (kindS mock)), some (.int (gp mock)), none, none, none, none, none, none, none, none, none] S2 = .nx [some (.obj 0), some (.obj 1), some (.int L), some (.str (kindS mock)), some (.int (gp mock)), some (.obj S2.length), none, none, none, none, none, none, none, none] (S2 ++ [.lst (natD [])]) := s_set rfl
  obtain ⟨kO, ex, f5, hO, hkO⟩ := w5 (c0 := some (.obj 0)) (c4 := some (.int (gp mock))) (c5 := some (.obj S2.length)) (c6 := none) (c7 := none) (c8 := none) (c9 := none) (c10 := none) (c11 := none) (c12 := none) (c13 := none) (S := S2 ++ [.lst (natD [])]) (mock := mock) hL
  rw [List.length_append] at hkO
  simp only [List.length_cons, List.length_nil] at hkO
  have hD : (S2 ++ [Ob.lst (natD [])] ++ ex)[S2.length]? = some (.lst (natD [])) := by simp
  obtain ⟨x7, x8, x9, f6⟩ := w6 (c0 := some (.obj 0)) (c3 := some (.str (kindS mock))) (c4 := some (.int (gp mock))) (c7 := none) (c8 := none) (c9 := none) (c10 := none) (c11 := none) (c12 := none) (c13 := none) (mock := mock) hL hO hD (by omega)
  have l6 := LS_setGe ((l2.app [.lst (natD [])]).app ex) (k := S2.length) (by omega) (.lst (natD (lostN mock L (2 ^ L))))
  have hD6 : ((S2 ++ [Ob.lst (natD [])] ++ ex).set S2.length (.lst (natD (lostN mock L (2 ^ L)))))[S2.length]? = some (.lst (natD (lostN mock L (2 ^ L)))) := List.getElem?_set_self (List.getElem?_eq_some_iff.mp hD).1
  have h0 : 0 < (natD (lostN mock L (2 ^ L))).length := by
    rw [natD_len, lost_eq mock hL]
    have : 0 ∈ lexN (gp mock) (2 ^ L) := (lex_mem (by cases mock <;> decide) (by cases mock <;> decide) (by omega)).mpr ⟨Nat.pow_pos (by decide), by
      have : ∀ cs : List Nat, synL cs 0 = 0 := fun cs => by
        induction cs with
        | nil => rfl
        | cons c cs ih => simp [synL, ih]
      simp [synz, this]⟩
    exact List.length_pos_of_mem this
  have hll := lost_len mock L (2 ^ L)
  obtain ⟨_, v, S7, e7, hv, l7, _, s7⟩ := l6.pick hD6 (by omega) (objsL_nat _) h0 (by rw [natD_len]; omega)
  obtain ⟨a, ha, rfl⟩ := natD_at hv
  have hval : valL mock (hd L a) = 0 := by
    have := (List.mem_filter.mp (List.mem_of_getElem? ha)).2
    simpa using this
  have hD7 : S7[S2.length]? = some (.lst (natD (lostN mock L (2 ^ L)))) := by rw [s7 _ (by omega)]; exact hD6
  obtain ⟨n, S10, e10, hn, l10, _, s10⟩ := l7.draw (m := ((2 ^ L : Nat) : Int)) (by have : 0 < 2 ^ L := Nat.pow_pos (by decide); omega) (by omega)
  have hn : n < 2 ^ L := by omega
  have hD10 : S10[S2.length]? = some (.lst (natD (lostN mock L (2 ^ L)))) := by rw [s10 _ (by omega)]; exact hD7
  have f7 : law_7 [some (.obj 0), some (.obj 1), some (.int L), some (.str (kindS mock)), some (.int (gp mock)), some (.obj S2.length), some (.obj kO), x7, x8, x9, none, none, none, none] ((S2 ++ [Ob.lst (natD [])] ++ ex).set S2.length (.lst (natD (lostN mock L (2 ^ L))))) = .nx [some (.obj 0), some (.obj 1), some (.int L), some (.str (kindS mock)), some (.int (gp mock)), some (.obj S2.length), some (.obj kO), x7, x8, x9, some (.int a), none, none, none] S7 := s_set (v_X rfl e7)
  have f10 : law_10 [some (.obj 0), some (.obj 1), some (.int L), some (.str (kindS mock)), some (.int (gp mock)), some (.obj S2.length), some (.obj kO), x7, x8, x9, some (.int a), none, none, none] S7 = .nx [some (.obj 0), some (.obj 1), some (.int L), some (.str (kindS mock)), some (.int (gp mock)), some (.obj S2.length), some (.obj kO), some (.int n), x8, x9, some (.int a), none, none, none] S10 := s_set (v_X (v_cons (x := .obj 1) rfl (v_cons (v_X rfl (pow_X (by omega) S7)) v_nil)) e10)
  obtain ⟨k13, ex13, f13, h13⟩ := w13 (c0 := some (.obj 0)) (c3 := some (.str (kindS mock))) (c4 := some (.int (gp mock))) (c5 := some (.obj S2.length)) (c6 := some (.obj kO)) (c7 := some (.int n)) (c8 := x8) (c9 := x9) (c10 := some (.int a)) (c11 := some (.tup (natD (hd L n)))) (c12 := none) (c13 := none) (S := S10) hL
  have run := fn_rt (n := 14) (ar := 1) (ds := [.obj 0]) (st := [.fls (ns.map .int)]) rfl (seq_nx (a := law_0) e0 (seq_nx f1 (seq_nx f2 (seq_nx f3 (seq_nx f4 (seq_nx f5 (seq_nx f6 (seq_nx f7 (seq_nx (w8 hL hval) (seq_nx (w9 hL hL4 hD7) (seq_nx f10 (seq_nx (w11 hL) (seq_nx (w12 hL hn hD10) (seq_nx f13 (w14 hL hL4 h13)))))))))))))))
  obtain ⟨s, e⟩ := (l10.app ex13).fin
  refine ⟨s, ?_⟩
  show canon 1 (dFn 14 1 _ [.obj 0] [.fls (ns.map .int)]) = _
  rw [run]
  exact e
end K66
namespace K66
open PySem PySem.Spec PyProof.Rows L2 Gv
theorem all_mk {l : PySem.W.OpenLaw} {w : World} {K : PySem.W.Frag} {h : Heap} {mg : Str → Option Value} {fa : Addr} (X : K.In h) (G : h.Ns mainGlobals mg) (hfa : mg "law" = some (.ref fa))
    {f_least_missing : Addr} {oc_least_missing kV_least_missing dc_least_missing pm_least_missing cd_least_missing ct_least_missing : Value} {od_least_missing an_least_missing : Option Addr} {sl_least_missing : Array (Option Value)}
    {f_check_places : Addr} {oc_check_places kV_check_places dc_check_places pm_check_places cd_check_places ct_check_places : Value} {od_check_places an_check_places : Option Addr} {sl_check_places : Array (Option Value)}
    {f_turns : Addr} {oc_turns kV_turns dc_turns pm_turns cd_turns ct_turns : Value} {od_turns an_turns : Option Addr} {sl_turns : Array (Option Value)}
    {f_coin_row : Addr} {oc_coin_row kV_coin_row dc_coin_row pm_coin_row cd_coin_row ct_coin_row : Value} {od_coin_row an_coin_row : Option Addr} {sl_coin_row : Array (Option Value)}
    {f_coin_value : Addr} {oc_coin_value kV_coin_value dc_coin_value pm_coin_value cd_coin_value ct_coin_value : Value} {od_coin_value an_coin_value : Option Addr} {sl_coin_value : Array (Option Value)}
    {f_coin_moves : Addr} {oc_coin_moves kV_coin_moves dc_coin_moves pm_coin_moves cd_coin_moves ct_coin_moves : Value} {od_coin_moves an_coin_moves : Option Addr} {sl_coin_moves : Array (Option Value)}
    {f_ones_of : Addr} {oc_ones_of kV_ones_of dc_ones_of pm_ones_of cd_ones_of ct_ones_of : Value} {od_ones_of an_ones_of : Option Addr} {sl_ones_of : Array (Option Value)}
    {f_lexicode : Addr} {oc_lexicode kV_lexicode dc_lexicode pm_lexicode cd_lexicode ct_lexicode : Value} {od_lexicode an_lexicode : Option Addr} {sl_lexicode : Array (Option Value)}
    {f__law_begin : Addr} {oc__law_begin kV__law_begin dc__law_begin pm__law_begin cd__law_begin ct__law_begin : Value} {od__law_begin an__law_begin : Option Addr} {sl__law_begin : Array (Option Value)}
    {f__law_take : Addr} {oc__law_take kV__law_take dc__law_take pm__law_take cd__law_take ct__law_take : Value} {od__law_take an__law_take : Option Addr} {sl__law_take : Array (Option Value)}
    {f__law_pick : Addr} {oc__law_pick kV__law_pick dc__law_pick pm__law_pick cd__law_pick ct__law_pick : Value} {od__law_pick an__law_pick : Option Addr} {sl__law_pick : Array (Option Value)}
    {f__law_power : Addr} {oc__law_power kV__law_power dc__law_power pm__law_power cd__law_power ct__law_power : Value} {od__law_power an__law_power : Option Addr} {sl__law_power : Array (Option Value)}
    {f__law_in : Addr} {oc__law_in kV__law_in dc__law_in pm__law_in cd__law_in ct__law_in : Value} {od__law_in an__law_in : Option Addr} {sl__law_in : Array (Option Value)}
    {f_law : Addr} {oc_law kV_law dc_law pm_law cd_law ct_law : Value} {od_law an_law : Option Addr} {sl_law : Array (Option Value)}
    {t_LONG : Tok}
    {fI Td : Addr} {ocI kVI dcI pmI cdI ctI : Value} {odI anI : Option Addr} {slI : Array (Option Value)} {oT : Obj} {tkT : Tok} {nT : Nat}
    {Ch : Addr}
    {e0_C e0_N : Addr} {e0_nm e0_q : Str} {e0_bs : List Value} {e0_sn : List Str} {e0_sub : List Value} {e0_ab : Bool} {e0_col : Option Bool} {e0_dd : Option Addr} {e0_m0 e0_m1 e0_m2 e0_m3 e0_m5 : Option Value}
    (a_least_missing : PySem.W.nsIn K mainGlobals "least_missing" = some (some (.ref f_least_missing)))
    (l_least_missing : K.lookup f_least_missing = some ⟨oc_least_missing, od_least_missing, .func (PySem.W.fnOf "least_missing" "least_missing" (defArgs st_least_missing) (defBody st_least_missing) (defScope st_least_missing) .none kV_least_missing dc_least_missing pm_least_missing an_least_missing cd_least_missing ct_least_missing), sl_least_missing⟩)
    (ci_least_missing : PySem.W.codeIn K cd_least_missing "least_missing" = true)
    (k_least_missing : PySem.W.keepIn K (.ref f_least_missing) = true)
    (a_check_places : PySem.W.nsIn K mainGlobals "check_places" = some (some (.ref f_check_places)))
    (l_check_places : K.lookup f_check_places = some ⟨oc_check_places, od_check_places, .func (PySem.W.fnOf "check_places" "check_places" (defArgs st_check_places) (defBody st_check_places) (defScope st_check_places) .none kV_check_places dc_check_places pm_check_places an_check_places cd_check_places ct_check_places), sl_check_places⟩)
    (ci_check_places : PySem.W.codeIn K cd_check_places "check_places" = true)
    (k_check_places : PySem.W.keepIn K (.ref f_check_places) = true)
    (a_turns : PySem.W.nsIn K mainGlobals "turns" = some (some (.ref f_turns)))
    (l_turns : K.lookup f_turns = some ⟨oc_turns, od_turns, .func (PySem.W.fnOf "turns" "turns" (defArgs st_turns) (defBody st_turns) (defScope st_turns) .none kV_turns dc_turns pm_turns an_turns cd_turns ct_turns), sl_turns⟩)
    (ci_turns : PySem.W.codeIn K cd_turns "turns" = true)
    (k_turns : PySem.W.keepIn K (.ref f_turns) = true)
    (a_coin_row : PySem.W.nsIn K mainGlobals "coin_row" = some (some (.ref f_coin_row)))
    (l_coin_row : K.lookup f_coin_row = some ⟨oc_coin_row, od_coin_row, .func (PySem.W.fnOf "coin_row" "coin_row" (defArgs st_coin_row) (defBody st_coin_row) (defScope st_coin_row) .none kV_coin_row dc_coin_row pm_coin_row an_coin_row cd_coin_row ct_coin_row), sl_coin_row⟩)
    (ci_coin_row : PySem.W.codeIn K cd_coin_row "coin_row" = true)
    (k_coin_row : PySem.W.keepIn K (.ref f_coin_row) = true)
    (a_coin_value : PySem.W.nsIn K mainGlobals "coin_value" = some (some (.ref f_coin_value)))
    (l_coin_value : K.lookup f_coin_value = some ⟨oc_coin_value, od_coin_value, .func (PySem.W.fnOf "coin_value" "coin_value" (defArgs st_coin_value) (defBody st_coin_value) (defScope st_coin_value) .none kV_coin_value dc_coin_value pm_coin_value an_coin_value cd_coin_value ct_coin_value), sl_coin_value⟩)
    (ci_coin_value : PySem.W.codeIn K cd_coin_value "coin_value" = true)
    (k_coin_value : PySem.W.keepIn K (.ref f_coin_value) = true)
    (a_coin_moves : PySem.W.nsIn K mainGlobals "coin_moves" = some (some (.ref f_coin_moves)))
    (l_coin_moves : K.lookup f_coin_moves = some ⟨oc_coin_moves, od_coin_moves, .func (PySem.W.fnOf "coin_moves" "coin_moves" (defArgs st_coin_moves) (defBody st_coin_moves) (defScope st_coin_moves) .none kV_coin_moves dc_coin_moves pm_coin_moves an_coin_moves cd_coin_moves ct_coin_moves), sl_coin_moves⟩)
    (ci_coin_moves : PySem.W.codeIn K cd_coin_moves "coin_moves" = true)
    (k_coin_moves : PySem.W.keepIn K (.ref f_coin_moves) = true)
    (a_ones_of : PySem.W.nsIn K mainGlobals "ones_of" = some (some (.ref f_ones_of)))
    (l_ones_of : K.lookup f_ones_of = some ⟨oc_ones_of, od_ones_of, .func (PySem.W.fnOf "ones_of" "ones_of" (defArgs st_ones_of) (defBody st_ones_of) (defScope st_ones_of) .none kV_ones_of dc_ones_of pm_ones_of an_ones_of cd_ones_of ct_ones_of), sl_ones_of⟩)
    (ci_ones_of : PySem.W.codeIn K cd_ones_of "ones_of" = true)
    (k_ones_of : PySem.W.keepIn K (.ref f_ones_of) = true)
    (a_lexicode : PySem.W.nsIn K mainGlobals "lexicode" = some (some (.ref f_lexicode)))
    (l_lexicode : K.lookup f_lexicode = some ⟨oc_lexicode, od_lexicode, .func (PySem.W.fnOf "lexicode" "lexicode" (defArgs st_lexicode) (defBody st_lexicode) (defScope st_lexicode) .none kV_lexicode dc_lexicode pm_lexicode an_lexicode cd_lexicode ct_lexicode), sl_lexicode⟩)
    (ci_lexicode : PySem.W.codeIn K cd_lexicode "lexicode" = true)
    (k_lexicode : PySem.W.keepIn K (.ref f_lexicode) = true)
    (a__law_begin : PySem.W.nsIn K mainGlobals "_law_begin" = some (some (.ref f__law_begin)))
    (l__law_begin : K.lookup f__law_begin = some ⟨oc__law_begin, od__law_begin, .func (PySem.W.fnOf "_law_begin" "_law_begin" (defArgs st__law_begin) (defBody st__law_begin) (defScope st__law_begin) .none kV__law_begin dc__law_begin pm__law_begin an__law_begin cd__law_begin ct__law_begin), sl__law_begin⟩)
    (ci__law_begin : PySem.W.codeIn K cd__law_begin "_law_begin" = true)
    (k__law_begin : PySem.W.keepIn K (.ref f__law_begin) = true)
    (a__law_take : PySem.W.nsIn K mainGlobals "_law_take" = some (some (.ref f__law_take)))
    (l__law_take : K.lookup f__law_take = some ⟨oc__law_take, od__law_take, .func (PySem.W.fnOf "_law_take" "_law_take" (defArgs st__law_take) (defBody st__law_take) (defScope st__law_take) .none kV__law_take dc__law_take pm__law_take an__law_take cd__law_take ct__law_take), sl__law_take⟩)
    (ci__law_take : PySem.W.codeIn K cd__law_take "_law_take" = true)
    (k__law_take : PySem.W.keepIn K (.ref f__law_take) = true)
    (a__law_pick : PySem.W.nsIn K mainGlobals "_law_pick" = some (some (.ref f__law_pick)))
    (l__law_pick : K.lookup f__law_pick = some ⟨oc__law_pick, od__law_pick, .func (PySem.W.fnOf "_law_pick" "_law_pick" (defArgs st__law_pick) (defBody st__law_pick) (defScope st__law_pick) .none kV__law_pick dc__law_pick pm__law_pick an__law_pick cd__law_pick ct__law_pick), sl__law_pick⟩)
    (ci__law_pick : PySem.W.codeIn K cd__law_pick "_law_pick" = true)
    (k__law_pick : PySem.W.keepIn K (.ref f__law_pick) = true)
    (a__law_power : PySem.W.nsIn K mainGlobals "_law_power" = some (some (.ref f__law_power)))
    (l__law_power : K.lookup f__law_power = some ⟨oc__law_power, od__law_power, .func (PySem.W.fnOf "_law_power" "_law_power" (defArgs st__law_power) (defBody st__law_power) (defScope st__law_power) .none kV__law_power dc__law_power pm__law_power an__law_power cd__law_power ct__law_power), sl__law_power⟩)
    (ci__law_power : PySem.W.codeIn K cd__law_power "_law_power" = true)
    (k__law_power : PySem.W.keepIn K (.ref f__law_power) = true)
    (a__law_in : PySem.W.nsIn K mainGlobals "_law_in" = some (some (.ref f__law_in)))
    (l__law_in : K.lookup f__law_in = some ⟨oc__law_in, od__law_in, .func (PySem.W.fnOf "_law_in" "_law_in" (defArgs st__law_in) (defBody st__law_in) (defScope st__law_in) .none kV__law_in dc__law_in pm__law_in an__law_in cd__law_in ct__law_in), sl__law_in⟩)
    (ci__law_in : PySem.W.codeIn K cd__law_in "_law_in" = true)
    (k__law_in : PySem.W.keepIn K (.ref f__law_in) = true)
    (a_law : PySem.W.nsIn K mainGlobals "law" = some (some (.ref f_law)))
    (l_law : K.lookup f_law = some ⟨oc_law, od_law, .func (PySem.W.fnOf "law" "law" (defArgs st_law) (defBody st_law) (defScope st_law) .none kV_law dc_law pm_law an_law cd_law ct_law), sl_law⟩)
    (ci_law : PySem.W.codeIn K cd_law "law" = true)
    (k_law : PySem.W.keepIn K (.ref f_law) = true)
    (z_abs : PySem.W.nsIn K mainGlobals "abs" = some none)
    (z_all : PySem.W.nsIn K mainGlobals "all" = some none)
    (z_any : PySem.W.nsIn K mainGlobals "any" = some none)
    (z_int : PySem.W.nsIn K mainGlobals "int" = some none)
    (z_len : PySem.W.nsIn K mainGlobals "len" = some none)
    (z_list : PySem.W.nsIn K mainGlobals "list" = some none)
    (z_range : PySem.W.nsIn K mainGlobals "range" = some none)
    (z_sorted : PySem.W.nsIn K mainGlobals "sorted" = some none)
    (z_tuple : PySem.W.nsIn K mainGlobals "tuple" = some none)
    (i_LONG : PySem.W.nsIn K mainGlobals "LONG" = some (some (.int 64 t_LONG)))
    (e0_aC : PySem.W.nsIn K mainGlobals "RuleError" = some (some (.ref e0_C)))
    (e0_xL : K.lookup e0_C = some (excClassObj e0_nm e0_q e0_C e0_N e0_bs [.ref Ch, .type "ValueError", .type "Exception", .type "BaseException", .type "object"] true e0_sn e0_sub e0_ab e0_col e0_dd e0_m0 e0_m1 e0_m2 e0_m3 e0_m5 "ValueError.__new__"))
    (e0_sa : PySem.W.findIn K (.ref e0_C) "__setattr__" = some (some (.builtin "object.__setattr__")))
    (e0_ga : PySem.W.findIn K (.ref e0_C) "__getattribute__" = some (some (.builtin "BaseException.__getattribute__")))
    (e0_gg : PySem.W.findIn K (.ref e0_C) "__getattr__" = some none)
    (e0_noc : PySem.W.findIn K (.ref e0_C) "code" = some none)
    (e0_nop : PySem.W.findIn K (.ref e0_C) "place" = some none)
    (e0_iC : PySem.W.findIn K (.ref e0_C) "__init__" = some (some (.ref fI)))
    (e0_kC : PySem.W.keepIn K (.ref e0_C) = true)
    (e0_eC : PySem.W.subIn K (.ref e0_C) (.type "BaseException") = some true)
    (e0_tC : PySem.W.typeIn K (.ref e0_C) = some (.type "type"))
    (e0_hC : PySem.W.hasDictIn K e0_C = true)
    (e0_isC : PySem.W.isClsIn K e0_C = true)
    (e0_sC : PySem.W.subIn K (.ref e0_C) (.ref e0_C) = some true)
    (lI : K.lookup fI = some ⟨ocI, odI, .func (PySem.W.fnOf "__init__" "HallError.__init__" (iAr ⟨4, 17, 4, 21⟩ ⟨4, 23, 4, 27⟩ ⟨4, 29, 4, 34⟩ ⟨4, 35, 4, 36⟩) (iBd ⟨5, 8, 5, 12⟩ ⟨5, 8, 5, 17⟩ ⟨5, 20, 5, 24⟩ ⟨5, 8, 5, 24⟩ ⟨6, 8, 6, 12⟩ ⟨6, 8, 6, 18⟩ ⟨6, 21, 6, 26⟩ ⟨6, 8, 6, 26⟩) iSc (.ref Td) kVI dcI pmI anI cdI ctI), slI⟩)
    (cI : PySem.W.codeIn K cdI "HallError.__init__" = true)
    (tI : PySem.W.typeIn K (.ref fI) = some (.type "function"))
    (kI : PySem.W.keepIn K (.ref fI) = true)
    (lT : K.lookup Td = some oT)
    (dT : oT.data = .seq #[.int 0 tkT] nT)
    (hm : ∀ ns : List Int, ns.length ≤ 63 → ∃ s, T_law [.obj 0] [.fls (ns.map .int)] = .ok (.bl true) s) :
    ∃ fd : FuncData, (∀ (s : Shared) (v : Value), BindsTo s fd ⟨[v], []⟩ [("script", v)]) ∧ ∀ base : Heap, K.In base → base.Ns mainGlobals mg → FnOk l.prog w K mg base (L2.CX l.prog w) 7 fa fd ["script"] (spLaw K) := by
  have e := hfa.symm.trans (PySem.W.mg_of X G a_law)
  cases e
  have F_least_missing := fun_mk (st := st_least_missing) l_least_missing ci_least_missing k_least_missing
  have F_check_places := fun_mk (st := st_check_places) l_check_places ci_check_places k_check_places
  have F_turns := fun_mk (st := st_turns) l_turns ci_turns k_turns
  have F_coin_row := fun_mk (st := st_coin_row) l_coin_row ci_coin_row k_coin_row
  have F_coin_value := fun_mk (st := st_coin_value) l_coin_value ci_coin_value k_coin_value
  have F_coin_moves := fun_mk (st := st_coin_moves) l_coin_moves ci_coin_moves k_coin_moves
  have F_ones_of := fun_mk (st := st_ones_of) l_ones_of ci_ones_of k_ones_of
  have F_lexicode := fun_mk (st := st_lexicode) l_lexicode ci_lexicode k_lexicode
  have F__law_begin := fun_mk (st := st__law_begin) l__law_begin ci__law_begin k__law_begin
  have F__law_take := fun_mk (st := st__law_take) l__law_take ci__law_take k__law_take
  have F__law_pick := fun_mk (st := st__law_pick) l__law_pick ci__law_pick k__law_pick
  have F__law_power := fun_mk (st := st__law_power) l__law_power ci__law_power k__law_power
  have F__law_in := fun_mk (st := st__law_in) l__law_in ci__law_in k__law_in
  have F_law := fun_mk (st := st_law) l_law ci_law k_law
  refine ⟨PySem.W.fnOf "law" "law" (defArgs st_law) (defBody st_law) (defScope st_law) .none kV_law dc_law pm_law an_law cd_law ct_law, fun s v => .of_eq rfl, fun base _ _ => ?_⟩
  let T : Nat → Addr := fun c => [e0_C].getD c 0
  have B : Bn l.prog w K mg base T := { m_abs := PySem.W.mg_none_of X G z_abs, m_all := PySem.W.mg_none_of X G z_all, m_any := PySem.W.mg_none_of X G z_any, m_int := PySem.W.mg_none_of X G z_int, m_len := PySem.W.mg_none_of X G z_len, m_list := PySem.W.mg_none_of X G z_list, m_range := PySem.W.mg_none_of X G z_range, m_sorted := PySem.W.mg_none_of X G z_sorted, m_tuple := PySem.W.mg_none_of X G z_tuple, c_LONG := ⟨_, PySem.W.mg_of X G i_LONG⟩, x_RuleError := exn_mk X G rfl e0_aC e0_xL rfl e0_sa e0_ga e0_gg e0_noc e0_nop e0_iC tI kI lI cI lT dT e0_kC e0_eC e0_tC e0_hC e0_isC e0_sC }
  have C_least_missing := c_least_missing B  F_least_missing (PySem.W.mg_of X G a_least_missing)
  have C_check_places := c_check_places B  F_check_places (PySem.W.mg_of X G a_check_places)
  have C_turns := c_turns B  F_turns (PySem.W.mg_of X G a_turns)
  have C_coin_row := c_coin_row B C_turns C_least_missing F_coin_row (PySem.W.mg_of X G a_coin_row)
  have C_coin_value := c_coin_value B C_check_places C_coin_row F_coin_value (PySem.W.mg_of X G a_coin_value)
  have C_coin_moves := c_coin_moves B C_check_places C_coin_value C_coin_row C_turns F_coin_moves (PySem.W.mg_of X G a_coin_moves)
  have C_ones_of := c_ones_of B  F_ones_of (PySem.W.mg_of X G a_ones_of)
  have C_lexicode := c_lexicode B C_ones_of F_lexicode (PySem.W.mg_of X G a_lexicode)
  have C__law_begin := c__law_begin B  F__law_begin (PySem.W.mg_of X G a__law_begin)
  have C__law_take := c__law_take B  F__law_take (PySem.W.mg_of X G a__law_take)
  have C__law_pick := c__law_pick B C__law_take F__law_pick (PySem.W.mg_of X G a__law_pick)
  have C__law_power := c__law_power B  F__law_power (PySem.W.mg_of X G a__law_power)
  have C__law_in := c__law_in B C__law_power F__law_in (PySem.W.mg_of X G a__law_in)
  exact (d_law B C__law_begin C__law_take C__law_pick C_coin_value C__law_power C__law_in C_lexicode C_coin_moves F_law).law hm
end K66
open PySem PySem.W PyProof.Rows
set_option maxHeartbeats 0 in
theorem PySem.Challenge.cw_playvalues_k66_whole_lexicodes_as_lost_c_holds : PySem.Challenge.rw_playvalues_k66_whole_lexicodes_as_lost_c.Holds := by
  w_on; o_law; k_head; (case hw => w_witness2)
  k_fill
  refine L2.walk_of (l := PySem.Challenge.rw_playvalues_k66_whole_lexicodes_as_lost_c) (n := 63) (k := 7) (x := "script") (CX := fun w => L2.CX (PySem.Challenge.rw_playvalues_k66_whole_lexicodes_as_lost_c).prog w) (sp := fun w => Gv.spLaw _) rfl (by decide) rfl ⟨rfl, by decide, by decide⟩ (fun w h Y => PySem.W.kIn_of Y) ?F (fun _ _ a ns hl hO hS => ⟨a, ns, rfl, hl, Gv.sqF_of hO hS, fun _ => rfl⟩) ?X
  case F =>
    intro w mg fa h KX G hmg
    refine' K66.all_mk KX G hmg ?a_least_missing ?l_least_missing ?ci_least_missing ?k_least_missing ?a_check_places ?l_check_places ?ci_check_places ?k_check_places ?a_turns ?l_turns ?ci_turns ?k_turns ?a_coin_row ?l_coin_row ?ci_coin_row ?k_coin_row ?a_coin_value ?l_coin_value ?ci_coin_value ?k_coin_value ?a_coin_moves ?l_coin_moves ?ci_coin_moves ?k_coin_moves ?a_ones_of ?l_ones_of ?ci_ones_of ?k_ones_of ?a_lexicode ?l_lexicode ?ci_lexicode ?k_lexicode ?a__law_begin ?l__law_begin ?ci__law_begin ?k__law_begin ?a__law_take ?l__law_take ?ci__law_take ?k__law_take ?a__law_pick ?l__law_pick ?ci__law_pick ?k__law_pick ?a__law_power ?l__law_power ?ci__law_power ?k__law_power ?a__law_in ?l__law_in ?ci__law_in ?k__law_in ?a_law ?l_law ?ci_law ?k_law ?z_abs ?z_all ?z_any ?z_int ?z_len ?z_list ?z_range ?z_sorted ?z_tuple ?i_LONG ?e0_aC ?e0_xL ?e0_sa ?e0_ga ?e0_gg ?e0_noc ?e0_nop ?e0_iC ?e0_kC ?e0_eC ?e0_tC ?e0_hC ?e0_isC ?e0_sC ?lI ?cI ?tI ?kI ?lT ?dT K66.law_ok
    (case a_least_missing => k_is)
    (case l_least_missing => k_is)
    (case ci_least_missing => k_is)
    (case k_least_missing => k_is)
    (case a_check_places => k_is)
    (case l_check_places => k_is)
    (case ci_check_places => k_is)
    (case k_check_places => k_is)
    (case a_turns => k_is)
    (case l_turns => k_is)
    (case ci_turns => k_is)
    (case k_turns => k_is)
    (case a_coin_row => k_is)
    (case l_coin_row => k_is)
    (case ci_coin_row => k_is)
    (case k_coin_row => k_is)
    (case a_coin_value => k_is)
    (case l_coin_value => k_is)
    (case ci_coin_value => k_is)
    (case k_coin_value => k_is)
    (case a_coin_moves => k_is)
    (case l_coin_moves => k_is)
    (case ci_coin_moves => k_is)
    (case k_coin_moves => k_is)
    (case a_ones_of => k_is)
    (case l_ones_of => k_is)
    (case ci_ones_of => k_is)
    (case k_ones_of => k_is)
    (case a_lexicode => k_is)
    (case l_lexicode => k_is)
    (case ci_lexicode => k_is)
    (case k_lexicode => k_is)
    (case a__law_begin => k_is)
    (case l__law_begin => k_is)
    (case ci__law_begin => k_is)
    (case k__law_begin => k_is)
    (case a__law_take => k_is)
    (case l__law_take => k_is)
    (case ci__law_take => k_is)
    (case k__law_take => k_is)
    (case a__law_pick => k_is)
    (case l__law_pick => k_is)
    (case ci__law_pick => k_is)
    (case k__law_pick => k_is)
    (case a__law_power => k_is)
    (case l__law_power => k_is)
    (case ci__law_power => k_is)
    (case k__law_power => k_is)
    (case a__law_in => k_is)
    (case l__law_in => k_is)
    (case ci__law_in => k_is)
    (case k__law_in => k_is)
    (case a_law => k_is)
    (case l_law => k_is)
    (case ci_law => k_is)
    (case k_law => k_is)
    (case z_abs => k_is)
    (case z_all => k_is)
    (case z_any => k_is)
    (case z_int => k_is)
    (case z_len => k_is)
    (case z_list => k_is)
    (case z_range => k_is)
    (case z_sorted => k_is)
    (case z_tuple => k_is)
    (case i_LONG => k_is)
    (case e0_aC => k_is)
    (case e0_xL => k_is)
    (case e0_sa => k_is)
    (case e0_ga => k_is)
    (case e0_gg => k_is)
    (case e0_noc => k_is)
    (case e0_nop => k_is)
    (case e0_iC => k_is)
    (case e0_kC => k_is)
    (case e0_eC => k_is)
    (case e0_tC => k_is)
    (case e0_hC => k_is)
    (case e0_isC => k_is)
    (case e0_sC => first | rfl | k_is)
    (case lI => k_is)
    (case cI => k_is)
    (case tI => k_is)
    (case kI => k_is)
    (case lT => k_is)
    (case dT => rfl)
  case X =>
    intro w H s e s' h
    obtain ⟨_, _, _, _, _, _, _, _, _, _, _, _, z⟩ := h
    exact z
