import PyProof.Rows.All
import HandS.ForMost
import HandS.Exc
import HandS.WordsExc
import HandS.Conv
import HandS.Codes
import HandS.Flow
import HandS.Deep
import HandS.WideMore
import HandS.Wide
import HandS.IsInst
import HandS.TupAny
import HandS.Zip
import HandS.Star
import HandS.Defaults
import HandS.HeadHook4
import HandS.HeadEnd
import Wide.All
import OpenK.AllK
import Wide.FinOn
import KE.KStateDown
import HandS.Head0
import HandS.Head1
import HandS.Head2
import HandS.HeadHook1
import HandS.HeadHook2
import HandS.HeadHook3
import HandS.EndBits
import PySem.Challenge.RW_waitwords_k54_whole_texts_there_and_back
set_option Elab.async false
set_option linter.all false
set_option autoImplicit false
set_option maxRecDepth 100000
set_option maxHeartbeats 1000000
/-! DL, part 0: data D, slots Sl, configurations (Ok, Go). -/
namespace DL
open PySem PySem.Spec PyProof.Rows L2
abbrev Sg := L2.St

/-- a Python value as plain data -/
inductive D where
  | non | bl (b : Bool) | int (i : Int) | str (s : Str)
  | tup (xs : List D) | lst (xs : List D)
  | dct (ks : List Key) (vs : List D)
  | scr (ns : List Int)
  | fn (a : Addr)
  | ty (n : String)

mutual
/-- the value x stands for d, by what the heap says of objects that stay -/
inductive Rep (K : PySem.W.Frag) (H : Hp) : V → D → Prop
  | non : Rep K H .non .non
  | bl (b : Bool) : Rep K H (.bl b) (.bl b)
  | int (i : Int) : Rep K H (.int i) (.int i)
  | str (s : Str) : Rep K H (.str s) (.str s)
  | tup {a : Addr} {xs : List V} {ds : List D} : SqT K H a xs → Reps K H xs ds → Rep K H (.ref a) (.tup ds)
  | lst {a : Addr} {xs : List V} {ds : List D} : H a = some (.lst xs) → Reps K H xs ds → Rep K H (.ref a) (.lst ds)
  | dct {a : Addr} {kvs : List (Key × V)} {ks : List Key} {ds : List D} : H a = some (.dK kvs) → kvs.map (·.1) = ks → Reps K H (kvs.map (·.2)) ds → Rep K H (.ref a) (.dct ks ds)
  | scr {a : Addr} {ns : List Int} : SqL K H a (ns.map V.int) → Rep K H (.ref a) (.scr ns)
  | fn (a : Addr) : Rep K H (.ref a) (.fn a)
  | ty (n : String) : Rep K H (.ty n) (.ty n)
inductive Reps (K : PySem.W.Frag) (H : Hp) : List V → List D → Prop
  | nil : Reps K H [] []
  | cons {v : V} {vs : List V} {d : D} {ds : List D} : Rep K H v d → Reps K H vs ds → Reps K H (v :: vs) (d :: ds)
end

theorem same_t {K : PySem.W.Frag} {H H' : Hp} {a : Addr} {xs : List V} (e : Same H H') (h : SqT K H a xs) : SqT K H' a xs := by
  rcases h with (h | ⟨o, h⟩) | h
  · exact .inl (.inl (e _ _ h))
  · exact .inl (.inr ⟨o, e _ _ h⟩)
  · exact .inr h
mutual
theorem Rep.mono {K : PySem.W.Frag} {H H' : Hp} (e : Same H H') {x : V} {d : D} (h : Rep K H x d) : Rep K H' x d := by
  cases h with
  | non => exact .non
  | bl b => exact .bl b
  | int i => exact .int i
  | str s => exact .str s
  | tup h r => exact .tup (same_t e h) (r.mono e)
  | lst h r => exact .lst (e _ _ h) (r.mono e)
  | dct h k r => exact .dct (e _ _ h) k (r.mono e)
  | scr h => exact .scr (e.seq h)
  | fn a => exact .fn a
  | ty n => exact .ty n
theorem Reps.mono {K : PySem.W.Frag} {H H' : Hp} (e : Same H H') {xs : List V} {ds : List D} (h : Reps K H xs ds) : Reps K H' xs ds := by
  cases h with
  | nil => exact .nil
  | cons h r => exact .cons (h.mono e) (r.mono e)
end
theorem Reps.length {K : PySem.W.Frag} {H : Hp} : ∀ {xs : List V} {ds : List D}, Reps K H xs ds → xs.length = ds.length
  | _, _, .nil => rfl
  | _, _, .cons _ r => congrArg Nat.succ r.length
theorem Reps.append {K : PySem.W.Frag} {H : Hp} {ys : List V} {es : List D} (r2 : Reps K H ys es) : ∀ {xs : List V} {ds : List D}, Reps K H xs ds → Reps K H (xs ++ ys) (ds ++ es)
  | _, _, .nil => r2
  | _, _, .cons h r => .cons h (Reps.append r2 r)
theorem Reps.get {K : PySem.W.Frag} {H : Hp} : ∀ {xs : List V} {ds : List D} {i : Nat} {d : D}, Reps K H xs ds → ds[i]? = some d → ∃ x, xs[i]? = some x ∧ Rep K H x d
  | _, _, i, d, .nil, e => by simp at e
  | _, _, 0, d, .cons h r, e => by simp at e; subst e; exact ⟨_, rfl, h⟩
  | _, _, i + 1, d, .cons h r, e => by
    obtain ⟨x, h1, h2⟩ := Reps.get (i := i) (d := d) r (by simpa using e)
    exact ⟨x, by simpa using h1, h2⟩
theorem Reps.gets {K : PySem.W.Frag} {H : Hp} : ∀ {xs : List V} {ds : List D} {i : Nat} {x : V}, Reps K H xs ds → xs[i]? = some x → ∃ d, ds[i]? = some d ∧ Rep K H x d
  | _, _, i, d, .nil, e => by simp at e
  | _, _, 0, d, .cons h r, e => by simp at e; subst e; exact ⟨_, rfl, h⟩
  | _, _, i + 1, d, .cons h r, e => by
    obtain ⟨x, h1, h2⟩ := Reps.gets (i := i) (x := d) r (by simpa using e)
    exact ⟨x, by simpa using h1, h2⟩
theorem Reps.set {K : PySem.W.Frag} {H : Hp} {x : V} {d : D} (h : Rep K H x d) : ∀ {xs : List V} {ds : List D} (i : Nat), Reps K H xs ds → Reps K H (xs.set i x) (ds.set i d)
  | _, _, _, .nil => .nil
  | _, _, 0, .cons _ r => .cons h r
  | _, _, i + 1, .cons q r => .cons q (Reps.set h i r)
theorem Reps.take {K : PySem.W.Frag} {H : Hp} : ∀ {xs : List V} {ds : List D} (n : Nat), Reps K H xs ds → Reps K H (xs.take n) (ds.take n)
  | _, _, 0, _ => .nil
  | _, _, _ + 1, .nil => .nil
  | _, _, n + 1, .cons h r => .cons h (r.take n)
theorem Reps.drop {K : PySem.W.Frag} {H : Hp} : ∀ {xs : List V} {ds : List D} (n : Nat), Reps K H xs ds → Reps K H (xs.drop n) (ds.drop n)
  | _, _, 0, h => h
  | _, _, _ + 1, .nil => .nil
  | _, _, n + 1, .cons h r => r.drop n
theorem Reps.reverse {K : PySem.W.Frag} {H : Hp} : ∀ {xs : List V} {ds : List D}, Reps K H xs ds → Reps K H xs.reverse ds.reverse
  | _, _, .nil => .nil
  | _, _, .cons h r => by
    rw [List.reverse_cons, List.reverse_cons]
    exact Reps.append (.cons h .nil) r.reverse

/-! ### slots -/
/-- what a name holds: nothing known; data that stays; an object of one's own that may change (its parts stay); such an object lent by the caller -/
inductive Sl where
  | un | v (d : D) | o (d : D) | b (d : D)
def Sl.own : Sl → Bool
  | .o _ => true
  | .b _ => true
  | _ => false
/-- the object at p, which nobody else knows, holds d -/
def OwnA (K : PySem.W.Frag) (Fr H : Hp) (p : Addr) : D → Prop
  | .lst ds => ∃ xs, H p = some (.lst xs) ∧ Reps K Fr xs ds
  | .dct ks ds => ∃ kvs, H p = some (.dK kvs) ∧ kvs.map (·.1) = ks ∧ Reps K Fr (kvs.map (·.2)) ds
  | _ => False
def OwnV (K : PySem.W.Frag) (Fr H : Hp) (x : V) (d : D) : Prop := ∃ p, x = .ref p ∧ Fr p = none ∧ OwnA K Fr H p d
theorem OwnA.there {K : PySem.W.Frag} {Fr H : Hp} {p : Addr} {d : D} (h : OwnA K Fr H p d) : ∃ o, H p = some o := by
  cases d with
  | lst ds => obtain ⟨xs, e, _⟩ := h; exact ⟨_, e⟩
  | dct ks ds => obtain ⟨kvs, e, _⟩ := h; exact ⟨_, e⟩
  | _ => exact False.elim h
theorem OwnA.move {K : PySem.W.Frag} {Fr H Fr' H' : Hp} {p : Addr} {d : D} (h : OwnA K Fr H p d) (e : Same Fr Fr') (k : ∀ o, H p = some o → H' p = some o) : OwnA K Fr' H' p d := by
  cases d with
  | lst ds => obtain ⟨xs, q, r⟩ := h; exact ⟨xs, k _ q, r.mono e⟩
  | dct ks ds => obtain ⟨kvs, q, z, r⟩ := h; exact ⟨kvs, k _ q, z, r.mono e⟩
  | _ => exact False.elim h
/-- .. as data that stays -/
theorem OwnA.frz {K : PySem.W.Frag} {Fr H Fr' : Hp} {p : Addr} {d : D} (h : OwnA K Fr H p d) (e : Same Fr Fr') (k : ∀ o, H p = some o → Fr' p = some o) : Rep K Fr' (.ref p) d := by
  cases d with
  | lst ds => obtain ⟨xs, q, r⟩ := h; exact .lst (k _ q) (r.mono e)
  | dct ks ds => obtain ⟨kvs, q, z, r⟩ := h; exact .dct (k _ q) z (r.mono e)
  | _ => exact False.elim h
def SlV (K : PySem.W.Frag) (Fr H : Hp) (x : V) : Sl → Prop
  | .un => True
  | .v d => Rep K Fr x d
  | .o d => OwnV K Fr H x d
  | .b d => OwnV K Fr H x d

/-- the i-th name owns the object at p -/
def Owns (σ : Sg) (ρ : List Sl) (i : Nat) (p : Addr) : Prop := ∃ sl, ρ[i]? = some sl ∧ sl.own = true ∧ σ[i]? = some (some (.ref p))
structure Ok (K : PySem.W.Frag) (Fr H : Hp) (σ : Sg) (ρ : List Sl) : Prop where
  ex : Same Fr H
  len : σ.length = ρ.length
  at_ : ∀ (i : Nat) (sl : Sl), ρ[i]? = some sl → sl ≠ .un → ∃ x, σ[i]? = some (some x) ∧ SlV K Fr H x sl
  sep : ∀ (i j : Nat) (p : Addr), Owns σ ρ i p → Owns σ ρ j p → i = j
/-- from one configuration to a later one -/
structure Go (Fr H : Hp) (σ : Sg) (ρ : List Sl) (Fr' H' : Hp) (σ' : Sg) (ρ' : List Sl) : Prop where
  fr : Same Fr Fr'
  keep : ∀ (a : Addr) (o : HO), H a = some o → (∀ i, ¬ Owns σ ρ i a) → H' a = some o
  new : ∀ a : Addr, Fr' a ≠ none → Fr a ≠ none ∨ (∃ i, Owns σ ρ i a) ∨ H a = none
  own : ∀ (i : Nat) (a : Addr), Owns σ' ρ' i a → (∃ j, Owns σ ρ j a) ∨ H a = none
  dom : ∀ a : Addr, H' a = none → H a = none
  bor : ∀ (i : Nat) (d : D), ρ[i]? = some (Sl.b d) → ∃ d', ρ'[i]? = some (Sl.b d') ∧ σ'[i]? = σ[i]?

theorem Go.refl (Fr H : Hp) (σ : Sg) (ρ : List Sl) : Go Fr H σ ρ Fr H σ ρ :=
  ⟨Same.refl _, fun _ _ h _ => h, fun _ h => .inl h, fun i _ h => .inl ⟨i, h⟩, fun _ h => h, fun i d h => ⟨d, h, rfl⟩⟩
theorem none_or {H : Hp} (a : Addr) : H a = none ∨ ∃ o, H a = some o := by
  cases h : H a with
  | none => exact .inl rfl
  | some o => exact .inr ⟨o, rfl⟩
theorem Go.trans {Fr H Fr1 H1 Fr2 H2 : Hp} {σ σ1 σ2 : Sg} {ρ ρ1 ρ2 : List Sl} (a : Go Fr H σ ρ Fr1 H1 σ1 ρ1) (b : Go Fr1 H1 σ1 ρ1 Fr2 H2 σ2 ρ2) : Go Fr H σ ρ Fr2 H2 σ2 ρ2 := by
  have back : ∀ p, ((∃ i, Owns σ1 ρ1 i p) ∨ H1 p = none) → (∃ j, Owns σ ρ j p) ∨ H p = none := by
    rintro p (⟨i, h⟩ | h)
    · exact a.own i p h
    · rcases none_or (H := H) p with h0 | ⟨o, h0⟩
      · exact .inr h0
      · refine .inl (Classical.byContradiction fun q => ?_)
        have := a.keep p o h0 fun j z => q ⟨j, z⟩
        rw [h] at this; cases this
  refine ⟨a.fr.trans b.fr, fun p o h n => ?_, fun p h => ?_, fun i p h => ?_, fun p h => a.dom p (b.dom p h), fun i d h => ?_⟩
  · refine b.keep p o (a.keep p o h n) fun i z => ?_
    rcases a.own i p z with ⟨j, q⟩ | q
    · exact n j q
    · rw [h] at q; cases q
  · rcases b.new p h with h1 | h1
    · exact a.new p h1
    · exact .inr (back p h1)
  · exact back p (b.own i p h |>.imp_left fun ⟨j, q⟩ => ⟨j, q⟩)
  · obtain ⟨d1, h1, e1⟩ := a.bor i d h
    obtain ⟨d2, h2, e2⟩ := b.bor i d1 h1
    exact ⟨d2, h2, e2.trans e1⟩

theorem Ok.own {K : PySem.W.Frag} {Fr H : Hp} {σ : Sg} {ρ : List Sl} (ok : Ok K Fr H σ ρ) {i : Nat} {p : Addr} (h : Owns σ ρ i p) : Fr p = none ∧ ∃ d, (ρ[i]? = some (.o d) ∨ ρ[i]? = some (.b d)) ∧ OwnA K Fr H p d := by
  obtain ⟨sl, h1, h2, h3⟩ := h
  obtain ⟨x, e, q⟩ := ok.at_ i sl h1 (by rintro rfl; cases h2)
  rw [h3] at e; cases e
  cases sl with
  | un => cases h2
  | v d => cases h2
  | o d => obtain ⟨p', e', n, z⟩ := q; cases e'; exact ⟨n, d, .inl h1, z⟩
  | b d => obtain ⟨p', e', n, z⟩ := q; cases e'; exact ⟨n, d, .inr h1, z⟩
theorem Ok.own_there {K : PySem.W.Frag} {Fr H : Hp} {σ : Sg} {ρ : List Sl} (ok : Ok K Fr H σ ρ) {i : Nat} {p : Addr} (h : Owns σ ρ i p) : ∃ o, H p = some o := (ok.own h).2.elim fun _ q => q.2.there

/-- the same names, a heap that grew: new objects, all known or none -/
theorem Ok.grow {K : PySem.W.Frag} {Fr H Fr' H' : Hp} {σ : Sg} {ρ : List Sl} (ok : Ok K Fr H σ ρ) (fr : Same Fr Fr') (ex : Same Fr' H') (k : Same H H') (nw : ∀ a, Fr' a ≠ none → Fr a ≠ none ∨ H a = none) :
    Ok K Fr' H' σ ρ ∧ Go Fr H σ ρ Fr' H' σ ρ := by
  refine ⟨⟨ex, ok.len, fun i sl h n => ?_, ok.sep⟩, ⟨fr, fun a o h _ => k a o h, fun a h => (nw a h).imp_right .inr, fun i a h => .inl ⟨i, h⟩, fun a h => k.free h, fun i d h => ⟨d, h, rfl⟩⟩⟩
  obtain ⟨x, e, q⟩ := ok.at_ i sl h n
  refine ⟨x, e, ?_⟩
  have own : ∀ d, OwnV K Fr H x d → sl.own = true → OwnV K Fr' H' x d := by
    rintro d ⟨p, rfl, n1, z⟩ so
    refine ⟨p, rfl, ?_, z.move fr fun o => k p o⟩
    cases h1 : Fr' p with
    | none => rfl
    | some u =>
      rcases nw p (by rw [h1]; simp) with h2 | h2
      · exact absurd n1 h2
      · obtain ⟨o, h3⟩ := z.there
        rw [h2] at h3; cases h3
  cases sl with
  | un => exact True.intro
  | v d => exact Rep.mono fr q
  | o d => exact own d q rfl
  | b d => exact own d q rfl
/-- a new object that is known from now on -/
theorem Ok.addFr {K : PySem.W.Frag} {Fr H : Hp} {σ : Sg} {ρ : List Sl} {p : Addr} {o : HO} (ok : Ok K Fr H σ ρ) (hp : H p = none) :
    Ok K (upd Fr p o) (upd H p o) σ ρ ∧ Go Fr H σ ρ (upd Fr p o) (upd H p o) σ ρ := by
  have hf : Fr p = none := ok.ex.free hp
  refine ok.grow (fun a u h => ?_) (fun a u h => ?_) (fun a u h => ?_) fun a h => ?_
  · rw [upd_ne (ne_of_none h hf)]; exact h
  · by_cases e : a = p
    · subst e; rw [upd_same] at h ⊢; exact h
    · rw [upd_ne e] at h ⊢; exact ok.ex a u h
  · rw [upd_ne (ne_of_none h hp)]; exact h
  · by_cases e : a = p
    · subst e; exact .inr hp
    · rw [upd_ne e] at h; exact .inl h
/-- a new object of one's own -/
theorem Ok.addOwn {K : PySem.W.Frag} {Fr H : Hp} {σ : Sg} {ρ : List Sl} {p : Addr} {o : HO} (ok : Ok K Fr H σ ρ) (hp : H p = none) :
    Ok K Fr (upd H p o) σ ρ ∧ Go Fr H σ ρ Fr (upd H p o) σ ρ := by
  refine ok.grow (Same.refl _) (fun a u h => ?_) (fun a u h => ?_) fun a h => .inl h
  · rw [upd_ne (ne_of_none (ok.ex a u h) hp)]; exact ok.ex a u h
  · rw [upd_ne (ne_of_none h hp)]; exact h
/-- an object that no name owns, not known: known from now on -/
theorem Ok.frz {K : PySem.W.Frag} {Fr H : Hp} {σ : Sg} {ρ : List Sl} {p : Addr} {o : HO} (ok : Ok K Fr H σ ρ) (hn : ∀ i, ¬ Owns σ ρ i p) (hf : Fr p = none) (ho : H p = some o) :
    Ok K (upd Fr p o) H σ ρ := by
  have fr : Same Fr (upd Fr p o) := fun a u h => by rw [upd_ne (ne_of_none h hf)]; exact h
  refine ⟨fun a u h => ?_, ok.len, fun i sl h n => ?_, ok.sep⟩
  · by_cases e : a = p
    · subst e; rw [upd_same] at h; cases h; exact ho
    · rw [upd_ne e] at h; exact ok.ex a u h
  · obtain ⟨x, e, q⟩ := ok.at_ i sl h n
    refine ⟨x, e, ?_⟩
    have own : ∀ d, OwnV K Fr H x d → sl.own = true → OwnV K (upd Fr p o) H x d := by
      rintro d ⟨p', rfl, n1, z⟩ so
      have ne : p' ≠ p := by
        rintro rfl
        exact hn i ⟨sl, h, so, e⟩
      exact ⟨p', rfl, by rw [upd_ne ne]; exact n1, z.move fr fun _ q => q⟩
    cases sl with
    | un => exact True.intro
    | v d => exact Rep.mono fr q
    | o d => exact own d q rfl
    | b d => exact own d q rfl

theorem get_set {α : Type} {l : List α} {i j : Nat} {x y : α} (h : (l.set i x)[j]? = some y) : (j = i ∧ y = x ∧ i < l.length) ∨ (j ≠ i ∧ l[j]? = some y) := by
  by_cases e : j = i
  · subst e
    have hl : j < l.length := by
      have := (List.getElem?_eq_some_iff.mp h).1
      simpa using this
    rw [List.getElem?_set_self hl] at h
    cases h
    exact .inl ⟨rfl, rfl, hl⟩
  · rw [List.getElem?_set_ne (Ne.symm e)] at h
    exact .inr ⟨e, h⟩
/-- the slot i, not lent, takes data that stays -/
theorem Ok.setV {K : PySem.W.Frag} {Fr H : Hp} {σ : Sg} {ρ : List Sl} {i : Nat} {x : V} {d : D} (ok : Ok K Fr H σ ρ) (hi : i < ρ.length) (nb : ∀ d, ρ[i]? ≠ some (.b d)) (r : Rep K Fr x d) :
    Ok K Fr H (σ.set i (some x)) (ρ.set i (.v d)) ∧ Go Fr H σ ρ Fr H (σ.set i (some x)) (ρ.set i (.v d)) := by
  have ow : ∀ j p, Owns (σ.set i (some x)) (ρ.set i (.v d)) j p → Owns σ ρ j p := by
    rintro j p ⟨sl, h1, h2, h3⟩
    rcases get_set h1 with ⟨_, rfl, _⟩ | ⟨hne, h1⟩
    · cases h2
    · rw [List.getElem?_set_ne (Ne.symm hne)] at h3
      exact ⟨sl, h1, h2, h3⟩
  refine ⟨⟨ok.ex, by rw [List.length_set, List.length_set]; exact ok.len, fun j sl h n => ?_, fun j k p h1 h2 => ok.sep j k p (ow _ _ h1) (ow _ _ h2)⟩,
    ⟨Same.refl _, fun _ _ h _ => h, fun _ h => .inl h, fun j p h => .inl ⟨j, ow _ _ h⟩, fun _ h => h, fun j d' h => ?_⟩⟩
  · rcases get_set h with ⟨rfl, rfl, hl⟩ | ⟨hne, h⟩
    · exact ⟨x, List.getElem?_set_self (by rw [ok.len]; exact hl), r⟩
    · obtain ⟨y, e, q⟩ := ok.at_ j sl h n
      exact ⟨y, by rw [List.getElem?_set_ne (Ne.symm hne)]; exact e, q⟩
  · have hne : j ≠ i := by rintro rfl; exact nb d' h
    exact ⟨d', by rw [List.getElem?_set_ne (Ne.symm hne)]; exact h, by rw [List.getElem?_set_ne (Ne.symm hne)]⟩
/-- .. an object of one's own that no name has yet -/
theorem Ok.setO {K : PySem.W.Frag} {Fr H : Hp} {σ : Sg} {ρ : List Sl} {i : Nat} {p : Addr} {d : D} (ok : Ok K Fr H σ ρ) (hi : i < ρ.length) (nb : ∀ d, ρ[i]? ≠ some (.b d)) (hf : Fr p = none) (z : OwnA K Fr H p d) (hn : ∀ j, ¬ Owns σ ρ j p) :
    Ok K Fr H (σ.set i (some (.ref p))) (ρ.set i (.o d)) ∧ ∀ j q, Owns (σ.set i (some (.ref p))) (ρ.set i (.o d)) j q → q = p ∨ Owns σ ρ j q := by
  have ow : ∀ j q, Owns (σ.set i (some (.ref p))) (ρ.set i (.o d)) j q → (j = i ∧ q = p) ∨ (j ≠ i ∧ Owns σ ρ j q) := by
    rintro j q ⟨sl, h1, h2, h3⟩
    rcases get_set h1 with ⟨rfl, rfl, hl⟩ | ⟨hne, h1⟩
    · rw [List.getElem?_set_self (by rw [ok.len]; exact hl)] at h3
      cases h3
      exact .inl ⟨rfl, rfl⟩
    · rw [List.getElem?_set_ne (Ne.symm hne)] at h3
      exact .inr ⟨hne, sl, h1, h2, h3⟩
  refine ⟨⟨ok.ex, by rw [List.length_set, List.length_set]; exact ok.len, fun j sl h n => ?_, fun j k q h1 h2 => ?_⟩, fun j q h => (ow j q h).imp (·.2) (·.2)⟩
  · rcases get_set h with ⟨rfl, rfl, hl⟩ | ⟨hne, h⟩
    · exact ⟨.ref p, List.getElem?_set_self (by rw [ok.len]; exact hl), p, rfl, hf, z⟩
    · obtain ⟨y, e, q⟩ := ok.at_ j sl h n
      exact ⟨y, by rw [List.getElem?_set_ne (Ne.symm hne)]; exact e, q⟩
  · rcases ow _ _ h1 with ⟨e1, e2⟩ | ⟨n1, k1⟩
    · rcases ow _ _ h2 with ⟨e3, _⟩ | ⟨_, k2⟩
      · exact e1.trans e3.symm
      · rw [e2] at k2; exact absurd k2 (hn k)
    · rcases ow _ _ h2 with ⟨_, e4⟩ | ⟨_, k2⟩
      · rw [e4] at k1; exact absurd k1 (hn j)
      · exact ok.sep _ _ _ k1 k2
/-- the object that slot i owns is changed -/
theorem Ok.mutO {K : PySem.W.Frag} {Fr H : Hp} {σ : Sg} {ρ : List Sl} {i : Nat} {p : Addr} {sl' : Sl} {d' : D} {o : HO} (ok : Ok K Fr H σ ρ) (ho : Owns σ ρ i p) (hs : sl' = .o d' ∨ sl' = .b d') (hb : (∃ d, ρ[i]? = some (.b d)) → sl' = .b d')
    (z : OwnA K Fr (upd H p o) p d') : Ok K Fr (upd H p o) σ (ρ.set i sl') ∧ Go Fr H σ ρ Fr (upd H p o) σ (ρ.set i sl') := by
  obtain ⟨hf, d, hd, _⟩ := ok.own ho
  obtain ⟨s0, h01, h02, h03⟩ := id ho
  have so : sl'.own = true := by rcases hs with rfl | rfl <;> rfl
  have hil : i < ρ.length := (List.getElem?_eq_some_iff.mp h01).1
  have ow : ∀ j q, Owns σ (ρ.set i sl') j q ↔ Owns σ ρ j q := by
    intro j q
    constructor
    · rintro ⟨sl, h1, h2, h3⟩
      rcases get_set h1 with ⟨rfl, rfl, hl⟩ | ⟨hne, h1⟩
      · exact ⟨s0, h01, h02, h3⟩
      · exact ⟨sl, h1, h2, h3⟩
    · rintro ⟨sl, h1, h2, h3⟩
      by_cases e : j = i
      · subst e; exact ⟨sl', List.getElem?_set_self hil, so, h3⟩
      · exact ⟨sl, by rw [List.getElem?_set_ne (Ne.symm e)]; exact h1, h2, h3⟩
  refine ⟨⟨fun a u h => ?_, by rw [List.length_set]; exact ok.len, fun j sl h n => ?_, fun j k q h1 h2 => ok.sep j k q ((ow _ _).mp h1) ((ow _ _).mp h2)⟩,
    ⟨Same.refl _, fun a u h q => ?_, fun _ h => .inl h, fun j q h => .inl ⟨j, (ow _ _).mp h⟩, fun a h => ?_, fun j d1 h => ?_⟩⟩
  · rw [upd_ne (ne_of_none h hf)]; exact ok.ex a u h
  · rcases get_set h with ⟨rfl, rfl, hl⟩ | ⟨hne, h⟩
    · refine ⟨.ref p, h03, ?_⟩
      rcases hs with rfl | rfl
      · exact ⟨p, rfl, hf, z⟩
      · exact ⟨p, rfl, hf, z⟩
    · obtain ⟨y, e, q⟩ := ok.at_ j sl h n
      refine ⟨y, e, ?_⟩
      have own : ∀ d, OwnV K Fr H y d → sl.own = true → OwnV K Fr (upd H p o) y d := by
        rintro d ⟨p', rfl, n1, z1⟩ so
        have ne : p' ≠ p := by
          rintro rfl
          exact hne (ok.sep j i p' ⟨sl, h, so, e⟩ ho)
        exact ⟨p', rfl, n1, z1.move (Same.refl _) fun u q => by rw [upd_ne ne]; exact q⟩
      cases sl with
      | un => exact True.intro
      | v d => exact q
      | o d => exact own d q rfl
      | b d => exact own d q rfl
  · have ne : a ≠ p := by rintro rfl; exact q i ho
    rw [upd_ne ne]; exact h
  · by_cases e : a = p
    · subst e; rw [upd_same] at h; cases h
    · rw [upd_ne e] at h; exact h
  · by_cases e : j = i
    · subst e
      exact ⟨d', by rw [hb ⟨d1, h⟩] at *; exact List.getElem?_set_self hil, rfl⟩
    · exact ⟨d1, by rw [List.getElem?_set_ne (Ne.symm e)]; exact h, rfl⟩
end DL

set_option Elab.async false
set_option linter.all false
set_option autoImplicit false
set_option maxRecDepth 100000
set_option maxHeartbeats 1000000
/-! DL, part 1: expressions. EV: an expression that gives data that stays; EO: one that makes a new object of one's own. -/
namespace DL
open PySem PySem.Spec PyProof.Rows L2

/-- what is wanted of an exception: its class, its value, the slots -/
abbrev DX := Addr → D → List Sl → Prop
abbrev WV := DX → List Sl → (D → List Sl → Prop) → Prop
abbrev WB := DX → List Sl → (Bool → List Sl → Prop) → Prop
abbrev WL := DX → List Sl → (List D → List Sl → Prop) → Prop
/-- an exception that satisfies ex satisfies EX -/
def XL (K : PySem.W.Frag) (EX : XK) (ex : DX) (Fr H : Hp) (σ : Sg) (ρ : List Sl) : Prop :=
  ∀ (C : Addr) (d : D) (dx : Addr) (x : V) (Fr' H' : Hp) (σ' : Sg) (ρ' : List Sl), ex C d ρ' → Ok K Fr' H' σ' ρ' → Go Fr H σ ρ Fr' H' σ' ρ' → Fr' dx = some (.xd [(("value" : Str), x)]) → Rep K Fr' x d → EX (.ref C) (some dx) H'
theorem XL.go {K : PySem.W.Frag} {EX : XK} {ex : DX} {Fr H Fr1 H1 : Hp} {σ σ1 : Sg} {ρ ρ1 : List Sl} (h : XL K EX ex Fr H σ ρ) (g : Go Fr H σ ρ Fr1 H1 σ1 ρ1) : XL K EX ex Fr1 H1 σ1 ρ1 :=
  fun C d dx x Fr' H' σ' ρ' he ok g' hd r => h C d dx x Fr' H' σ' ρ' he ok (g.trans g') hd r

structure EV (X : Cx) (EX : XK) (e : Expr) (te : TE) (w : WV) : Prop where
  pe : PE X e te
  val : ∀ (Fr H : Hp) (σ : Sg) (ρ : List Sl) (ex : DX) (QV : D → List Sl → Prop) (Q : VK), Ok X.K Fr H σ ρ → XL X.K EX ex Fr H σ ρ → w ex ρ QV →
    (∀ (d : D) (ρ' : List Sl) (x : V) (Fr' H' : Hp), QV d ρ' → Ok X.K Fr' H' σ ρ' → Go Fr H σ ρ Fr' H' σ ρ' → Rep X.K Fr' x d → Q x H') → te σ H Q
structure EO (X : Cx) (EX : XK) (e : Expr) (te : TE) (w : WV) : Prop where
  pe : PE X e te
  val : ∀ (Fr H : Hp) (σ : Sg) (ρ : List Sl) (ex : DX) (QV : D → List Sl → Prop) (Q : VK), Ok X.K Fr H σ ρ → XL X.K EX ex Fr H σ ρ → w ex ρ QV →
    (∀ (d : D) (ρ' : List Sl) (p : Addr) (Fr' H' : Hp), QV d ρ' → Ok X.K Fr' H' σ ρ' → Go Fr H σ ρ Fr' H' σ ρ' → H p = none → Fr' p = none → (∀ i, ¬ Owns σ ρ' i p) → OwnA X.K Fr' H' p d → Q (.ref p) H') → te σ H Q
structure ET (X : Cx) (EX : XK) (e : Expr) (tt : TT) (w : WB) : Prop where
  pt : PT X e tt
  val : ∀ (Fr H : Hp) (σ : Sg) (ρ : List Sl) (ex : DX) (QV : Bool → List Sl → Prop) (Q : Bool → Hp → Prop), Ok X.K Fr H σ ρ → XL X.K EX ex Fr H σ ρ → w ex ρ QV →
    (∀ (b : Bool) (ρ' : List Sl) (Fr' H' : Hp), QV b ρ' → Ok X.K Fr' H' σ ρ' → Go Fr H σ ρ Fr' H' σ ρ' → Q b H') → tt σ H Q
/-- a test within and, or -/
structure EW (X : Cx) (EX : XK) (e : Expr) (tt : TT) (w : WB) : Prop where
  pw : PW X e tt
  val : ∀ (Fr H : Hp) (σ : Sg) (ρ : List Sl) (ex : DX) (QV : Bool → List Sl → Prop) (Q : Bool → Hp → Prop), Ok X.K Fr H σ ρ → XL X.K EX ex Fr H σ ρ → w ex ρ QV →
    (∀ (b : Bool) (ρ' : List Sl) (Fr' H' : Hp), QV b ρ' → Ok X.K Fr' H' σ ρ' → Go Fr H σ ρ Fr' H' σ ρ' → Q b H') → tt σ H Q
/-- arguments that are data -/
structure EL (X : Cx) (EX : XK) (es : List Expr) (ta : TA) (w : WL) : Prop where
  pa : PA X es ta
  val : ∀ (Fr H : Hp) (σ : Sg) (ρ : List Sl) (ex : DX) (QV : List D → List Sl → Prop) (Q : List V → Hp → Prop), Ok X.K Fr H σ ρ → XL X.K EX ex Fr H σ ρ → w ex ρ QV →
    (∀ (ds : List D) (ρ' : List Sl) (xs : List V) (Fr' H' : Hp), QV ds ρ' → Ok X.K Fr' H' σ ρ' → Go Fr H σ ρ Fr' H' σ ρ' → Reps X.K Fr' xs ds → Q xs H') → ta σ H Q

section
variable {X : Cx} {EX : XK}
theorem EW.et {e : Expr} {tt : TT} {w : WB} (h : EW X EX e tt w) : ET X EX e tt w := ⟨h.pw.pt, h.val⟩
/-- a new object may stay -/
theorem EO.ev {e : Expr} {te : TE} {w : WV} (h : EO X EX e te w) : EV X EX e te w := ⟨h.pe, fun Fr H σ ρ ex QV Q ok xl hw k => h.val Fr H σ ρ ex QV Q ok xl hw fun d ρ' p Fr' H' q ok' g hp hf hn z => by
  obtain ⟨o, ho⟩ := z.there
  have ok2 := ok'.frz hn hf ho
  have fr : Same Fr' (upd Fr' p o) := fun a u h => by rw [upd_ne (ne_of_none h hf)]; exact h
  refine k d ρ' (.ref p) (upd Fr' p o) H' q ok2 ⟨g.fr.trans fr, g.keep, fun a h => ?_, g.own, g.dom, g.bor⟩ (z.frz fr fun u hu => by rw [ho] at hu; cases hu; exact upd_same)
  by_cases e : a = p
  · subst e; exact .inr (.inr hp)
  · rw [upd_ne e] at h; exact g.new a h⟩

/-! ### names, constants -/
def wVar (i : Nat) : WV := fun _ ρ Q => match ρ[i]? with
  | some (.v d) => Q d ρ
  | some (.o d) => Q d (ρ.set i (.v d))
  | _ => False
theorem Ok.share {K : PySem.W.Frag} {Fr H : Hp} {σ : Sg} {ρ : List Sl} {i : Nat} {d : D} (ok : Ok K Fr H σ ρ) (h : ρ[i]? = some (.o d)) :
    ∃ p o, σ[i]? = some (some (.ref p)) ∧ Ok K (upd Fr p o) H σ (ρ.set i (.v d)) ∧ Go Fr H σ ρ (upd Fr p o) H σ (ρ.set i (.v d)) ∧ Rep K (upd Fr p o) (.ref p) d := by
  obtain ⟨x, e, q⟩ := ok.at_ i _ h (by simp)
  obtain ⟨p, rfl, hf, z⟩ := (show OwnV K Fr H x d from q)
  obtain ⟨o, ho⟩ := z.there
  have fr : Same Fr (upd Fr p o) := fun a u h => by rw [upd_ne (ne_of_none h hf)]; exact h
  have r : Rep K (upd Fr p o) (.ref p) d := z.frz fr fun u hu => by rw [ho] at hu; cases hu; exact upd_same
  have own : Owns σ ρ i p := ⟨_, h, rfl, e⟩
  have ow : ∀ j q, Owns σ (ρ.set i (.v d)) j q → j ≠ i ∧ Owns σ ρ j q := by
    rintro j q ⟨sl, h1, h2, h3⟩
    rcases get_set h1 with ⟨_, rfl, _⟩ | ⟨hne, h1⟩
    · cases h2
    · exact ⟨hne, sl, h1, h2, h3⟩
  refine ⟨p, o, e, ⟨fun a u h => ?_, by rw [List.length_set]; exact ok.len, fun j sl hj n => ?_, fun j k q h1 h2 => ok.sep j k q (ow _ _ h1).2 (ow _ _ h2).2⟩,
    ⟨fr, fun _ _ h _ => h, fun a h => ?_, fun j q h => .inl ⟨j, (ow _ _ h).2⟩, fun _ h => h, fun j d' hj => ?_⟩, r⟩
  · by_cases e : a = p
    · subst e; rw [upd_same] at h; cases h; exact ho
    · rw [upd_ne e] at h; exact ok.ex a u h
  · rcases get_set hj with ⟨rfl, rfl, hl⟩ | ⟨hne, hj⟩
    · exact ⟨_, e, r⟩
    · obtain ⟨y, ey, qy⟩ := ok.at_ j sl hj n
      refine ⟨y, ey, ?_⟩
      have mv : ∀ d, OwnV K Fr H y d → sl.own = true → OwnV K (upd Fr p o) H y d := by
        rintro d ⟨p', rfl, n1, z1⟩ so
        have ne : p' ≠ p := by
          rintro rfl
          exact hne (ok.sep j i p' ⟨sl, hj, so, ey⟩ own)
        exact ⟨p', rfl, by rw [upd_ne ne]; exact n1, z1.move fr fun _ q => q⟩
      cases sl with
      | un => exact True.intro
      | v d => exact Rep.mono fr qy
      | o d => exact mv d qy rfl
      | b d => exact mv d qy rfl
  · by_cases e : a = p
    · subst e; exact .inr (.inl ⟨i, own⟩)
    · rw [upd_ne e] at h; exact .inl h
  · have hne : j ≠ i := by rintro rfl; rw [h] at hj; cases hj
    exact ⟨d', by rw [List.getElem?_set_ne (Ne.symm hne)]; exact hj, rfl⟩
theorem ev_of {i : Nat} {e : Expr} (h : PE X e (tVar i)) : EV X EX e (tVar i) (wVar i) := ⟨h, fun Fr H σ ρ ex QV Q ok xl hw k => by
  unfold wVar at hw
  split at hw
  · rename_i d e
    obtain ⟨x, ex, r⟩ := ok.at_ i _ e (by simp)
    exact ⟨x, ex, k d ρ x Fr H hw ok (Go.refl _ _ _ _) r⟩
  · rename_i d e
    obtain ⟨p, o, es, ok2, g, r⟩ := ok.share e
    exact ⟨.ref p, es, k d _ _ _ H hw ok2 g r⟩
  · exact hw.elim⟩
theorem ev (i : Nat) {x : Str} {pos : Pos} (hN : X.N[i]? = some x := by rfl) (hv : Vis X.env.scope x := by first | exact Or.inl rfl | exact Or.inr (Or.inl rfl) | exact Or.inr (Or.inr rfl)) (hd : (x == ("__debug__" : Str)) = false := by decide)
    (hcd : (x == ("__classdict__" : Str)) = false := by decide) : EV X EX (.Name x pos) (tVar i) (wVar i) := ev_of (pe_var hN hv hd hcd)
def wC (d : D) : WV := fun _ ρ Q => Q d ρ
theorem ev_c {e : Expr} {x : V} {d : D} (h : PE X e (tC x)) (r : ∀ Fr : Hp, Rep X.K Fr x d) : EV X EX e (tC x) (wC d) :=
  ⟨h, fun Fr H σ ρ ex QV Q ok xl hw k => k d ρ x Fr H hw ok (Go.refl _ _ _ _) (r Fr)⟩
theorem ev_int {i : Int} {j : Nat} {pos : Pos} : EV X EX (.Constant (.int i) j pos) (tC (.int i)) (wC (.int i)) := ev_c pe_int fun _ => .int i
theorem ev_str {x : Str} {j : Nat} {pos : Pos} : EV X EX (.Constant (.str x) j pos) (tC (.str x)) (wC (.str x)) := ev_c pe_str fun _ => .str x
theorem ev_bl {b : Bool} {j : Nat} {pos : Pos} : EV X EX (.Constant (.bool b) j pos) (tC (.bl b)) (wC (.bl b)) := ev_c pe_bl fun _ => .bl b
theorem ev_non {j : Nat} {pos : Pos} : EV X EX (.Constant .none j pos) (tC .non) (wC .non) := ev_c pe_non fun _ => .non
/-- a module's constant -/
theorem ev_globI {x : Str} {i : Int} {pos : Pos} (hg : Gl X x) (hm : ∃ t, X.mg x = some (.int i t)) (hd : (x == ("__debug__" : Str)) = false := by decide) : EV X EX (.Name x pos) (tC (.int i)) (wC (.int i)) := by
  obtain ⟨t, hm⟩ := hm
  exact ev_c (pe_glob hg hm ⟨t, rfl⟩ hd) fun _ => .int i
theorem ev_globS {x : Str} {z : Str} {pos : Pos} (hg : Gl X x) (hm : ∃ t, X.mg x = some (.str z t)) (hd : (x == ("__debug__" : Str)) = false := by decide) : EV X EX (.Name x pos) (tC (.str z)) (wC (.str z)) := by
  obtain ⟨t, hm⟩ := hm
  exact ev_c (pe_glob hg hm ⟨t, rfl⟩ hd) fun _ => .str z
/-- a def of the module, as a value -/
theorem ev_globF {x : Str} {a : Addr} {pos : Pos} (hg : Gl X x) (hm : X.mg x = some (.ref a)) (hd : (x == ("__debug__" : Str)) = false := by decide) : EV X EX (.Name x pos) (tC (.ref a)) (wC (.fn a)) :=
  ev_c (pe_glob hg hm rfl hd) fun _ => .fn a

/-! ### two-place operations whose answer is a scalar -/
abbrev F2 := D → D → (D → Prop) → Prop
/-- the operation r on values is f on data; nothing is made -/
def Rel2 (K : PySem.W.Frag) (r : R2) (f : F2) : Prop := ∀ (Fr H : Hp) (x y : V) (d e : D) (P : D → Prop) (Q : VK), Rep K Fr x d → Rep K Fr y e → Same Fr H → f d e P → (∀ z g, P g → Rep K Fr z g → Q z H) → r x y H Q
def w2 (f : F2) (wa wb : WV) : WV := fun ex ρ Q => wa ex ρ fun d ρ1 => wb ex ρ1 fun e ρ2 => f d e fun g => Q g ρ2
theorem val2 {ta tb : TE} {a b : Expr} {r : R2} {f : F2} {wa wb : WV} (hf : Rel2 X.K r f) (ha : EV X EX a ta wa) (hb : EV X EX b tb wb) (Fr H : Hp) (σ : Sg) (ρ : List Sl) (ex : DX) (QV : D → List Sl → Prop) (Q : VK) (ok : Ok X.K Fr H σ ρ) (xl : XL X.K EX ex Fr H σ ρ)
    (hw : w2 f wa wb ex ρ QV) (k : ∀ (d : D) (ρ' : List Sl) (x : V) (Fr' H' : Hp), QV d ρ' → Ok X.K Fr' H' σ ρ' → Go Fr H σ ρ Fr' H' σ ρ' → Rep X.K Fr' x d → Q x H') : tOp r ta tb σ H Q :=
  ha.val Fr H σ ρ ex _ _ ok xl hw fun d ρ1 x Fr1 H1 q1 ok1 g1 r1 => hb.val Fr1 H1 σ ρ1 ex _ _ ok1 (xl.go g1) q1 fun e ρ2 y Fr2 H2 q2 ok2 g2 r2 =>
    hf Fr2 H2 x y d e _ _ (r1.mono g2.fr) r2 ok2.ex q2 fun z g hg rz => k g ρ2 z Fr2 H2 hg ok2 (g1.trans g2) rz
theorem ev_op {op : Operator} {r : R2} {f : F2} {a b : Expr} {ta tb : TE} {wa wb : WV} {pos : Pos} (ho : OpR X (binaryOp op) r) (hf : Rel2 X.K r f) (ha : EV X EX a ta wa) (hb : EV X EX b tb wb) : EV X EX (.BinOp a op b pos) (tOp r ta tb) (w2 f wa wb) :=
  ⟨pe_op ho ha.pe hb.pe, val2 hf ha hb⟩
theorem ev_cmp {op : CmpOp} {r : R2} {f : F2} {a b : Expr} {ta tb : TE} {wa wb : WV} {pos : Pos} (ho : OpR X (compareOp op) r) (hf : Rel2 X.K r f) (ha : EV X EX a ta wa) (hb : EV X EX b tb wb) (hm : behindInMarks op b = false) : EV X EX (.Compare a [op] [b] pos) (tOp r ta tb) (w2 f wa wb) :=
  ⟨pe_cmpR ho ha.pe hb.pe hm, val2 hf ha hb⟩
/-- a truth value as a test -/
def wT (w : WV) : WB := fun ex ρ Q => w ex ρ fun d ρ' => match d with
  | .bl b => Q b ρ'
  | _ => False
theorem valT {te : TE} {e : Expr} {w : WV} (h : EV X EX e te w) (Fr H : Hp) (σ : Sg) (ρ : List Sl) (ex : DX) (QV : Bool → List Sl → Prop) (Q : Bool → Hp → Prop) (ok : Ok X.K Fr H σ ρ) (xl : XL X.K EX ex Fr H σ ρ) (hw : wT w ex ρ QV)
    (k : ∀ (b : Bool) (ρ' : List Sl) (Fr' H' : Hp), QV b ρ' → Ok X.K Fr' H' σ ρ' → Go Fr H σ ρ Fr' H' σ ρ' → Q b H') : te σ H fun x H' => ∃ c, x = .bl c ∧ Q c H' :=
  h.val Fr H σ ρ ex _ _ ok xl hw fun d ρ' x Fr' H' q ok' g r => by
    cases r with
    | bl b => exact ⟨b, rfl, k b ρ' Fr' H' q ok' g⟩
    | _ => exact (show False from q).elim
theorem et_cmp {op : CmpOp} {r : R2} {f : F2} {a b : Expr} {ta tb : TE} {wa wb : WV} {pos : Pos} (ho : OpR X (compareOp op) r) (hf : Rel2 X.K r f) (ha : EV X EX a ta wa) (hb : EV X EX b tb wb) (hm : behindInMarks op b = false) :
    ET X EX (.Compare a [op] [b] pos) (tTest (tOp r ta tb)) (wT (w2 f wa wb)) := ⟨pt_cmpR ho ha.pe hb.pe hm, valT (ev_cmp (pos := pos) ho hf ha hb hm)⟩
theorem et_val {e : Expr} {te : TE} {w : WV} (h : EV X EX e te w) (he : ∀ whole, isTrue e X.env whole = (do let v ← whole; standAt e.pos; holding [v] (truthy v)) := by intro _; rfl) : ET X EX e (tB te) (wT w) := ⟨pt_val h.pe he, valT h⟩

/-! ### and, or, not, if -/
def wAnd (a b : WB) : WB := fun ex ρ Q => a ex ρ fun c ρ1 => if c = true then b ex ρ1 Q else Q false ρ1
def wOr (a b : WB) : WB := fun ex ρ Q => a ex ρ fun c ρ1 => if c = true then Q true ρ1 else b ex ρ1 Q
def wNot (a : WB) : WB := fun ex ρ Q => a ex ρ fun c ρ1 => Q (!c) ρ1
theorem ew_and1 {a : Expr} {ta : TT} {wa : WB} {pos : Pos} (ha : ET X EX a ta wa) : EW X EX (.BoolOp .And [a] pos) ta wa := ⟨pw_and1 ha.pt, ha.val⟩
theorem ew_or1 {a : Expr} {ta : TT} {wa : WB} {pos : Pos} (ha : ET X EX a ta wa) : EW X EX (.BoolOp .Or [a] pos) ta wa := ⟨pw_or1 ha.pt, ha.val⟩
theorem ew_and {a b : Expr} {rest : List Expr} {ta tb : TT} {wa wb : WB} {pos : Pos} (ha : ET X EX a ta wa) (hb : EW X EX (.BoolOp .And (b :: rest) pos) tb wb) : EW X EX (.BoolOp .And (a :: b :: rest) pos) (tAnd ta tb) (wAnd wa wb) :=
  ⟨pw_and ha.pt hb.pw, fun Fr H σ ρ ex QV Q ok xl hw k => ha.val Fr H σ ρ ex _ _ ok xl hw fun c ρ1 Fr1 H1 q1 ok1 g1 => by
    cases c with
    | true =>
      show tb σ H1 Q
      exact hb.val Fr1 H1 σ ρ1 ex QV Q ok1 (xl.go g1) q1 fun d ρ' Fr' H' q' ok' g' => k d ρ' Fr' H' q' ok' (g1.trans g')
    | false =>
      show Q false H1
      exact k false ρ1 Fr1 H1 q1 ok1 g1⟩
theorem ew_or {a b : Expr} {rest : List Expr} {ta tb : TT} {wa wb : WB} {pos : Pos} (ha : ET X EX a ta wa) (hb : EW X EX (.BoolOp .Or (b :: rest) pos) tb wb) : EW X EX (.BoolOp .Or (a :: b :: rest) pos) (tOr ta tb) (wOr wa wb) :=
  ⟨pw_or ha.pt hb.pw, fun Fr H σ ρ ex QV Q ok xl hw k => ha.val Fr H σ ρ ex _ _ ok xl hw fun c ρ1 Fr1 H1 q1 ok1 g1 => by
    cases c with
    | true =>
      show Q true H1
      exact k true ρ1 Fr1 H1 q1 ok1 g1
    | false =>
      show tb σ H1 Q
      exact hb.val Fr1 H1 σ ρ1 ex QV Q ok1 (xl.go g1) q1 fun d ρ' Fr' H' q' ok' g' => k d ρ' Fr' H' q' ok' (g1.trans g')⟩
theorem et_not {a : Expr} {ta : TT} {wa : WB} {pos : Pos} (ha : ET X EX a ta wa) : ET X EX (.UnaryOp .Not a pos) (tNot ta) (wNot wa) :=
  ⟨pt_not ha.pt, fun Fr H σ ρ ex QV Q ok xl hw k => ha.val Fr H σ ρ ex _ _ ok xl hw fun c ρ1 Fr1 H1 q1 ok1 g1 => k (!c) ρ1 Fr1 H1 q1 ok1 g1⟩
/-- .. as values, all truth values -/
def wAndV (a b : WV) : WV := fun ex ρ Q => a ex ρ fun d ρ1 => match d with
  | .bl true => b ex ρ1 Q
  | .bl false => Q (.bl false) ρ1
  | _ => False
def wOrV (a b : WV) : WV := fun ex ρ Q => a ex ρ fun d ρ1 => match d with
  | .bl true => Q (.bl true) ρ1
  | .bl false => b ex ρ1 Q
  | _ => False
def wNotV (a : WV) : WV := fun ex ρ Q => a ex ρ fun d ρ1 => match d with
  | .bl b => Q (.bl (!b)) ρ1
  | _ => False
theorem ev_one {op : BoolOp} {a : Expr} {ta : TE} {wa : WV} {pos : Pos} (ha : EV X EX a ta wa) : EV X EX (.BoolOp op [a] pos) ta wa := ⟨pe_one ha.pe, ha.val⟩
theorem ev_and {a b : Expr} {rest : List Expr} {ta tb : TE} {wa wb : WV} {pos : Pos} (ha : EV X EX a ta wa) (hb : EV X EX (.BoolOp .And (b :: rest) pos) tb wb) : EV X EX (.BoolOp .And (a :: b :: rest) pos) (tAndV ta tb) (wAndV wa wb) :=
  ⟨pe_and ha.pe hb.pe, fun Fr H σ ρ ex QV Q ok xl hw k => ha.val Fr H σ ρ ex _ _ ok xl hw fun d ρ1 x Fr1 H1 q1 ok1 g1 r1 => by
    cases r1 with
    | bl b =>
      refine ⟨b, rfl, ?_⟩
      cases b with
      | true =>
        show tb σ H1 Q
        exact hb.val Fr1 H1 σ ρ1 ex QV Q ok1 (xl.go g1) q1 fun d ρ' x Fr' H' q' ok' g' r' => k d ρ' x Fr' H' q' ok' (g1.trans g') r'
      | false =>
        show Q (.bl false) H1
        exact k _ ρ1 _ Fr1 H1 q1 ok1 g1 (.bl false)
    | _ => exact (show False from q1).elim⟩
theorem ev_or {a b : Expr} {rest : List Expr} {ta tb : TE} {wa wb : WV} {pos : Pos} (ha : EV X EX a ta wa) (hb : EV X EX (.BoolOp .Or (b :: rest) pos) tb wb) : EV X EX (.BoolOp .Or (a :: b :: rest) pos) (tOrV ta tb) (wOrV wa wb) :=
  ⟨pe_or ha.pe hb.pe, fun Fr H σ ρ ex QV Q ok xl hw k => ha.val Fr H σ ρ ex _ _ ok xl hw fun d ρ1 x Fr1 H1 q1 ok1 g1 r1 => by
    cases r1 with
    | bl b =>
      refine ⟨b, rfl, ?_⟩
      cases b with
      | false =>
        show tb σ H1 Q
        exact hb.val Fr1 H1 σ ρ1 ex QV Q ok1 (xl.go g1) q1 fun d ρ' x Fr' H' q' ok' g' r' => k d ρ' x Fr' H' q' ok' (g1.trans g') r'
      | true =>
        show Q (.bl true) H1
        exact k _ ρ1 _ Fr1 H1 q1 ok1 g1 (.bl true)
    | _ => exact (show False from q1).elim⟩
theorem ev_not {a : Expr} {ta : TE} {wa : WV} {pos : Pos} (ha : EV X EX a ta wa) : EV X EX (.UnaryOp .Not a pos) (tNotV ta) (wNotV wa) :=
  ⟨pe_not ha.pe, fun Fr H σ ρ ex QV Q ok xl hw k => ha.val Fr H σ ρ ex _ _ ok xl hw fun d ρ1 x Fr1 H1 q1 ok1 g1 r1 => by
    cases r1 with
    | bl b => exact ⟨b, rfl, k _ ρ1 _ Fr1 H1 q1 ok1 g1 (.bl _)⟩
    | _ => exact (show False from q1).elim⟩
def wIf (c : WB) (a b : WV) : WV := fun ex ρ Q => c ex ρ fun t ρ1 => if t = true then a ex ρ1 Q else b ex ρ1 Q
theorem ev_if {c a b : Expr} {tc : TT} {ta tb : TE} {wc : WB} {wa wb : WV} {pos : Pos} (hc : ET X EX c tc wc) (ha : EV X EX a ta wa) (hb : EV X EX b tb wb) : EV X EX (.IfExp c a b pos) (tIf tc ta tb) (wIf wc wa wb) :=
  ⟨pe_ifExp hc.pt ha.pe hb.pe, fun Fr H σ ρ ex QV Q ok xl hw k => hc.val Fr H σ ρ ex _ _ ok xl hw fun t ρ1 Fr1 H1 q1 ok1 g1 => by
    cases t with
    | true =>
      show ta σ H1 Q
      exact ha.val Fr1 H1 σ ρ1 ex QV Q ok1 (xl.go g1) q1 fun d ρ' x Fr' H' q' ok' g' r' => k d ρ' x Fr' H' q' ok' (g1.trans g') r'
    | false =>
      show tb σ H1 Q
      exact hb.val Fr1 H1 σ ρ1 ex QV Q ok1 (xl.go g1) q1 fun d ρ' x Fr' H' q' ok' g' r' => k d ρ' x Fr' H' q' ok' (g1.trans g') r'⟩
theorem eo_if {c a b : Expr} {tc : TT} {ta tb : TE} {wc : WB} {wa wb : WV} {pos : Pos} (hc : ET X EX c tc wc) (ha : EO X EX a ta wa) (hb : EO X EX b tb wb) : EO X EX (.IfExp c a b pos) (tIf tc ta tb) (wIf wc wa wb) :=
  ⟨pe_ifExp hc.pt ha.pe hb.pe, fun Fr H σ ρ ex QV Q ok xl hw k => hc.val Fr H σ ρ ex _ _ ok xl hw fun t ρ1 Fr1 H1 q1 ok1 g1 => by
    cases t with
    | true =>
      show ta σ H1 Q
      exact ha.val Fr1 H1 σ ρ1 ex QV Q ok1 (xl.go g1) q1 fun d ρ' p Fr' H' q' ok' g' hp hf hn z => k d ρ' p Fr' H' q' ok' (g1.trans g') (g1.dom p hp) hf hn z
    | false =>
      show tb σ H1 Q
      exact hb.val Fr1 H1 σ ρ1 ex QV Q ok1 (xl.go g1) q1 fun d ρ' p Fr' H' q' ok' g' hp hf hn z => k d ρ' p Fr' H' q' ok' (g1.trans g') (g1.dom p hp) hf hn z⟩
end
end DL

set_option Elab.async false
set_option linter.all false
set_option autoImplicit false
set_option maxRecDepth 100000
set_option maxHeartbeats 1000000
/-! DL, part 2: operations, displays, subscripts, slices, built-in functions. -/
namespace DL
open PySem PySem.Spec PyProof.Rows L2

/-! ### whole numbers -/
def fI (C : Int → Int → Prop) (g : Int → Int → Int) : F2 := fun d e P => match d, e with
  | .int i, .int j => C i j ∧ P (.int (g i j))
  | _, _ => False
def fI0 (g : Int → Int → Int) : F2 := fun d e P => match d, e with
  | .int i, .int j => P (.int (g i j))
  | _, _ => False
def fB0 (g : Int → Int → Bool) : F2 := fun d e P => match d, e with
  | .int i, .int j => P (.bl (g i j))
  | _, _ => False
theorem rel_I {K : PySem.W.Frag} {C : Int → Int → Prop} {g : Int → Int → Int} : Rel2 K (rI C fun i j => .int (g i j)) (fI C g) := by
  intro Fr H x y d e P Q rx ry _ h k
  cases rx with
  | int i => cases ry with
    | int j => exact ⟨i, j, rfl, rfl, h.1, k _ _ h.2 (.int _)⟩
    | _ => exact (show False from h).elim
  | _ => exact (show False from h).elim
theorem rel_I0 {K : PySem.W.Frag} {g : Int → Int → Int} : Rel2 K (rI0 fun i j => .int (g i j)) (fI0 g) := by
  intro Fr H x y d e P Q rx ry _ h k
  cases rx with
  | int i => cases ry with
    | int j => exact ⟨i, j, rfl, rfl, k _ _ h (.int _)⟩
    | _ => exact (show False from h).elim
  | _ => exact (show False from h).elim
theorem rel_B0 {K : PySem.W.Frag} {g : Int → Int → Bool} : Rel2 K (rI0 fun i j => .bl (g i j)) (fB0 g) := by
  intro Fr H x y d e P Q rx ry _ h k
  cases rx with
  | int i => cases ry with
    | int j => exact ⟨i, j, rfl, rfl, k _ _ h (.bl _)⟩
    | _ => exact (show False from h).elim
  | _ => exact (show False from h).elim
/-- a ** b of great numbers -/
def CPowW (i j : Int) : Prop := 0 ≤ j ∧ (Builtin.Int.intBits i : Int) * j ≤ 2 ^ 27
theorem op_powW {X : Cx} : OpR X (binaryOp .Pow) (rI CPowW fun i j => .int (i ^ j.toNat)) := opI fun i j _ _ _ _ _ hc q => pow_int hc.1 hc.2 q
theorem op_mulG {X : Cx} : OpR X (binaryOp .Mult) (rI IntMulOk fun i j => .int (i * j)) := opI fun _ _ _ _ _ _ _ hc q => mul_int q hc
abbrev rrAdd : R2 := rI0 fun i j => .int (i + j)
abbrev rrSub : R2 := rI0 fun i j => .int (i - j)
abbrev rrMul : R2 := rI IntMulOk fun i j => .int (i * j)
abbrev rrFdiv : R2 := rI CDivW fun i j => .int (i / j)
abbrev rrMod : R2 := rI (fun _ j => 0 < j) fun i j => .int (i % j)
abbrev rrPow : R2 := rI CPowW fun i j => .int (i ^ j.toNat)
abbrev rrLt : R2 := rI0 fun i j => .bl (decide (i < j))
abbrev rrLe : R2 := rI0 fun i j => .bl (decide (i ≤ j))
abbrev rrGt : R2 := rI0 fun i j => .bl (decide (j < i))
abbrev rrGe : R2 := rI0 fun i j => .bl (decide (j ≤ i))
abbrev rrAddS : R2 := fun x y H Q => ∃ i j, x = .str i ∧ y = .str j ∧ i.length + j.length ≤ sizeLine ∧ Q (.str (i ++ j)) H
abbrev rrInC : R2 := fun x y H Q => ∃ (c : Nat) (z : Str), x = .str ⟨#[c]⟩ ∧ y = .str z ∧ Q (.bl (decide (c ∈ z.cps.toList))) H
abbrev rrNiC : R2 := fun x y H Q => ∃ (c : Nat) (z : Str), x = .str ⟨#[c]⟩ ∧ y = .str z ∧ Q (.bl (!decide (c ∈ z.cps.toList))) H
abbrev rrIsN : R2 := fun x y H Q => y = .non ∧ Q (.bl (decide (x = .non))) H
abbrev rrNotN : R2 := fun x y H Q => y = .non ∧ Q (.bl (!decide (x = .non))) H

section
variable {X : Cx} {EX : XK} {a b : Expr} {ta tb : TE} {wa wb : WV} {pos : Pos}
theorem ev_add (ha : EV X EX a ta wa) (hb : EV X EX b tb wb) : EV X EX (.BinOp a .Add b pos) (tOp rrAdd ta tb) (w2 (fI0 fun i j => i + j) wa wb) := ev_op op_add rel_I0 ha hb
theorem ev_sub (ha : EV X EX a ta wa) (hb : EV X EX b tb wb) : EV X EX (.BinOp a .Sub b pos) (tOp rrSub ta tb) (w2 (fI0 fun i j => i - j) wa wb) := ev_op op_sub rel_I0 ha hb
theorem ev_mul (ha : EV X EX a ta wa) (hb : EV X EX b tb wb) : EV X EX (.BinOp a .Mult b pos) (tOp rrMul ta tb) (w2 (fI IntMulOk fun i j => i * j) wa wb) := ev_op op_mulG rel_I ha hb
theorem ev_fdiv (ha : EV X EX a ta wa) (hb : EV X EX b tb wb) : EV X EX (.BinOp a .FloorDiv b pos) (tOp rrFdiv ta tb) (w2 (fI CDivW fun i j => i / j) wa wb) := ev_op op_fdivW rel_I ha hb
theorem ev_mod (ha : EV X EX a ta wa) (hb : EV X EX b tb wb) : EV X EX (.BinOp a .Mod b pos) (tOp rrMod ta tb) (w2 (fI (fun _ j => 0 < j) fun i j => i % j) wa wb) := ev_op op_mod rel_I ha hb
theorem ev_pow (ha : EV X EX a ta wa) (hb : EV X EX b tb wb) : EV X EX (.BinOp a .Pow b pos) (tOp rrPow ta tb) (w2 (fI CPowW fun i j => i ^ j.toNat) wa wb) := ev_op op_powW rel_I ha hb
end
/-! ### comparisons of whole numbers -/
section
variable {X : Cx} {EX : XK} {a b : Expr} {ta tb : TE} {wa wb : WV} {pos : Pos}
theorem et_lt (ha : EV X EX a ta wa) (hb : EV X EX b tb wb) : ET X EX (.Compare a [.Lt] [b] pos) (tTest (tOp rrLt ta tb)) (wT (w2 (fB0 fun i j => decide (i < j)) wa wb)) := et_cmp op_lt rel_B0 ha hb (nomark _)
theorem et_le (ha : EV X EX a ta wa) (hb : EV X EX b tb wb) : ET X EX (.Compare a [.LtE] [b] pos) (tTest (tOp rrLe ta tb)) (wT (w2 (fB0 fun i j => decide (i ≤ j)) wa wb)) := et_cmp op_le rel_B0 ha hb (nomark _)
theorem et_gt (ha : EV X EX a ta wa) (hb : EV X EX b tb wb) : ET X EX (.Compare a [.Gt] [b] pos) (tTest (tOp rrGt ta tb)) (wT (w2 (fB0 fun i j => decide (j < i)) wa wb)) := et_cmp op_gt rel_B0 ha hb (nomark _)
theorem et_ge (ha : EV X EX a ta wa) (hb : EV X EX b tb wb) : ET X EX (.Compare a [.GtE] [b] pos) (tTest (tOp rrGe ta tb)) (wT (w2 (fB0 fun i j => decide (j ≤ i)) wa wb)) := et_cmp op_ge rel_B0 ha hb (nomark _)
theorem ev_lt (ha : EV X EX a ta wa) (hb : EV X EX b tb wb) : EV X EX (.Compare a [.Lt] [b] pos) (tOp rrLt ta tb) (w2 (fB0 fun i j => decide (i < j)) wa wb) := ev_cmp op_lt rel_B0 ha hb (nomark _)
theorem ev_le (ha : EV X EX a ta wa) (hb : EV X EX b tb wb) : EV X EX (.Compare a [.LtE] [b] pos) (tOp rrLe ta tb) (w2 (fB0 fun i j => decide (i ≤ j)) wa wb) := ev_cmp op_le rel_B0 ha hb (nomark _)
theorem ev_gt (ha : EV X EX a ta wa) (hb : EV X EX b tb wb) : EV X EX (.Compare a [.Gt] [b] pos) (tOp rrGt ta tb) (w2 (fB0 fun i j => decide (j < i)) wa wb) := ev_cmp op_gt rel_B0 ha hb (nomark _)
theorem ev_ge (ha : EV X EX a ta wa) (hb : EV X EX b tb wb) : EV X EX (.Compare a [.GtE] [b] pos) (tOp rrGe ta tb) (w2 (fB0 fun i j => decide (j ≤ i)) wa wb) := ev_cmp op_ge rel_B0 ha hb (nomark _)
end
/-! ### == and != of scalars -/
def scD : D → D → Option Bool
  | .non, .non => some true
  | .non, .int _ => some false | .int _, .non => some false
  | .non, .bl _ => some false | .bl _, .non => some false
  | .non, .str _ => some false | .str _, .non => some false
  | .int i, .int j => some (decide (i = j))
  | .bl i, .bl j => some (decide (i = j))
  | .str i, .str j => some (decide (i = j))
  | .int _, .str _ => some false | .str _, .int _ => some false
  | .bl _, .str _ => some false | .str _, .bl _ => some false
  | _, _ => none
def fEqS : F2 := fun d e P => match scD d e with
  | some b => P (.bl b)
  | none => False
def fNeS : F2 := fun d e P => match scD d e with
  | some b => P (.bl (!b))
  | none => False
theorem scD_ok {K : PySem.W.Frag} {Fr : Hp} {x y : V} {d e : D} {b : Bool} (rx : Rep K Fr x d) (ry : Rep K Fr y e) (h : scD d e = some b) : scal x y = true ∧ decide (x = y) = b := by
  cases rx <;> cases ry <;> simp only [scD] at h <;> first
    | (cases h; exact ⟨rfl, by simp⟩)
    | (cases h)
theorem rel_EqS {K : PySem.W.Frag} : Rel2 K rEq fEqS := by
  intro Fr H x y d e P Q rx ry _ h k
  unfold fEqS at h
  split at h
  · rename_i b hb
    obtain ⟨h1, h2⟩ := scD_ok rx ry hb
    exact ⟨h1, by rw [h2]; exact k _ _ h (.bl _)⟩
  · exact h.elim
theorem rel_NeS {K : PySem.W.Frag} : Rel2 K rNe fNeS := by
  intro Fr H x y d e P Q rx ry _ h k
  unfold fNeS at h
  split at h
  · rename_i b hb
    obtain ⟨h1, h2⟩ := scD_ok rx ry hb
    exact ⟨h1, by rw [h2]; exact k _ _ h (.bl _)⟩
  · exact h.elim
/-! ### == and != of data -/
mutual
def D.py : D → PyData
  | .non => .none
  | .bl b => .bool b
  | .int i => .int i
  | .str s => .str s
  | .tup xs => .tuple (D.pys xs)
  | .lst xs => .list (D.pys xs)
  | .dct _ _ => .none
  | .scr _ => .none
  | .fn _ => .none
  | .ty _ => .none
def D.pys : List D → List PyData
  | [] => []
  | d :: ds => d.py :: D.pys ds
end
mutual
def D.plain : D → Bool
  | .non | .bl _ | .int _ | .str _ => true
  | .tup xs | .lst xs => D.plains xs
  | _ => false
def D.plains : List D → Bool
  | [] => true
  | d :: ds => d.plain && D.plains ds
end
mutual
theorem Rep.dp {K : PySem.W.Frag} {H : Hp} {x : V} {d : D} (h : Rep K H x d) (hp : d.plain = true) : Dp K H x d.py := by
  cases h with
  | non => rw [D.py]; exact .non
  | bl b => rw [D.py]; exact .bl b
  | int i => rw [D.py]; exact .int i
  | str s => rw [D.py]; exact .str s
  | tup h r => rw [D.py]; exact .tup h (r.dp (by rw [D.plain] at hp; exact hp))
  | lst h r => rw [D.py]; exact .lst (SqL.of h) (r.dp (by rw [D.plain] at hp; exact hp))
  | dct _ _ _ => rw [D.plain] at hp <;> first | cases hp | (intros; exact D.noConfusion ‹_›)
  | scr _ => rw [D.plain] at hp <;> first | cases hp | (intros; exact D.noConfusion ‹_›)
  | fn _ => rw [D.plain] at hp <;> first | cases hp | (intros; exact D.noConfusion ‹_›)
  | ty _ => rw [D.plain] at hp <;> first | cases hp | (intros; exact D.noConfusion ‹_›)
theorem Reps.dp {K : PySem.W.Frag} {H : Hp} {xs : List V} {ds : List D} (h : Reps K H xs ds) (hp : D.plains ds = true) : DpAll K H xs (D.pys ds) := by
  cases h with
  | nil => rw [D.pys]; exact .nil
  | cons h r =>
    rw [D.plains, Bool.and_eq_true] at hp
    rw [D.pys]
    exact .cons (h.dp hp.1) (r.dp hp.2)
end
mutual
theorem Dp.mono {K : PySem.W.Frag} {H H' : Hp} (e : Same H H') {x : V} {d : PyData} (h : Dp K H x d) : Dp K H' x d := by
  cases h with
  | non => exact .non
  | bl b => exact .bl b
  | int i => exact .int i
  | str s => exact .str s
  | lst h r => exact .lst (e.seq h) (DpAll.mono e r)
  | tup h r => exact .tup (same_t e h) (DpAll.mono e r)
theorem DpAll.mono {K : PySem.W.Frag} {H H' : Hp} (e : Same H H') {xs : List V} {ds : List PyData} (h : DpAll K H xs ds) : DpAll K H' xs ds := by
  cases h with
  | nil => exact .nil
  | cons h r => exact .cons (Dp.mono e h) (DpAll.mono e r)
end
/-- data that == may be asked of -/
def D.fine (d : D) : Bool := d.plain && SeqAt.shaped d.py
def deq (d e : D) : Bool := PyData.eqv d.py e.py
def fEqD : F2 := fun d e P => d.fine = true ∧ e.fine = true ∧ P (.bl (deq d e))
def fNeD : F2 := fun d e P => d.fine = true ∧ e.fine = true ∧ P (.bl (!deq d e))
theorem rel_EqD {K : PySem.W.Frag} : Rel2 K (rEqD K) fEqD := by
  intro Fr H x y d e P Q rx ry s h k
  obtain ⟨h1, h2, h3⟩ := h
  obtain ⟨p1, q1⟩ := Bool.and_eq_true_iff.mp h1
  obtain ⟨p2, q2⟩ := Bool.and_eq_true_iff.mp h2
  exact ⟨_, _, Dp.mono s (rx.dp p1), Dp.mono s (ry.dp p2), q1, q2, k _ _ h3 (.bl _)⟩
theorem rel_NeD {K : PySem.W.Frag} : Rel2 K (rNeD K) fNeD := by
  intro Fr H x y d e P Q rx ry s h k
  obtain ⟨h1, h2, h3⟩ := h
  obtain ⟨p1, q1⟩ := Bool.and_eq_true_iff.mp h1
  obtain ⟨p2, q2⟩ := Bool.and_eq_true_iff.mp h2
  exact ⟨_, _, Dp.mono s (rx.dp p1), Dp.mono s (ry.dp p2), q1, q2, k _ _ h3 (.bl _)⟩
/-- x in xs, by == of data -/
def fInD : F2 := fun d e P => match e with
  | .lst ds => d.fine = true ∧ e.fine = true ∧ P (.bl (ds.any fun z => deq z d))
  | _ => False
def fNiD : F2 := fun d e P => match e with
  | .lst ds => d.fine = true ∧ e.fine = true ∧ P (.bl (!ds.any fun z => deq z d))
  | _ => False
theorem any_pys (g : PyData → Bool) : ∀ ds : List D, (D.pys ds).any g = ds.any fun z => g z.py
  | [] => by rw [D.pys]; rfl
  | d :: ds => by rw [D.pys, List.any_cons, List.any_cons, any_pys g ds]
theorem rel_InD {K : PySem.W.Frag} : Rel2 K (rInD K) fInD := by
  intro Fr H x y d e P Q rx ry s h k
  cases e with
  | lst ds =>
    obtain ⟨h1, h2, h3⟩ := h
    obtain ⟨p1, q1⟩ := Bool.and_eq_true_iff.mp h1
    obtain ⟨p2, q2⟩ := Bool.and_eq_true_iff.mp h2
    have r2 := ry.dp p2
    rw [D.py] at r2 q2
    refine ⟨_, _, Dp.mono s (rx.dp p1), Dp.mono s r2, q1, q2, ?_⟩
    rw [any_pys]
    exact k _ _ h3 (.bl _)
  | _ => exact (show False from h).elim
theorem rel_NiD {K : PySem.W.Frag} : Rel2 K (rNotInD K) fNiD := by
  intro Fr H x y d e P Q rx ry s h k
  cases e with
  | lst ds =>
    obtain ⟨h1, h2, h3⟩ := h
    obtain ⟨p1, q1⟩ := Bool.and_eq_true_iff.mp h1
    obtain ⟨p2, q2⟩ := Bool.and_eq_true_iff.mp h2
    have r2 := ry.dp p2
    rw [D.py] at r2 q2
    refine ⟨_, _, Dp.mono s (rx.dp p1), Dp.mono s r2, q1, q2, ?_⟩
    rw [any_pys]
    exact k _ _ h3 (.bl _)
  | _ => exact (show False from h).elim
/-! ### texts -/
def fAddS : F2 := fun d e P => match d, e with
  | .str i, .str j => i.length + j.length ≤ sizeLine ∧ P (.str (i ++ j))
  | _, _ => False
theorem rel_AddS {K : PySem.W.Frag} : Rel2 K (fun x y H Q => ∃ i j, x = .str i ∧ y = .str j ∧ i.length + j.length ≤ sizeLine ∧ Q (.str (i ++ j)) H) fAddS := by
  intro Fr H x y d e P Q rx ry _ h k
  cases rx with
  | str i => cases ry with
    | str j => exact ⟨i, j, rfl, rfl, h.1, k _ _ h.2 (.str _)⟩
    | _ => exact (show False from h).elim
  | _ => exact (show False from h).elim
/-- one sign in a text -/
def fInC : F2 := fun d e P => match d, e with
  | .str i, .str j => ∃ c, i.cps.toList = [c] ∧ P (.bl (decide (c ∈ j.cps.toList)))
  | _, _ => False
def fNiC : F2 := fun d e P => match d, e with
  | .str i, .str j => ∃ c, i.cps.toList = [c] ∧ P (.bl (!decide (c ∈ j.cps.toList)))
  | _, _ => False
theorem str_one {i : Str} {c : Nat} (h : i.cps.toList = [c]) : i = ⟨#[c]⟩ := TL.ext_tl (x := i) (y := ⟨#[c]⟩) h
theorem rel_InC {K : PySem.W.Frag} : Rel2 K (fun x y H Q => ∃ (c : Nat) (z : Str), x = .str ⟨#[c]⟩ ∧ y = .str z ∧ Q (.bl (decide (c ∈ z.cps.toList))) H) fInC := by
  intro Fr H x y d e P Q rx ry _ h k
  cases rx with
  | str i => cases ry with
    | str j =>
      obtain ⟨c, hc, h⟩ := h
      exact ⟨c, j, by rw [str_one hc], rfl, k _ _ h (.bl _)⟩
    | _ => exact (show False from h).elim
  | _ => exact (show False from h).elim
theorem rel_NiC {K : PySem.W.Frag} : Rel2 K (fun x y H Q => ∃ (c : Nat) (z : Str), x = .str ⟨#[c]⟩ ∧ y = .str z ∧ Q (.bl (!decide (c ∈ z.cps.toList))) H) fNiC := by
  intro Fr H x y d e P Q rx ry _ h k
  cases rx with
  | str i => cases ry with
    | str j =>
      obtain ⟨c, hc, h⟩ := h
      exact ⟨c, j, by rw [str_one hc], rfl, k _ _ h (.bl _)⟩
    | _ => exact (show False from h).elim
  | _ => exact (show False from h).elim
/-! ### x in a list or tuple of flat items -/
def D.fv : D → Option V
  | .non => some .non
  | .bl b => some (.bl b)
  | .int i => some (.int i)
  | .str s => some (.str s)
  | _ => none
def D.fvs : List D → Option (List V)
  | [] => some []
  | d :: ds => match d.fv, D.fvs ds with
    | some v, some vs => some (v :: vs)
    | _, _ => none
theorem fv_ok {K : PySem.W.Frag} {Fr : Hp} {x : V} {d : D} {v : V} (r : Rep K Fr x d) (h : d.fv = some v) : x = v ∧ flatV v = true := by
  cases r <;> simp [D.fv] at h <;> subst h <;> exact ⟨rfl, rfl⟩
theorem fvs_ok {K : PySem.W.Frag} {Fr : Hp} : ∀ {xs : List V} {ds : List D} {vs : List V}, Reps K Fr xs ds → D.fvs ds = some vs → xs = vs ∧ vs.all flatV = true
  | _, _, vs, .nil, h => by simp [D.fvs] at h; subst h; exact ⟨rfl, rfl⟩
  | _, _, vs, .cons (d := d) (ds := ds) r t, h => by
    unfold D.fvs at h
    split at h
    · rename_i v vs' h1 h2
      cases h
      obtain ⟨rfl, f1⟩ := fv_ok r h1
      obtain ⟨rfl, f2⟩ := fvs_ok t h2
      exact ⟨rfl, by rw [List.all_cons, f1, f2]; rfl⟩
    · cases h
def seqD : D → Option (List D)
  | .lst ds => some ds
  | .tup ds => some ds
  | _ => none
def fInV (neg : Bool) : F2 := fun d e P => match d.fv, (seqD e).bind D.fvs with
  | some v, some vs => P (.bl (if neg then !inV v vs else inV v vs))
  | _, _ => False
theorem rel_InV {K : PySem.W.Frag} {neg : Bool} : Rel2 K (rIn K neg) (fInV neg) := by
  intro Fr H x y d e P Q rx ry s h k
  unfold fInV at h
  split at h
  · rename_i v vs h1 h2
    obtain ⟨rfl, f1⟩ := fv_ok rx h1
    cases ry with
    | lst ha r =>
      obtain ⟨rfl, f2⟩ := fvs_ok r h2
      exact ⟨_, _, rfl, .inl (s.seq (SqL.of ha)), f1, f2, k _ _ h (.bl _)⟩
    | tup ha r =>
      obtain ⟨rfl, f2⟩ := fvs_ok r h2
      exact ⟨_, _, rfl, .inr (same_t s ha), f1, f2, k _ _ h (.bl _)⟩
    | _ => cases h2
  · exact h.elim
/-! ### is None -/
def D.isN : D → Bool
  | .non => true
  | _ => false
def fIsN : F2 := fun d e P => match e with
  | .non => P (.bl d.isN)
  | _ => False
def fNotN : F2 := fun d e P => match e with
  | .non => P (.bl (!d.isN))
  | _ => False
theorem isN_ok {K : PySem.W.Frag} {Fr : Hp} {x : V} {d : D} (r : Rep K Fr x d) : decide (x = .non) = d.isN := by
  cases r <;> first | rfl | (simp [D.isN])
theorem rel_IsN {K : PySem.W.Frag} : Rel2 K (fun x y H Q => y = .non ∧ Q (.bl (decide (x = .non))) H) fIsN := by
  intro Fr H x y d e P Q rx ry _ h k
  cases ry with
  | non => exact ⟨rfl, by rw [isN_ok rx]; exact k _ _ h (.bl _)⟩
  | _ => exact (show False from h).elim
theorem rel_NotN {K : PySem.W.Frag} : Rel2 K (fun x y H Q => y = .non ∧ Q (.bl (!decide (x = .non))) H) fNotN := by
  intro Fr H x y d e P Q rx ry _ h k
  cases ry with
  | non => exact ⟨rfl, by rw [isN_ok rx]; exact k _ _ h (.bl _)⟩
  | _ => exact (show False from h).elim
section
variable {X : Cx} {EX : XK} {a b : Expr} {ta tb : TE} {wa wb : WV} {pos : Pos}
theorem et_eqS (ha : EV X EX a ta wa) (hb : EV X EX b tb wb) : ET X EX (.Compare a [.Eq] [b] pos) (tTest (tOp rEq ta tb)) (wT (w2 fEqS wa wb)) := et_cmp op_eq rel_EqS ha hb (nomark _)
theorem et_neS (ha : EV X EX a ta wa) (hb : EV X EX b tb wb) : ET X EX (.Compare a [.NotEq] [b] pos) (tTest (tOp rNe ta tb)) (wT (w2 fNeS wa wb)) := et_cmp op_ne rel_NeS ha hb (nomark _)
theorem ev_eqS (ha : EV X EX a ta wa) (hb : EV X EX b tb wb) : EV X EX (.Compare a [.Eq] [b] pos) (tOp rEq ta tb) (w2 fEqS wa wb) := ev_cmp op_eq rel_EqS ha hb (nomark _)
theorem ev_neS (ha : EV X EX a ta wa) (hb : EV X EX b tb wb) : EV X EX (.Compare a [.NotEq] [b] pos) (tOp rNe ta tb) (w2 fNeS wa wb) := ev_cmp op_ne rel_NeS ha hb (nomark _)
theorem et_eqD (hu : X.A.units + 64 < cLine) (ha : EV X EX a ta wa) (hb : EV X EX b tb wb) {K : PySem.W.Frag} (hK : X.K = K := by rfl) : ET X EX (.Compare a [.Eq] [b] pos) (tTest (tOp (rEqD K) ta tb)) (wT (w2 fEqD wa wb)) := by
  subst hK
  exact et_cmp (op_eqD hu) rel_EqD ha hb (nomark _)
theorem et_neD (hu : X.A.units + 64 < cLine) (ha : EV X EX a ta wa) (hb : EV X EX b tb wb) {K : PySem.W.Frag} (hK : X.K = K := by rfl) : ET X EX (.Compare a [.NotEq] [b] pos) (tTest (tOp (rNeD K) ta tb)) (wT (w2 fNeD wa wb)) := by
  subst hK
  exact et_cmp (op_neD hu) rel_NeD ha hb (nomark _)
theorem ev_eqD (hu : X.A.units + 64 < cLine) (ha : EV X EX a ta wa) (hb : EV X EX b tb wb) {K : PySem.W.Frag} (hK : X.K = K := by rfl) : EV X EX (.Compare a [.Eq] [b] pos) (tOp (rEqD K) ta tb) (w2 fEqD wa wb) := by
  subst hK
  exact ev_cmp (op_eqD hu) rel_EqD ha hb (nomark _)
theorem ev_neD (hu : X.A.units + 64 < cLine) (ha : EV X EX a ta wa) (hb : EV X EX b tb wb) {K : PySem.W.Frag} (hK : X.K = K := by rfl) : EV X EX (.Compare a [.NotEq] [b] pos) (tOp (rNeD K) ta tb) (w2 fNeD wa wb) := by
  subst hK
  exact ev_cmp (op_neD hu) rel_NeD ha hb (nomark _)
theorem et_inD (hu : X.A.units + 65 < cLine) (ha : EV X EX a ta wa) (hb : EV X EX b tb wb) (hm : behindInMarks .In b = false := by rfl) {K : PySem.W.Frag} (hK : X.K = K := by rfl) : ET X EX (.Compare a [.In] [b] pos) (tTest (tOp (rInD K) ta tb)) (wT (w2 fInD wa wb)) := by
  subst hK
  exact et_cmp (op_inD hu) rel_InD ha hb hm
theorem et_niD (hu : X.A.units + 65 < cLine) (ha : EV X EX a ta wa) (hb : EV X EX b tb wb) (hm : behindInMarks .NotIn b = false := by rfl) {K : PySem.W.Frag} (hK : X.K = K := by rfl) : ET X EX (.Compare a [.NotIn] [b] pos) (tTest (tOp (rNotInD K) ta tb)) (wT (w2 fNiD wa wb)) := by
  subst hK
  exact et_cmp (op_notInD hu) rel_NiD ha hb hm
theorem ev_inD (hu : X.A.units + 65 < cLine) (ha : EV X EX a ta wa) (hb : EV X EX b tb wb) (hm : behindInMarks .In b = false := by rfl) {K : PySem.W.Frag} (hK : X.K = K := by rfl) : EV X EX (.Compare a [.In] [b] pos) (tOp (rInD K) ta tb) (w2 fInD wa wb) := by
  subst hK
  exact ev_cmp (op_inD hu) rel_InD ha hb hm
theorem ev_niD (hu : X.A.units + 65 < cLine) (ha : EV X EX a ta wa) (hb : EV X EX b tb wb) (hm : behindInMarks .NotIn b = false := by rfl) {K : PySem.W.Frag} (hK : X.K = K := by rfl) : EV X EX (.Compare a [.NotIn] [b] pos) (tOp (rNotInD K) ta tb) (w2 fNiD wa wb) := by
  subst hK
  exact ev_cmp (op_notInD hu) rel_NiD ha hb hm
theorem ev_addS (ha : EV X EX a ta wa) (hb : EV X EX b tb wb) : EV X EX (.BinOp a .Add b pos) (tOp rrAddS ta tb) (w2 fAddS wa wb) := ev_op op_add_str rel_AddS ha hb
theorem et_inC (ha : EV X EX a ta wa) (hb : EV X EX b tb wb) (hm : behindInMarks .In b = false := by rfl) : ET X EX (.Compare a [.In] [b] pos) (tTest (tOp rrInC ta tb)) (wT (w2 fInC wa wb)) := et_cmp op_in_sign rel_InC ha hb hm
theorem et_niC (ha : EV X EX a ta wa) (hb : EV X EX b tb wb) (hm : behindInMarks .NotIn b = false := by rfl) : ET X EX (.Compare a [.NotIn] [b] pos) (tTest (tOp rrNiC ta tb)) (wT (w2 fNiC wa wb)) := et_cmp op_notIn_sign rel_NiC ha hb hm
theorem ev_inC (ha : EV X EX a ta wa) (hb : EV X EX b tb wb) (hm : behindInMarks .In b = false := by rfl) : EV X EX (.Compare a [.In] [b] pos) (tOp rrInC ta tb) (w2 fInC wa wb) := ev_cmp op_in_sign rel_InC ha hb hm
theorem ev_niC (ha : EV X EX a ta wa) (hb : EV X EX b tb wb) (hm : behindInMarks .NotIn b = false := by rfl) : EV X EX (.Compare a [.NotIn] [b] pos) (tOp rrNiC ta tb) (w2 fNiC wa wb) := ev_cmp op_notIn_sign rel_NiC ha hb hm
theorem et_inV (ha : EV X EX a ta wa) (hb : EV X EX b tb wb) (hm : behindInMarks .In b = false := by rfl) {K : PySem.W.Frag} (hK : X.K = K := by rfl) : ET X EX (.Compare a [.In] [b] pos) (tTest (tOp (rIn K false) ta tb)) (wT (w2 (fInV false) wa wb)) := by
  subst hK
  exact et_cmp op_in_seq rel_InV ha hb hm
theorem et_niV (ha : EV X EX a ta wa) (hb : EV X EX b tb wb) (hm : behindInMarks .NotIn b = false := by rfl) {K : PySem.W.Frag} (hK : X.K = K := by rfl) : ET X EX (.Compare a [.NotIn] [b] pos) (tTest (tOp (rIn K true) ta tb)) (wT (w2 (fInV true) wa wb)) := by
  subst hK
  exact et_cmp op_notIn_seq rel_InV ha hb hm
theorem ev_inV (ha : EV X EX a ta wa) (hb : EV X EX b tb wb) (hm : behindInMarks .In b = false := by rfl) {K : PySem.W.Frag} (hK : X.K = K := by rfl) : EV X EX (.Compare a [.In] [b] pos) (tOp (rIn K false) ta tb) (w2 (fInV false) wa wb) := by
  subst hK
  exact ev_cmp op_in_seq rel_InV ha hb hm
theorem ev_niV (ha : EV X EX a ta wa) (hb : EV X EX b tb wb) (hm : behindInMarks .NotIn b = false := by rfl) {K : PySem.W.Frag} (hK : X.K = K := by rfl) : EV X EX (.Compare a [.NotIn] [b] pos) (tOp (rIn K true) ta tb) (w2 (fInV true) wa wb) := by
  subst hK
  exact ev_cmp op_notIn_seq rel_InV ha hb hm
theorem et_isN (ha : EV X EX a ta wa) (hb : EV X EX b tb wb) : ET X EX (.Compare a [.Is] [b] pos) (tTest (tOp rrIsN ta tb)) (wT (w2 fIsN wa wb)) := et_cmp op_isN rel_IsN ha hb (nomark _)
theorem et_notN (ha : EV X EX a ta wa) (hb : EV X EX b tb wb) : ET X EX (.Compare a [.IsNot] [b] pos) (tTest (tOp rrNotN ta tb)) (wT (w2 fNotN wa wb)) := et_cmp op_notN rel_NotN ha hb (nomark _)
theorem ev_isN (ha : EV X EX a ta wa) (hb : EV X EX b tb wb) : EV X EX (.Compare a [.Is] [b] pos) (tOp rrIsN ta tb) (w2 fIsN wa wb) := ev_cmp op_isN rel_IsN ha hb (nomark _)
theorem ev_notN (ha : EV X EX a ta wa) (hb : EV X EX b tb wb) : EV X EX (.Compare a [.IsNot] [b] pos) (tOp rrNotN ta tb) (w2 fNotN wa wb) := ev_cmp op_notN rel_NotN ha hb (nomark _)
end
end DL

set_option Elab.async false
set_option linter.all false
set_option autoImplicit false
set_option maxRecDepth 100000
set_option maxHeartbeats 1000000
/-! DL, part 3: argument lists, displays, subscripts, slices, built-in functions, methods of texts. -/
namespace DL
open PySem PySem.Spec PyProof.Rows L2

/-! ### argument lists -/
def wNilL : WL := fun _ ρ Q => Q [] ρ
def wConsL (a : WV) (l : WL) : WL := fun ex ρ Q => a ex ρ fun d ρ1 => l ex ρ1 fun ds ρ2 => Q (d :: ds) ρ2
section
variable {X : Cx} {EX : XK}
theorem el_nil : EL X EX [] tNil wNilL := ⟨pa_nil, fun Fr H σ ρ ex QV Q ok xl hw k => k [] ρ [] Fr H hw ok (Go.refl _ _ _ _) .nil⟩
theorem el_cons {e : Expr} {es : List Expr} {te : TE} {t : TA} {w : WV} {wl : WL} (ha : EV X EX e te w) (hr : EL X EX es t wl) (hs : starEach (e :: es) X.env = (false, eval e X.env) :: starEach es X.env := by rfl) :
    EL X EX (e :: es) (tCons te t) (wConsL w wl) := ⟨pa_cons ha.pe hr.pa hs, fun Fr H σ ρ ex QV Q ok xl hw k => ha.val Fr H σ ρ ex _ _ ok xl hw fun d ρ1 x Fr1 H1 q1 ok1 g1 r1 =>
      hr.val Fr1 H1 σ ρ1 ex _ _ ok1 (xl.go g1) q1 fun ds ρ2 xs Fr2 H2 q2 ok2 g2 r2 => k (d :: ds) ρ2 (x :: xs) Fr2 H2 q2 ok2 (g1.trans g2) (.cons (r1.mono g2.fr) r2)⟩
/-- *xs in a display: a list | a tuple -/
def wStarL (a : WV) (l : WL) : WL := fun ex ρ Q => a ex ρ fun d ρ1 => ∃ es, seqD d = some es ∧ l ex ρ1 fun ds ρ2 => Q (es ++ ds) ρ2
theorem el_star {e : Expr} {es : List Expr} {te : TE} {t : TA} {w : WV} {wl : WL} {p : Pos} (ha : EV X EX e te w) (hr : EL X EX es t wl) (hs : starEach (.Starred e p :: es) X.env = (true, eval e X.env) :: starEach es X.env := by rfl) {K : PySem.W.Frag} (hK : X.K = K := by rfl) :
    EL X EX (.Starred e p :: es) (StX.tStar K te t) (wStarL w wl) := by
  subst hK
  exact ⟨StX.pa_star ha.pe hr.pa hs, fun Fr H σ ρ ex QV Q ok xl hw k => ha.val Fr H σ ρ ex _ _ ok xl hw fun d ρ1 x Fr1 H1 q1 ok1 g1 r1 => by
      obtain ⟨es, he, q1⟩ := q1
      cases r1 with
      | lst hx r => cases he; exact ⟨_, _, rfl, .inr (ok1.ex.seq (SqL.of hx)), hr.val Fr1 H1 σ ρ1 ex _ _ ok1 (xl.go g1) q1 fun ds ρ2 ys Fr2 H2 q2 ok2 g2 r2 => k _ ρ2 _ Fr2 H2 q2 ok2 (g1.trans g2) (Reps.append r2 (r.mono g2.fr))⟩
      | tup hx r => cases he; exact ⟨_, _, rfl, .inl (same_t ok1.ex hx), hr.val Fr1 H1 σ ρ1 ex _ _ ok1 (xl.go g1) q1 fun ds ρ2 ys Fr2 H2 q2 ok2 g2 r2 => k _ ρ2 _ Fr2 H2 q2 ok2 (g1.trans g2) (Reps.append r2 (r.mono g2.fr))⟩
      | _ => cases he⟩
/-! ### displays -/
def wTup (l : WL) : WV := fun ex ρ Q => l ex ρ fun ds ρ1 => ds.length ≤ 16777216 ∧ Q (.tup ds) ρ1
def wLst (l : WL) : WV := fun ex ρ Q => l ex ρ fun ds ρ1 => ds.length ≤ 16777216 ∧ Q (.lst ds) ρ1
theorem line_of {n : Nat} (h : n ≤ 16777216) : n ≤ sizeLine := by rw [sizeLine_eq]; exact h
theorem ev_tup {es : List Expr} {t : TA} {wl : WL} {k1 : Nat} {pos : Pos} (h : EL X EX es t wl) : EV X EX (.Tuple es k1 pos) (tTup t) (wTup wl) := ⟨pe_tup h.pa, fun Fr H σ ρ ex QV Q ok xl hw k =>
  h.val Fr H σ ρ ex _ _ ok xl hw fun ds ρ1 xs Fr1 H1 q1 ok1 g1 r1 => ⟨line_of (by rw [r1.length]; exact q1.1), fun p hp => by
    obtain ⟨ok2, g2⟩ := ok1.addFr (o := .tup xs) hp
    exact k _ ρ1 _ _ _ q1.2 ok2 (g1.trans g2) (.tup (SqT.of upd_same) (r1.mono g2.fr))⟩⟩
theorem eo_lst {es : List Expr} {t : TA} {wl : WL} {pos : Pos} (h : EL X EX es t wl) : EO X EX (.List es pos) (tLst t) (wLst wl) := ⟨pe_lst h.pa, fun Fr H σ ρ ex QV Q ok xl hw k =>
  h.val Fr H σ ρ ex _ _ ok xl hw fun ds ρ1 xs Fr1 H1 q1 ok1 g1 r1 => ⟨line_of (by rw [r1.length]; exact q1.1), fun p hp => by
    obtain ⟨ok2, g2⟩ := ok1.addOwn (o := .lst xs) hp
    refine k _ ρ1 p _ _ q1.2 ok2 (g1.trans g2) (g1.dom p hp) (ok1.ex.free hp) (fun i z => ?_) ⟨xs, upd_same, r1⟩
    obtain ⟨o, ho⟩ := ok1.own_there z
    rw [hp] at ho; cases ho⟩⟩
end
/-- a new list of such values -/
theorem new_lst {K : PySem.W.Frag} {Fr H : Hp} {σ : Sg} {ρ : List Sl} {p : Addr} {xs : List V} {ds : List D} (ok : Ok K Fr H σ ρ) (hp : H p = none) (r : Reps K Fr xs ds) :
    Ok K Fr (upd H p (.lst xs)) σ ρ ∧ Go Fr H σ ρ Fr (upd H p (.lst xs)) σ ρ ∧ Fr p = none ∧ (∀ i, ¬ Owns σ ρ i p) ∧ OwnA K Fr (upd H p (.lst xs)) p (.lst ds) := by
  obtain ⟨ok2, g2⟩ := ok.addOwn (o := .lst xs) hp
  refine ⟨ok2, g2, ok.ex.free hp, fun i z => ?_, xs, upd_same, r⟩
  obtain ⟨o, ho⟩ := ok.own_there z
  rw [hp] at ho; cases ho

/-! ### subscripts -/
theorem atI_reps {K : PySem.W.Frag} {Fr : Hp} {xs : List V} {ds : List D} {i : Int} {d : D} (r : Reps K Fr xs ds) (h : atI ds i = some d) : ∃ x, atI xs i = some x ∧ Rep K Fr x d := by
  unfold atI at h ⊢
  rw [r.length]
  cases e : ixN ds.length i with
  | none => rw [e] at h; cases h
  | some j =>
    rw [e] at h
    exact r.get h
theorem atI_map {α β : Type} (f : α → β) (l : List α) (i : Int) : atI (l.map f) i = (atI l i).map f := by
  unfold atI
  rw [List.length_map]
  cases ixN l.length i with
  | none => rfl
  | some j => show (l.map f)[j]? = _; rw [List.getElem?_map]; rfl
def ixD : D → Int → Option D
  | .tup ds, i => atI ds i
  | .lst ds, i => atI ds i
  | .str z, i => if z.length ≤ sizeLine then (atI z.cps.toList i).map fun c => .str ⟨#[c]⟩ else none
  | .scr ns, i => (atI ns i).map .int
  | _, _ => none
def fIx : F2 := fun d e P => match e with
  | .int i => ∃ g, ixD d i = some g ∧ P g
  | _ => False
theorem rel_Ix {K : PySem.W.Frag} : Rel2 K (rIx K) fIx := by
  intro Fr H x y d e P Q rx ry s h k
  cases ry with
  | int i =>
    replace h : ∃ g, ixD d i = some g ∧ P g := h
    obtain ⟨g, hg, h⟩ := h
    cases rx with
    | lst hx r =>
      obtain ⟨z, h1, h2⟩ := atI_reps r (show atI _ i = some g from hg)
      exact .inl ⟨_, _, i, z, rfl, rfl, s.seq (SqL.of hx), h1, k z g h h2⟩
    | tup hx r =>
      obtain ⟨z, h1, h2⟩ := atI_reps r (show atI _ i = some g from hg)
      exact .inr (.inl ⟨_, _, i, z, rfl, rfl, same_t s hx, h1, k z g h h2⟩)
    | str z =>
      have hg : (if z.length ≤ sizeLine then (atI z.cps.toList i).map fun c => D.str ⟨#[c]⟩ else none) = some g := hg
      by_cases hl : z.length ≤ sizeLine
      · rw [if_pos hl] at hg
        obtain ⟨c, hc, rfl⟩ := Option.map_eq_some_iff.mp hg
        exact .inr (.inr ⟨z, i, c, rfl, rfl, hl, hc, k _ _ h (.str _)⟩)
      · rw [if_neg hl] at hg; cases hg
    | scr hx =>
      obtain ⟨n, hn, rfl⟩ := Option.map_eq_some_iff.mp (show (atI _ i).map D.int = some g from hg)
      exact .inl ⟨_, _, i, .int n, rfl, rfl, s.seq hx, by rw [atI_map, hn]; rfl, k _ _ h (.int n)⟩
    | _ => cases hg
  | _ => exact (show False from h).elim
/-- what a slot holds -/
def Sl.d : Sl → Option D
  | .v d => some d
  | .o d => some d
  | .b d => some d
  | .un => none
/-- name[i], the name's object as it stands (it may be one's own) -/
def wPeek (i : Nat) (wb : WV) (f : F2) : WV := fun ex ρ Q => (∃ sl, ρ[i]? = some sl ∧ sl ≠ .un) ∧ wb ex ρ fun e ρ1 => ∃ d, (ρ1[i]?).bind Sl.d = some d ∧ f d e fun g => Q g ρ1
/-- the operation on a value, of which the heap knows no more than the slot says -/
def RelP (K : PySem.W.Frag) (r : R2) (f : F2) : Prop := ∀ (Fr H : Hp) (x y : V) (sl : Sl) (d e : D) (P : D → Prop) (Q : VK), SlV K Fr H x sl → sl.d = some d → Rep K Fr y e → Same Fr H → f d e P → (∀ z g, P g → Rep K Fr z g → Q z H) → r x y H Q
theorem valP {X : Cx} {EX : XK} {b : Expr} {tb : TE} {wb : WV} {r : R2} {f : F2} {i : Nat} (hf : RelP X.K r f) (hb : EV X EX b tb wb) (Fr H : Hp) (σ : Sg) (ρ : List Sl) (ex : DX) (QV : D → List Sl → Prop) (Q : VK) (ok : Ok X.K Fr H σ ρ) (xl : XL X.K EX ex Fr H σ ρ)
    (hw : wPeek i wb f ex ρ QV) (k : ∀ (d : D) (ρ' : List Sl) (x : V) (Fr' H' : Hp), QV d ρ' → Ok X.K Fr' H' σ ρ' → Go Fr H σ ρ Fr' H' σ ρ' → Rep X.K Fr' x d → Q x H') : tOp r (tVar i) tb σ H Q := by
  obtain ⟨⟨sl, h1, h2⟩, hw⟩ := hw
  obtain ⟨x, e, _⟩ := ok.at_ i sl h1 h2
  refine ⟨x, e, hb.val Fr H σ ρ ex _ _ ok xl hw fun d1 ρ1 y Fr1 H1 q1 ok1 g1 r1 => ?_⟩
  obtain ⟨d, hd, q1⟩ := q1
  obtain ⟨s1, hs, hd⟩ := Option.bind_eq_some_iff.mp hd
  obtain ⟨x', e', q'⟩ := ok1.at_ i s1 hs (by rintro rfl; cases hd)
  rw [e] at e'; cases e'
  exact hf Fr1 H1 x y s1 d d1 _ _ q' hd r1 ok1.ex q1 fun z g hg rz => k g ρ1 z Fr1 H1 hg ok1 g1 rz
theorem relP_Ix {K : PySem.W.Frag} : RelP K (rIx K) fIx := by
  intro Fr H x y sl d e P Q sx hd ry s h k
  have own : OwnV K Fr H x d → rIx K x y H Q := by
    rintro ⟨p, rfl, hf, z⟩
    cases ry with
    | int i =>
      replace h : ∃ g, ixD d i = some g ∧ P g := h
      obtain ⟨g, hg, h⟩ := h
      cases d with
      | lst ds =>
        obtain ⟨xs, hx, r⟩ := z
        obtain ⟨z, h1, h2⟩ := atI_reps r (show atI _ i = some g from hg)
        exact .inl ⟨_, _, i, z, rfl, rfl, SqL.of hx, h1, k z g h h2⟩
      | dct ks vs => cases hg
      | _ => exact False.elim z
    | _ => exact (show False from h).elim
  cases sl with
  | un => cases hd
  | v d' => cases hd; exact rel_Ix Fr H x y d e P Q sx ry s h k
  | o d' => cases hd; exact own sx
  | b d' => cases hd; exact own sx
section
variable {X : Cx} {EX : XK} {a b : Expr} {ta tb : TE} {wa wb : WV} {pos p : Pos}
theorem ev_ix (ha : EV X EX a ta wa) (hb : EV X EX b tb wb) (hs : PlainIx b := by exact fun _ _ => rfl) {K : PySem.W.Frag} (hK : X.K = K := by rfl) : EV X EX (.Subscript a b pos) (tOp (rIx K) ta tb) (w2 fIx wa wb) := by
  subst hK
  exact ⟨pe_ix ix_seq ha.pe hb.pe hs, val2 rel_Ix ha hb⟩
theorem ev_ixK (i : Nat) {x : Str} (hb : EV X EX b tb wb) (hN : X.N[i]? = some x := by rfl) (hv : Vis X.env.scope x := by first | exact Or.inl rfl | exact Or.inr (Or.inl rfl) | exact Or.inr (Or.inr rfl)) (hs : PlainIx b := by exact fun _ _ => rfl)
    (hd : (x == ("__debug__" : Str)) = false := by decide) (hcd : (x == ("__classdict__" : Str)) = false := by decide) {K : PySem.W.Frag} (hK : X.K = K := by rfl) :
    EV X EX (.Subscript (.Name x p) b pos) (tOp (rIx K) (tVar i) tb) (wPeek i wb fIx) := by
  subst hK
  exact ⟨pe_ix ix_seq (pe_var hN hv hd hcd) hb.pe hs, valP relP_Ix hb⟩
end

/-! ### slices -/
abbrev WO := DX → List Sl → (Option Int → List Sl → Prop) → Prop
structure EP (X : Cx) (EX : XK) (e : Option Expr) (t : TO) (w : WO) : Prop where
  po : PO X e t
  val : ∀ (Fr H : Hp) (σ : Sg) (ρ : List Sl) (ex : DX) (QV : Option Int → List Sl → Prop) (Q : Option Int → Hp → Prop), Ok X.K Fr H σ ρ → XL X.K EX ex Fr H σ ρ → w ex ρ QV →
    (∀ (o : Option Int) (ρ' : List Sl) (Fr' H' : Hp), QV o ρ' → Ok X.K Fr' H' σ ρ' → Go Fr H σ ρ Fr' H' σ ρ' → Q o H') → t σ H Q
def wNoP : WO := fun _ ρ Q => Q none ρ
def wPart (w : WV) : WO := fun ex ρ Q => w ex ρ fun d ρ1 => match d with
  | .int i => Q (some i) ρ1
  | _ => False
def wSl (f : D → Option Int → Option Int → (D → Prop) → Prop) (w : WV) (wl wh : WO) : WV := fun ex ρ Q => w ex ρ fun d ρ1 => wl ex ρ1 fun l ρ2 => wh ex ρ2 fun u ρ3 => f d l u fun g => Q g ρ3
section
variable {X : Cx} {EX : XK} {e : Expr} {te : TE} {w : WV} {lo hi : Option Expr} {tl th : TO} {wl wh : WO} {pos p2 : Pos}
theorem ep_none : EP X EX none tNoPart wNoP := ⟨po_none, fun Fr H σ ρ ex QV Q ok xl hw k => k none ρ Fr H hw ok (Go.refl _ _ _ _)⟩
theorem ep_some (h : EV X EX e te w) : EP X EX (some e) (tPart te) (wPart w) := ⟨po_some h.pe, fun Fr H σ ρ ex QV Q ok xl hw k => h.val Fr H σ ρ ex _ _ ok xl hw fun d ρ1 x Fr1 H1 q1 ok1 g1 r1 => by
  cases r1 with
  | int i => exact ⟨i, rfl, k (some i) ρ1 Fr1 H1 q1 ok1 g1⟩
  | _ => exact (show False from q1).elim⟩
theorem valSl {r : V → Option Int → Option Int → Hp → VK → Prop} {R : D → Option Int → Option Int → List Sl → Prop} {σ : Sg} {Q : VK} (he : EV X EX e te w) (hl : EP X EX lo tl wl) (hh : EP X EX hi th wh) (Fr H : Hp) (ρ : List Sl) (ex : DX) (ok : Ok X.K Fr H σ ρ) (xl : XL X.K EX ex Fr H σ ρ)
    (hw : w ex ρ fun d ρ1 => wl ex ρ1 fun l ρ2 => wh ex ρ2 fun u ρ3 => R d l u ρ3) (k : ∀ (d : D) (l u : Option Int) (ρ' : List Sl) (x : V) (Fr' H' : Hp), R d l u ρ' → Ok X.K Fr' H' σ ρ' → Go Fr H σ ρ Fr' H' σ ρ' → Rep X.K Fr' x d → r x l u H' Q) : tSl r te tl th σ H Q :=
  he.val Fr H σ ρ ex _ _ ok xl hw fun d ρ1 x Fr1 H1 q1 ok1 g1 r1 => hl.val Fr1 H1 σ ρ1 ex _ _ ok1 (xl.go g1) q1 fun l ρ2 Fr2 H2 q2 ok2 g2 => hh.val Fr2 H2 σ ρ2 ex _ _ ok2 (xl.go (g1.trans g2)) q2 fun u ρ3 Fr3 H3 q3 ok3 g3 =>
    k d l u ρ3 x Fr3 H3 q3 ok3 ((g1.trans g2).trans g3) ((r1.mono g2.fr).mono g3.fr)
def fSlS (d : D) (l u : Option Int) (P : D → Prop) : Prop := match d with
  | .str z => z.length ≤ sizeLine ∧ P (.str (cutS z l u))
  | _ => False
/-- s[lo:hi], a text -/
theorem ev_slS (he : EV X EX e te w) (hl : EP X EX lo tl wl) (hh : EP X EX hi th wh) : EV X EX (.Subscript e (.Slice lo hi none p2) pos) (tSl rSlS te tl th) (wSl fSlS w wl wh) :=
  ⟨pe_slice sl_str he.pe hl.po hh.po, fun Fr H σ ρ ex QV Q ok xl hw k => valSl he hl hh Fr H ρ ex ok xl hw fun d l u ρ' x Fr' H' q ok' g r => by
    cases r with
    | str z => exact ⟨z, rfl, q.1, k _ ρ' _ Fr' H' q.2 ok' g (.str _)⟩
    | _ => exact (show False from q).elim⟩
def cutD (ds : List D) (lo hi : Option Int) : List D := (ds.drop (HT.sIx ds.length 0 lo)).take (HT.sIx ds.length ds.length hi - HT.sIx ds.length 0 lo)
theorem cut_reps {K : PySem.W.Frag} {Fr : Hp} {xs : List V} {ds : List D} (r : Reps K Fr xs ds) (lo hi : Option Int) : Reps K Fr (cutV xs lo hi) (cutD ds lo hi) := by
  unfold cutV cutD
  rw [r.length]
  exact (r.drop _).take _
def fSlL (d : D) (l u : Option Int) (P : D → Prop) : Prop := match d with
  | .lst ds => P (.lst (cutD ds l u))
  | _ => False
/-- xs[lo:hi], a list: a new one -/
theorem eo_slL (he : EV X EX e te w) (hl : EP X EX lo tl wl) (hh : EP X EX hi th wh) {K : PySem.W.Frag} (hK : X.K = K := by rfl) : EO X EX (.Subscript e (.Slice lo hi none p2) pos) (tSl (rSlL K) te tl th) (wSl fSlL w wl wh) := by
  subst hK
  exact ⟨pe_slice sl_list he.pe hl.po hh.po, fun Fr H σ ρ ex QV Q ok xl hw k => valSl he hl hh Fr H ρ ex ok xl hw fun d l u ρ' x Fr' H' q ok' g r => by
    cases r with
    | lst hx r =>
      refine ⟨_, _, rfl, ok'.ex.seq (SqL.of hx), fun p hp => ?_⟩
      obtain ⟨ok2, g2, hf, hn, z⟩ := new_lst ok' hp (cut_reps r l u)
      exact k _ ρ' p _ _ q ok2 (g.trans g2) (g.dom p hp) hf hn z
    | _ => exact (show False from q).elim⟩
def fSlT (d : D) (l u : Option Int) (P : D → Prop) : Prop := match d with
  | .tup ds => ¬ (HT.sIx ds.length 0 l = 0 ∧ HT.sIx ds.length ds.length u = ds.length) ∧ P (.tup (cutD ds l u))
  | _ => False
/-- t[lo:hi], a tuple, not the whole -/
theorem ev_slT (he : EV X EX e te w) (hl : EP X EX lo tl wl) (hh : EP X EX hi th wh) {K : PySem.W.Frag} (hK : X.K = K := by rfl) : EV X EX (.Subscript e (.Slice lo hi none p2) pos) (tSl (rSlT K) te tl th) (wSl fSlT w wl wh) := by
  subst hK
  exact ⟨pe_slice sl_tup he.pe hl.po hh.po, fun Fr H σ ρ ex QV Q ok xl hw k => valSl he hl hh Fr H ρ ex ok xl hw fun d l u ρ' x Fr' H' q ok' g r => by
    cases r with
    | tup hx r =>
      refine ⟨_, _, rfl, same_t ok'.ex hx, by rw [r.length]; exact q.1, fun p hp => ?_⟩
      obtain ⟨ok2, g2⟩ := ok'.addFr (o := .tup (cutV _ l u)) hp
      exact k _ ρ' _ _ _ q.2 ok2 (g.trans g2) (.tup (SqT.of upd_same) ((cut_reps r l u).mono g2.fr))
    | _ => exact (show False from q).elim⟩
end

/-! ### lists: + -/
def wCat (wa wb : WV) : WV := fun ex ρ Q => wa ex ρ fun d ρ1 => wb ex ρ1 fun e ρ2 => match d, e with
  | .lst as, .lst bs => as.length + bs.length ≤ 16777216 ∧ Q (.lst (as ++ bs)) ρ2
  | _, _ => False
section
variable {X : Cx} {EX : XK} {a b : Expr} {ta tb : TE} {wa wb : WV} {pos : Pos}
theorem eo_cat (ha : EV X EX a ta wa) (hb : EV X EX b tb wb) : EO X EX (.BinOp a .Add b pos) (tOp rCat ta tb) (wCat wa wb) := ⟨pe_op op_cat ha.pe hb.pe, fun Fr H σ ρ ex QV Q ok xl hw k =>
  ha.val Fr H σ ρ ex _ _ ok xl hw fun d ρ1 x Fr1 H1 q1 ok1 g1 r1 => hb.val Fr1 H1 σ ρ1 ex _ _ ok1 (xl.go g1) q1 fun e ρ2 y Fr2 H2 q2 ok2 g2 r2 => by
    cases r1 with
    | lst hx r =>
      cases r2 with
      | lst hy r' =>
        have l1 := r.length
        have l2 := r'.length
        refine ⟨_, _, _, _, rfl, rfl, ok2.ex _ _ (g2.fr _ _ hx), ok2.ex _ _ hy, line_of (by rw [l1, l2]; exact q2.1), fun p hp => ?_⟩
        obtain ⟨ok3, g3, hf, hn, z⟩ := new_lst ok2 hp (Reps.append r' (r.mono g2.fr))
        exact k _ ρ2 p _ _ q2.2 ok3 ((g1.trans g2).trans g3) ((g1.trans g2).dom p hp) hf hn z
      | _ => exact (show False from q2).elim
    | _ => exact (show False from q2).elim⟩
end

/-! ### built-in functions -/
abbrev FL := List D → (D → Prop) → Prop
def RelC (K : PySem.W.Frag) (r : List V → Hp → VK → Prop) (f : FL) : Prop := ∀ (Fr H : Hp) (xs : List V) (ds : List D) (P : D → Prop) (Q : VK), Reps K Fr xs ds → Same Fr H → f ds P → (∀ z g, P g → Rep K Fr z g → Q z H) → r xs H Q
def wCB (f : FL) (l : WL) : WV := fun ex ρ Q => l ex ρ fun ds ρ1 => f ds fun g => Q g ρ1
/-- .. that makes a new list -/
def RelN (K : PySem.W.Frag) (r : List V → Hp → VK → Prop) (f : List D → (List D → Prop) → Prop) : Prop := ∀ (Fr H : Hp) (xs : List V) (ds : List D) (P : List D → Prop) (Q : VK), Reps K Fr xs ds → Same Fr H → f ds P →
  (∀ p ys es, P es → H p = none → Reps K Fr ys es → Q (.ref p) (upd H p (.lst ys))) → r xs H Q
def wCN (f : List D → (List D → Prop) → Prop) (l : WL) : WV := fun ex ρ Q => l ex ρ fun ds ρ1 => f ds fun es => Q (.lst es) ρ1
section
variable {X : Cx} {EX : XK} {x : Str} {p pos : Pos} {e : Expr} {es : List Expr} {t : TA} {wl : WL} {id T : String} {r : List V → Hp → VK → Prop}
theorem valC {f : FL} (hf : RelC X.K r f) (ha : EL X EX es t wl) (Fr H : Hp) (σ : Sg) (ρ : List Sl) (ex : DX) (QV : D → List Sl → Prop) (Q : VK) (ok : Ok X.K Fr H σ ρ) (xl : XL X.K EX ex Fr H σ ρ) (hw : wCB f wl ex ρ QV)
    (k : ∀ (d : D) (ρ' : List Sl) (x : V) (Fr' H' : Hp), QV d ρ' → Ok X.K Fr' H' σ ρ' → Go Fr H σ ρ Fr' H' σ ρ' → Rep X.K Fr' x d → Q x H') : tCB r t σ H Q :=
  ha.val Fr H σ ρ ex _ _ ok xl hw fun ds ρ1 xs Fr1 H1 q1 ok1 g1 r1 => hf Fr1 H1 xs ds _ _ r1 ok1.ex q1 fun z g hg rz => k g ρ1 z Fr1 H1 hg ok1 g1 rz
theorem valN {f : List D → (List D → Prop) → Prop} (hf : RelN X.K r f) (ha : EL X EX es t wl) (Fr H : Hp) (σ : Sg) (ρ : List Sl) (ex : DX) (QV : D → List Sl → Prop) (Q : VK) (ok : Ok X.K Fr H σ ρ) (xl : XL X.K EX ex Fr H σ ρ) (hw : wCN f wl ex ρ QV)
    (k : ∀ (d : D) (ρ' : List Sl) (p : Addr) (Fr' H' : Hp), QV d ρ' → Ok X.K Fr' H' σ ρ' → Go Fr H σ ρ Fr' H' σ ρ' → H p = none → Fr' p = none → (∀ i, ¬ Owns σ ρ' i p) → OwnA X.K Fr' H' p d → Q (.ref p) H') : tCB r t σ H Q :=
  ha.val Fr H σ ρ ex _ _ ok xl hw fun ds ρ1 xs Fr1 H1 q1 ok1 g1 r1 => hf Fr1 H1 xs ds _ _ r1 ok1.ex q1 fun p ys zs hz hp ry => by
    obtain ⟨ok2, g2, hf', hn, z⟩ := new_lst ok1 hp ry
    exact k _ ρ1 p _ _ hz ok2 (g1.trans g2) (g1.dom p hp) hf' hn z
theorem ev_callB {f : FL} (hc : CallR X (.builtin id) r) (hf : RelC X.K r f) (hg : Gl X x) (hm : X.mg x = none) (hv : bootBuiltins x = some (.builtin id)) (ha : EL X EX (e :: es) t wl) (hn : x ≠ "__name__" := by decide) (hdb : (x == ("__debug__" : Str)) = false := by decide)
    (he : starEach (e :: es) X.env = (false, eval e X.env) :: starEach es X.env := by rfl) (hpl : (backTo pos (starEach es X.env)).any (·.1) = false := by rfl) : EV X EX (.Call (.Name x p) (e :: es) [] pos) (tCB r t) (wCB f wl) :=
  ⟨pe_callB hc hg hm hv ha.pa hn hdb he hpl, valC hf ha⟩
theorem ev_callTy {f : FL} (hc : CallR X (.type T) r) (hf : RelC X.K r f) (hg : Gl X x) (hm : X.mg x = none) (hv : bootBuiltins x = some (.type T)) (ha : EL X EX (e :: es) t wl) (hn : x ≠ "__name__" := by decide) (hdb : (x == ("__debug__" : Str)) = false := by decide)
    (he : starEach (e :: es) X.env = (false, eval e X.env) :: starEach es X.env := by rfl) (hpl : (backTo pos (starEach es X.env)).any (·.1) = false := by rfl) : EV X EX (.Call (.Name x p) (e :: es) [] pos) (tCB r t) (wCB f wl) :=
  ⟨pe_callTy hc hg hm hv ha.pa hn hdb he hpl, valC hf ha⟩
theorem eo_callB {f : List D → (List D → Prop) → Prop} (hc : CallR X (.builtin id) r) (hf : RelN X.K r f) (hg : Gl X x) (hm : X.mg x = none) (hv : bootBuiltins x = some (.builtin id)) (ha : EL X EX (e :: es) t wl) (hn : x ≠ "__name__" := by decide) (hdb : (x == ("__debug__" : Str)) = false := by decide)
    (he : starEach (e :: es) X.env = (false, eval e X.env) :: starEach es X.env := by rfl) (hpl : (backTo pos (starEach es X.env)).any (·.1) = false := by rfl) : EO X EX (.Call (.Name x p) (e :: es) [] pos) (tCB r t) (wCN f wl) :=
  ⟨pe_callB hc hg hm hv ha.pa hn hdb he hpl, valN hf ha⟩
theorem eo_callTy {f : List D → (List D → Prop) → Prop} (hc : CallR X (.type T) r) (hf : RelN X.K r f) (hg : Gl X x) (hm : X.mg x = none) (hv : bootBuiltins x = some (.type T)) (ha : EL X EX (e :: es) t wl) (hn : x ≠ "__name__" := by decide) (hdb : (x == ("__debug__" : Str)) = false := by decide)
    (he : starEach (e :: es) X.env = (false, eval e X.env) :: starEach es X.env := by rfl) (hpl : (backTo pos (starEach es X.env)).any (·.1) = false := by rfl) : EO X EX (.Call (.Name x p) (e :: es) [] pos) (tCB r t) (wCN f wl) :=
  ⟨pe_callTy hc hg hm hv ha.pa hn hdb he hpl, valN hf ha⟩
end
def lenD : D → Option Nat
  | .str z => if z.length ≤ sizeLine then some z.length else none
  | .lst ds => some ds.length
  | .tup ds => some ds.length
  | .scr ns => some ns.length
  | _ => none
def fLen : FL := fun ds P => match ds with
  | [d] => ∃ n, lenD d = some n ∧ P (.int n)
  | _ => False
abbrev rrLen (K : PySem.W.Frag) : List V → Hp → VK → Prop := fun xs H Q => ∃ x n, xs = [x] ∧ LenV K x H n ∧ Q (.int n) H
theorem one_rep {K : PySem.W.Frag} {Fr : Hp} {xs : List V} {ds : List D} (r : Reps K Fr xs ds) {d : D} (h : ds = [d]) : ∃ x, xs = [x] ∧ Rep K Fr x d := by
  subst h
  cases r with
  | cons r1 r2 => cases r2; exact ⟨_, rfl, r1⟩
theorem two_rep {K : PySem.W.Frag} {Fr : Hp} {xs : List V} {ds : List D} (r : Reps K Fr xs ds) {d e : D} (h : ds = [d, e]) : ∃ x y, xs = [x, y] ∧ Rep K Fr x d ∧ Rep K Fr y e := by
  subst h
  cases r with
  | cons r1 r2 =>
    cases r2 with
    | cons r3 r4 => cases r4; exact ⟨_, _, rfl, r1, r3⟩
theorem len_rep {K : PySem.W.Frag} {Fr H : Hp} {x : V} {d : D} {n : Nat} (r : Rep K Fr x d) (s : Same Fr H) (h : lenD d = some n) : LenV K x H n := by
  cases r with
  | str z =>
    have h : (if z.length ≤ sizeLine then some z.length else none) = some n := h
    by_cases hl : z.length ≤ sizeLine
    · rw [if_pos hl] at h; cases h; exact ⟨hl, rfl⟩
    · rw [if_neg hl] at h; cases h
  | lst hx r => cases h; exact .inl ⟨_, s.seq (SqL.of hx), by rw [r.length]⟩
  | tup hx r => cases h; exact .inr ⟨_, same_t s hx, by rw [r.length]⟩
  | scr hx => cases h; exact .inl ⟨_, s.seq hx, by rw [List.length_map]⟩
  | _ => cases h
theorem rel_Len {K : PySem.W.Frag} : RelC K (rrLen K) fLen := by
  intro Fr H xs ds P Q r s h k
  unfold fLen at h
  split at h
  · rename_i d
    obtain ⟨x, rfl, rx⟩ := one_rep r rfl
    obtain ⟨n, hn, h⟩ := h
    exact ⟨_, _, rfl, len_rep rx s hn, k _ _ h (.int n)⟩
  · exact h.elim
/-- int(x) of an int | a bool -/
def fInt : FL := fun ds P => match ds with
  | [.int i] => P (.int i)
  | [.bl b] => P (.int (if b then 1 else 0))
  | _ => False
abbrev rrInt : List V → Hp → VK → Prop := fun xs H Q => (∃ i, xs = [.int i] ∧ Q (.int i) H) ∨ ∃ k, xs = [.bl k] ∧ Q (.int (if k then 1 else 0)) H
theorem rel_Int {K : PySem.W.Frag} : RelC K rrInt fInt := by
  intro Fr H xs ds P Q r s h k
  unfold fInt at h
  split at h
  · rename_i i
    obtain ⟨x, rfl, rx⟩ := one_rep r rfl
    cases rx
    exact .inl ⟨i, rfl, k _ _ h (.int _)⟩
  · rename_i b
    obtain ⟨x, rfl, rx⟩ := one_rep r rfl
    cases rx
    exact .inr ⟨b, rfl, k _ _ h (.int _)⟩
  · exact h.elim
def fAbs : FL := fun ds P => match ds with
  | [.int i] => P (.int (if i < 0 then -i else i))
  | _ => False
abbrev rrAbs : List V → Hp → VK → Prop := fun xs H Q => ∃ i, xs = [.int i] ∧ Q (.int (if i < 0 then -i else i)) H
theorem rel_Abs {K : PySem.W.Frag} : RelC K rrAbs fAbs := by
  intro Fr H xs ds P Q r s h k
  unfold fAbs at h
  split at h
  · rename_i i
    obtain ⟨x, rfl, rx⟩ := one_rep r rfl
    cases rx
    exact ⟨i, rfl, k _ _ h (.int _)⟩
  · exact h.elim
def fMax2 : FL := fun ds P => match ds with
  | [.int i, .int j] => P (.int (if j > i then j else i))
  | _ => False
abbrev rrMax2 : List V → Hp → VK → Prop := fun xs H Q => ∃ i j, xs = [.int i, .int j] ∧ Q (.int (if j > i then j else i)) H
theorem rel_Max2 {K : PySem.W.Frag} : RelC K rrMax2 fMax2 := by
  intro Fr H xs ds P Q r s h k
  unfold fMax2 at h
  split at h
  · rename_i i j
    obtain ⟨x, y, rfl, rx, ry⟩ := two_rep r rfl
    cases rx
    cases ry
    exact ⟨i, j, rfl, k _ _ h (.int _)⟩
  · exact h.elim
def fMin2 : FL := fun ds P => match ds with
  | [.int i, .int j] => P (.int (if j < i then j else i))
  | _ => False
abbrev rrMin2 : List V → Hp → VK → Prop := fun xs H Q => ∃ i j, xs = [.int i, .int j] ∧ Q (.int (if j < i then j else i)) H
theorem rel_Min2 {K : PySem.W.Frag} : RelC K rrMin2 fMin2 := by
  intro Fr H xs ds P Q r s h k
  unfold fMin2 at h
  split at h
  · rename_i i j
    obtain ⟨x, y, rfl, rx, ry⟩ := two_rep r rfl
    cases rx
    cases ry
    exact ⟨i, j, rfl, k _ _ h (.int _)⟩
  · exact h.elim
/-- str(n) -/
def fStrI : FL := fun ds P => match ds with
  | [.int i] => i.natAbs.log2 < 1920 ∧ P (.str (toString i))
  | _ => False
abbrev rrStrI : List V → Hp → VK → Prop := fun xs H Q => ∃ i, xs = [.int i] ∧ i.natAbs.log2 < 1920 ∧ Q (.str (toString i)) H
theorem rel_StrI {K : PySem.W.Frag} : RelC K rrStrI fStrI := by
  intro Fr H xs ds P Q r s h k
  unfold fStrI at h
  split at h
  · rename_i i
    obtain ⟨x, rfl, rx⟩ := one_rep r rfl
    cases rx
    exact ⟨i, rfl, h.1, k _ _ h.2 (.str _)⟩
  · exact h.elim
/-- list(x) of a list | a tuple -/
def fList : List D → (List D → Prop) → Prop := fun ds P => match ds with
  | [d] => ∃ es, seqD d = some es ∧ P es
  | _ => False
abbrev rrList (K : PySem.W.Frag) : List V → Hp → VK → Prop := fun xs H Q => ∃ p ys, xs = [.ref p] ∧ (SqL K H p ys ∨ SqT K H p ys) ∧ ∀ l, H l = none → Q (.ref l) (upd H l (.lst ys))
theorem rel_List {K : PySem.W.Frag} : RelN K (rrList K) fList := by
  intro Fr H xs ds P Q r s h k
  unfold fList at h
  split at h
  · rename_i d
    obtain ⟨x, rfl, rx⟩ := one_rep r rfl
    obtain ⟨es, he, h⟩ := h
    cases rx with
    | lst hx r2 => cases he; exact ⟨_, _, rfl, .inl (s.seq (SqL.of hx)), fun l hl => k l _ _ h hl r2⟩
    | tup hx r2 => cases he; exact ⟨_, _, rfl, .inr (same_t s hx), fun l hl => k l _ _ h hl r2⟩
    | _ => cases he
  · exact h.elim
/-! ### all, any of a list of truth values -/
def blsD : List D → Option (List Bool)
  | [] => some []
  | .bl b :: ds => (blsD ds).map (b :: ·)
  | _ :: _ => none
theorem bls_ok {K : PySem.W.Frag} {Fr : Hp} : ∀ {xs : List V} {ds : List D} {bs : List Bool}, Reps K Fr xs ds → blsD ds = some bs → xs = bs.map V.bl
  | _, _, bs, .nil, h => by cases h; rfl
  | _, _, bs, .cons r t, h => by
    cases r with
    | bl b =>
      obtain ⟨bs', h1, rfl⟩ := Option.map_eq_some_iff.mp h
      rw [bls_ok t h1]; rfl
    | _ => cases h
def fAll : FL := fun ds P => match ds with
  | [.lst es] => ∃ bs, blsD es = some bs ∧ P (.bl (bs.all id))
  | _ => False
def fAny : FL := fun ds P => match ds with
  | [.lst es] => ∃ bs, blsD es = some bs ∧ P (.bl (bs.any id))
  | _ => False
theorem rel_All {K : PySem.W.Frag} : RelC K (rAll K) fAll := by
  intro Fr H xs ds P Q r s h k
  unfold fAll at h
  split at h
  · rename_i es
    obtain ⟨x, rfl, rx⟩ := one_rep r rfl
    cases rx with
    | lst hx r =>
      obtain ⟨bs, hb, h⟩ := h
      have e := bls_ok r hb
      subst e
      exact ⟨_, bs, rfl, s.seq (SqL.of hx), k _ _ h (.bl _)⟩
  · exact h.elim
theorem rel_Any {K : PySem.W.Frag} : RelC K (rAny K) fAny := by
  intro Fr H xs ds P Q r s h k
  unfold fAny at h
  split at h
  · rename_i es
    obtain ⟨x, rfl, rx⟩ := one_rep r rfl
    cases rx with
    | lst hx r =>
      obtain ⟨bs, hb, h⟩ := h
      have e := bls_ok r hb
      subst e
      exact ⟨_, bs, rfl, s.seq (SqL.of hx), k _ _ h (.bl _)⟩
  · exact h.elim
/-! ### isinstance(x, T) -/
def D.tyn : D → Option String
  | .non => some "NoneType"
  | .bl _ => some "bool"
  | .int _ => some "int"
  | .str _ => some "str"
  | .tup _ => some "tuple"
  | .lst _ => some "list"
  | .dct _ _ => some "dict"
  | _ => none
theorem tyn_ok {K : PySem.W.Frag} {Fr H : Hp} {x : V} {d : D} {n : String} (r : Rep K Fr x d) (s : Same Fr H) (h : d.tyn = some n) : TyX K H x (.type n) := by
  cases r with
  | non => cases h; exact .base .non
  | bl b => cases h; exact .base (.bl b)
  | int i => cases h; exact .base (.int i)
  | str z => cases h; exact .base (.str z)
  | lst hx _ => cases h; exact .base (.lst (s _ _ hx))
  | tup hx _ =>
    cases h
    rcases same_t s hx with (h | ⟨o, h⟩) | ⟨o, its, m, hk, hc, _⟩
    · exact .base (.tup h)
    · exact .fTuple h
    · exact .kTuple hk hc
  | dct hx _ _ => cases h; exact .base (.dK (s _ _ hx))
  | _ => cases h
def fIsi : FL := fun ds P => match ds with
  | [d, .ty n] => ∃ b, (d.tyn.bind fun m => kitB m n) = some b ∧ P (.bl b)
  | _ => False
theorem rel_Isi {K : PySem.W.Frag} : RelC K (rIsi K) fIsi := by
  intro Fr H xs ds P Q r s h k
  unfold fIsi at h
  split at h
  · rename_i d n
    obtain ⟨x, y, rfl, rx, ry⟩ := two_rep r rfl
    cases ry
    obtain ⟨b, hb, h⟩ := h
    obtain ⟨m, h1, h2⟩ := Option.bind_eq_some_iff.mp hb
    exact ⟨x, .ty n, .type m, .type n, b, rfl, .ty n, tyn_ok rx s h1, kit_ty h2, k _ _ h (.bl b)⟩
  · exact h.elim
/-! ### methods of a text with one argument -/
abbrev rM1 (r : V → List V → Hp → VK → Prop) : R2 := fun x y H Q => (∃ a, x = .str a) ∧ r x [y] H Q
end DL

set_option Elab.async false
set_option linter.all false
set_option autoImplicit false
set_option maxRecDepth 100000
set_option maxHeartbeats 1000000
/-! DL, part 4: what is walked (EI), targets (EG), list comprehensions. -/
namespace DL
open PySem PySem.Spec PyProof.Rows L2

/-! ### what is walked -/
/-- the walk yields this data, as long as what is known stays -/
structure Yields (K : PySem.W.Frag) (Fr : Hp) (J : It) (ds : List D) : Prop where
  go : ∀ (i : Nat) (H : Hp), Same Fr H → i < ds.length → J.go i H
  stop : ∀ H : Hp, Same Fr H → J.stop ds.length H
  yld : ∀ (i : Nat) (H H' : Hp) (x : V) (d : D), Same Fr H → ds[i]? = some d → J.yld i H x H' →
    (H' = H ∧ Rep K Fr x d) ∨ ∃ T xs es, x = .ref T ∧ H T = none ∧ H' = upd H T (.tup xs) ∧ d = .tup es ∧ Reps K Fr xs es
theorem Yields.item {K : PySem.W.Frag} {Fr Fr1 H H' : Hp} {J : It} {ds : List D} {σ : Sg} {ρ : List Sl} {i : Nat} {x : V} {d : D} (y : Yields K Fr J ds) (ok : Ok K Fr1 H σ ρ) (fr : Same Fr Fr1) (hd : ds[i]? = some d) (h : J.yld i H x H') :
    ∃ Fr2, Ok K Fr2 H' σ ρ ∧ Go Fr1 H σ ρ Fr2 H' σ ρ ∧ Rep K Fr2 x d := by
  rcases y.yld i H H' x d (fr.trans ok.ex) hd h with ⟨rfl, r⟩ | ⟨T, xs, es, rfl, hT, rfl, rfl, r⟩
  · exact ⟨Fr1, ok, Go.refl _ _ _ _, r.mono fr⟩
  · obtain ⟨ok2, g2⟩ := ok.addFr (o := .tup xs) hT
    exact ⟨_, ok2, g2, .tup (SqT.of upd_same) ((r.mono fr).mono g2.fr)⟩
abbrev WI := DX → List Sl → (List D → List Sl → Prop) → Prop
structure EI (X : Cx) (EX : XK) (tg iter : Expr) (wi : TI) (w : WI) : Prop where
  pi : PI X tg iter wi
  val : ∀ (Fr H : Hp) (σ : Sg) (ρ : List Sl) (ex : DX) (QV : List D → List Sl → Prop) (R : It → Hp → Prop), Ok X.K Fr H σ ρ → XL X.K EX ex Fr H σ ρ → w ex ρ QV →
    (∀ (ds : List D) (ρ' : List Sl) (J : It) (Fr' H' : Hp), QV ds ρ' → Ok X.K Fr' H' σ ρ' → Go Fr H σ ρ Fr' H' σ ρ' → Yields X.K Fr' J ds → R J H') → wi σ H R
theorem yields_list {K : PySem.W.Frag} {Fr : Hp} {a : Addr} {xs : List V} {ds : List D} (h : SqL K Fr a xs) (r : Reps K Fr xs ds) : Yields K Fr (Itl K a) ds where
  go := fun i H s hi => by
    have hx : i < xs.length := by rw [r.length]; exact hi
    exact ⟨xs, xs[i], s.seq h, List.getElem?_eq_getElem hx⟩
  stop := fun H s => ⟨xs, s.seq h, by rw [r.length]; exact Nat.le_refl _⟩
  yld := fun i H H' x d s hd y => by
    obtain ⟨rfl, y⟩ := y
    obtain ⟨z, hz, rz⟩ := r.get hd
    have := y xs (s.seq h)
    rw [hz] at this; cases this
    exact .inl ⟨rfl, rz⟩
theorem yields_tup {K : PySem.W.Frag} {Fr : Hp} {a : Addr} {xs : List V} {ds : List D} (h : SqT K Fr a xs) (r : Reps K Fr xs ds) : Yields K Fr (Itt K a) ds where
  go := fun i H s hi => by
    have hx : i < xs.length := by rw [r.length]; exact hi
    exact ⟨xs, xs[i], same_t s h, List.getElem?_eq_getElem hx⟩
  stop := fun H s => ⟨xs, same_t s h, by rw [r.length]; exact Nat.le_refl _⟩
  yld := fun i H H' x d s hd y => by
    obtain ⟨rfl, y⟩ := y
    obtain ⟨z, hz, rz⟩ := r.get hd
    have := y xs (same_t s h)
    rw [hz] at this; cases this
    exact .inl ⟨rfl, rz⟩
def rngD (lo : Int) (n : Nat) : List D := (List.range n).map fun i => .int (lo + (i : Nat))
theorem rngD_length (lo : Int) (n : Nat) : (rngD lo n).length = n := by unfold rngD; rw [List.length_map, List.length_range]
theorem yields_rng {K : PySem.W.Frag} {Fr : Hp} {lo : Int} {n : Nat} : Yields K Fr (Itr lo n) (rngD lo n) where
  go := fun i H s hi => by rw [rngD_length] at hi; exact hi
  stop := fun H s => by rw [rngD_length]; exact Nat.le_refl n
  yld := fun i H H' x d s hd y => by
    obtain ⟨rfl, rfl⟩ := y
    unfold rngD at hd
    rw [List.getElem?_map] at hd
    obtain ⟨j, hj, rfl⟩ := Option.map_eq_some_iff.mp hd
    have hl := (List.getElem?_eq_some_iff.mp hj)
    obtain ⟨h1, h2⟩ := hl
    rw [List.getElem_range] at h2
    subst h2
    exact .inl ⟨rfl, .int _⟩
/-- the signs of a text -/
def sgnD (z : Str) : List D := z.cps.toList.map fun c => .str ⟨#[c]⟩
theorem yields_str {K : PySem.W.Frag} {Fr : Hp} {z : Str} : Yields K Fr (Its z) (sgnD z) where
  go := fun i H s hi => by
    unfold sgnD at hi
    rw [List.length_map, Array.length_toList] at hi
    exact hi
  stop := fun H s => by
    unfold sgnD
    rw [List.length_map, Array.length_toList]
    exact Nat.le_refl z.cps.size
  yld := fun i H H' x d s hd y => by
    obtain ⟨rfl, c, hc, rfl⟩ := y
    unfold sgnD at hd
    rw [List.getElem?_map] at hd
    obtain ⟨j, hj, rfl⟩ := Option.map_eq_some_iff.mp hd
    rw [Array.getElem?_toList, hc] at hj
    cases hj
    exact .inl ⟨rfl, .str _⟩
def enuD : Nat → List D → List D
  | _, [] => []
  | i, d :: ds => .tup [.int (i : Nat), d] :: enuD (i + 1) ds
theorem enuD_get : ∀ (ds : List D) (k i : Nat), (enuD k ds)[i]? = (ds[i]?).map fun d => .tup [.int ((k + i : Nat) : Int), d]
  | [], k, i => by simp [enuD]
  | d :: ds, k, 0 => by simp [enuD]
  | d :: ds, k, i + 1 => by
    unfold enuD
    rw [List.getElem?_cons_succ, List.getElem?_cons_succ, enuD_get ds (k + 1) i, show k + 1 + i = k + (i + 1) from by omega]
theorem enuD_length : ∀ (ds : List D) (k : Nat), (enuD k ds).length = ds.length
  | [], _ => rfl
  | d :: ds, k => by unfold enuD; rw [List.length_cons, List.length_cons, enuD_length ds]
theorem yields_enu {K : PySem.W.Frag} {Fr : Hp} {a : Addr} {xs : List V} {ds : List D} (h : SqL K Fr a xs) (r : Reps K Fr xs ds) : Yields K Fr (Ite K a) (enuD 0 ds) where
  go := fun i H s hi => by
    rw [enuD_length] at hi
    have hx : i < xs.length := by rw [r.length]; exact hi
    exact ⟨xs, xs[i], s.seq h, List.getElem?_eq_getElem hx⟩
  stop := fun H s => ⟨xs, s.seq h, by rw [r.length, enuD_length]; exact Nat.le_refl _⟩
  yld := fun i H H' x d s hd y => by
    obtain ⟨T, z, rfl, hT, rfl, y⟩ := y
    rw [enuD_get] at hd
    obtain ⟨e, he, rfl⟩ := Option.map_eq_some_iff.mp hd
    obtain ⟨z', hz, rz⟩ := r.get he
    have := y xs (s.seq h)
    rw [hz] at this; cases this
    exact .inr ⟨T, _, _, rfl, hT, rfl, rfl, .cons (by rw [Nat.zero_add]; exact .int _) (.cons rz .nil)⟩
def zipD : List D → List D → List D
  | d :: ds, e :: es => .tup [d, e] :: zipD ds es
  | _, _ => []
theorem zipD_get : ∀ (ds es : List D) (i : Nat) (g : D), (zipD ds es)[i]? = some g → ∃ d e, ds[i]? = some d ∧ es[i]? = some e ∧ g = .tup [d, e]
  | [], es, i, g, h => by unfold zipD at h; simp at h
  | d :: ds, [], i, g, h => by unfold zipD at h; simp at h
  | d :: ds, e :: es, 0, g, h => by unfold zipD at h; simp at h; exact ⟨d, e, rfl, rfl, h.symm⟩
  | d :: ds, e :: es, i + 1, g, h => by
    unfold zipD at h
    rw [List.getElem?_cons_succ] at h
    obtain ⟨d', e', h1, h2, h3⟩ := zipD_get ds es i g h
    exact ⟨d', e', by rw [List.getElem?_cons_succ]; exact h1, by rw [List.getElem?_cons_succ]; exact h2, h3⟩
theorem zipD_length : ∀ ds es : List D, (zipD ds es).length = min ds.length es.length
  | [], es => by unfold zipD; simp
  | d :: ds, [] => by unfold zipD; simp
  | d :: ds, e :: es => by unfold zipD; rw [List.length_cons, zipD_length ds es, List.length_cons, List.length_cons]; omega
theorem yields_zip {K : PySem.W.Frag} {Fr : Hp} {a b : Addr} {xs ys : List V} {ds es : List D} (h : SqL K Fr a xs) (r : Reps K Fr xs ds) (h2 : SqL K Fr b ys) (r2 : Reps K Fr ys es) : Yields K Fr (Itz K a b) (zipD ds es) where
  go := fun i H s hi => by
    rw [zipD_length] at hi
    have hx : i < xs.length := by rw [r.length]; omega
    have hy : i < ys.length := by rw [r2.length]; omega
    exact ⟨xs, ys, xs[i], ys[i], s.seq h, s.seq h2, List.getElem?_eq_getElem hx, List.getElem?_eq_getElem hy⟩
  stop := fun H s => ⟨xs, ys, s.seq h, s.seq h2, by rw [r.length, r2.length, zipD_length]; omega⟩
  yld := fun i H H' x d s hd y => by
    obtain ⟨T, u, v, rfl, hT, rfl, y1, y2⟩ := y
    obtain ⟨e1, e2, h3, h4, rfl⟩ := zipD_get _ _ _ _ hd
    obtain ⟨z, hz, rz⟩ := r.get h3
    obtain ⟨z2, hz2, rz2⟩ := r2.get h4
    have q1 := y1 xs (s.seq h)
    have q2 := y2 ys (s.seq h2)
    rw [hz] at q1; cases q1
    rw [hz2] at q2; cases q2
    exact .inr ⟨T, _, _, rfl, hT, rfl, rfl, .cons rz (.cons rz2 .nil)⟩
theorem yields_zipT {K : PySem.W.Frag} {Fr : Hp} {a b : Addr} {xs ys : List V} {ds es : List D} (h : SqT K Fr a xs) (r : Reps K Fr xs ds) (h2 : SqT K Fr b ys) (r2 : Reps K Fr ys es) : Yields K Fr (RZ.ItzT K a b) (zipD ds es) where
  go := fun i H s hi => by
    rw [zipD_length] at hi
    have hx : i < xs.length := by rw [r.length]; omega
    have hy : i < ys.length := by rw [r2.length]; omega
    exact ⟨xs, ys, xs[i], ys[i], same_t s h, same_t s h2, List.getElem?_eq_getElem hx, List.getElem?_eq_getElem hy⟩
  stop := fun H s => ⟨xs, ys, same_t s h, same_t s h2, by rw [r.length, r2.length, zipD_length]; omega⟩
  yld := fun i H H' x d s hd y => by
    obtain ⟨T, u, v, rfl, hT, rfl, y1, y2⟩ := y
    obtain ⟨e1, e2, h3, h4, rfl⟩ := zipD_get _ _ _ _ hd
    obtain ⟨z, hz, rz⟩ := r.get h3
    obtain ⟨z2, hz2, rz2⟩ := r2.get h4
    have q1 := y1 xs (same_t s h)
    have q2 := y2 ys (same_t s h2)
    rw [hz] at q1; cases q1
    rw [hz2] at q2; cases q2
    exact .inr ⟨T, _, _, rfl, hT, rfl, rfl, .cons rz (.cons rz2 .nil)⟩

def wiLst (w : WV) : WI := fun ex ρ Q => w ex ρ fun d ρ1 => match d with
  | .lst ds => Q ds ρ1
  | _ => False
def wiTup (w : WV) : WI := fun ex ρ Q => w ex ρ fun d ρ1 => match d with
  | .tup ds => Q ds ρ1
  | _ => False
def wiStr (w : WV) : WI := fun ex ρ Q => w ex ρ fun d ρ1 => match d with
  | .str z => Q (sgnD z) ρ1
  | _ => False
def wiRng1 (w : WV) : WI := fun ex ρ Q => w ex ρ fun d ρ1 => match d with
  | .int j => -(2 ^ 62) ≤ j ∧ j < 2 ^ 62 ∧ Q (rngD 0 j.toNat) ρ1
  | _ => False
def wiRng2 (w w2 : WV) : WI := fun ex ρ Q => w ex ρ fun d ρ1 => w2 ex ρ1 fun e ρ2 => match d, e with
  | .int i, .int j => (-(2 ^ 62) ≤ i ∧ i < 2 ^ 62 ∧ -(2 ^ 62) ≤ j ∧ j < 2 ^ 62) ∧ Q (rngD i (j - i).toNat) ρ2
  | _, _ => False
def wiEnu (w : WV) : WI := fun ex ρ Q => w ex ρ fun d ρ1 => match d with
  | .lst ds => Q (enuD 0 ds) ρ1
  | _ => False
def wiZip (w w2 : WV) : WI := fun ex ρ Q => w ex ρ fun d ρ1 => w2 ex ρ1 fun e ρ2 => match d, e with
  | .lst ds, .lst es => Q (zipD ds es) ρ2
  | .tup ds, .tup es => Q (zipD ds es) ρ2
  | _, _ => False
section
variable {X : Cx} {EX : XK} {tg e a b : Expr} {te ta tb : TE} {w wa wb : WV}
theorem ei_lst (h : EV X EX e te w) {K : PySem.W.Frag} (hK : X.K = K := by rfl) : EI X EX tg e (iList K te) (wiLst w) := by
  subst hK
  exact ⟨pi_list h.pe, fun Fr H σ ρ ex QV R ok xl hw k =>
  h.val Fr H σ ρ ex _ _ ok xl hw fun d ρ1 x Fr1 H1 q1 ok1 g1 r1 => by
    cases r1 with
    | lst hx r => exact ⟨_, rfl, ⟨_, ok1.ex.seq (SqL.of hx)⟩, k _ ρ1 _ Fr1 H1 q1 ok1 g1 (yields_list (SqL.of hx) r)⟩
    | _ => exact (show False from q1).elim⟩
theorem ei_tup (h : EV X EX e te w) {K : PySem.W.Frag} (hK : X.K = K := by rfl) : EI X EX tg e (iTup K te) (wiTup w) := by
  subst hK
  exact ⟨pi_tup h.pe, fun Fr H σ ρ ex QV R ok xl hw k =>
  h.val Fr H σ ρ ex _ _ ok xl hw fun d ρ1 x Fr1 H1 q1 ok1 g1 r1 => by
    cases r1 with
    | tup hx r => exact ⟨_, rfl, ⟨_, same_t ok1.ex hx⟩, k _ ρ1 _ Fr1 H1 q1 ok1 g1 (yields_tup hx r)⟩
    | _ => exact (show False from q1).elim⟩
theorem ei_str (h : EV X EX e te w) : EI X EX tg e (iStr te) (wiStr w) := ⟨pi_str h.pe, fun Fr H σ ρ ex QV R ok xl hw k =>
  h.val Fr H σ ρ ex _ _ ok xl hw fun d ρ1 x Fr1 H1 q1 ok1 g1 r1 => by
    cases r1 with
    | str z => exact ⟨z, rfl, k _ ρ1 _ Fr1 H1 q1 ok1 g1 yields_str⟩
    | _ => exact (show False from q1).elim⟩
theorem ei_rng1 {p pos : Pos} (hg : Gl X "range") (hm : X.mg "range" = none) (ha : EV X EX a ta wa) (hs : starEach [a] X.env = [(false, eval a X.env)] := by rfl) : EI X EX tg (.Call (.Name "range" p) [a] [] pos) (iRng1 (tCons ta tNil)) (wiRng1 wa) :=
  ⟨pi_range1 hg hm (pa_cons ha.pe pa_nil hs) hs, fun Fr H σ ρ ex QV R ok xl hw k => ha.val Fr H σ ρ ex _ _ ok xl hw fun d ρ1 x Fr1 H1 q1 ok1 g1 r1 => by
    cases r1 with
    | int j => exact ⟨j, rfl, q1.1, q1.2.1, k _ ρ1 _ Fr1 H1 q1.2.2 ok1 g1 yields_rng⟩
    | _ => exact (show False from q1).elim⟩
theorem ei_rng2 {p pos : Pos} (hg : Gl X "range") (hm : X.mg "range" = none) (ha : EV X EX a ta wa) (hb : EV X EX b tb wb) (hs : starEach [a, b] X.env = [(false, eval a X.env), (false, eval b X.env)] := by rfl) (hs2 : starEach [b] X.env = [(false, eval b X.env)] := by rfl) :
    EI X EX tg (.Call (.Name "range" p) [a, b] [] pos) (iRng2 (tCons ta (tCons tb tNil))) (wiRng2 wa wb) :=
  ⟨pi_range2 hg hm (pa_cons ha.pe (pa_cons hb.pe pa_nil hs2) (by rw [hs, hs2])) hs hs2, fun Fr H σ ρ ex QV R ok xl hw k => ha.val Fr H σ ρ ex _ _ ok xl hw fun d ρ1 x Fr1 H1 q1 ok1 g1 r1 =>
    hb.val Fr1 H1 σ ρ1 ex _ _ ok1 (xl.go g1) q1 fun e ρ2 y Fr2 H2 q2 ok2 g2 r2 => by
    cases r1 with
    | int i =>
      cases r2 with
      | int j => exact ⟨i, j, rfl, q2.1, k _ ρ2 _ Fr2 H2 q2.2 ok2 (g1.trans g2) yields_rng⟩
      | _ => exact (show False from q2).elim
    | _ => exact (show False from q2).elim⟩
theorem ei_enu {elts : List Expr} {kk : Nat} {p pos tpos : Pos} (hg : Gl X "enumerate") (hm : X.mg "enumerate" = none) (ha : EV X EX e ta wa) (hs : starEach [e] X.env = [(false, eval e X.env)] := by rfl) {K : PySem.W.Frag} (hK : X.K = K := by rfl) :
    EI X EX (.Tuple elts kk tpos) (.Call (.Name "enumerate" p) [e] [] pos) (iEnum K (tCons ta tNil)) (wiEnu wa) := by
  subst hK
  exact ⟨pi_enum hg hm (pa_cons ha.pe pa_nil hs) hs, fun Fr H σ ρ ex QV R ok xl hw k => ha.val Fr H σ ρ ex _ _ ok xl hw fun d ρ1 x Fr1 H1 q1 ok1 g1 r1 => by
    cases r1 with
    | lst hx r => exact ⟨_, _, rfl, ok1.ex.seq (SqL.of hx), k _ ρ1 _ Fr1 H1 q1 ok1 g1 (yields_enu (SqL.of hx) r)⟩
    | _ => exact (show False from q1).elim⟩
theorem ei_zip {elts : List Expr} {kk : Nat} {p pos tpos : Pos} (hg : Gl X "zip") (hm : X.mg "zip" = none) (ha : EV X EX a ta wa) (hb : EV X EX b tb wb)
    (hs : starEach [a, b] X.env = (false, eval a X.env) :: starEach [b] X.env := by rfl) (hs2 : starEach [b] X.env = (false, eval b X.env) :: starEach [] X.env := by rfl) (hpl : (backTo pos (starEach [b] X.env)).any (·.1) = false := by rfl) {K : PySem.W.Frag} (hK : X.K = K := by rfl) :
    EI X EX (.Tuple elts kk tpos) (.Call (.Name "zip" p) [a, b] [] pos) (RZ.iZipA K (tCons ta (tCons tb tNil))) (wiZip wa wb) := by
  subst hK
  exact ⟨RZ.pi_zipA hg hm (pa_cons ha.pe (pa_cons hb.pe pa_nil hs2) hs) hs hpl, fun Fr H σ ρ ex QV R ok xl hw k => ha.val Fr H σ ρ ex _ _ ok xl hw fun d ρ1 x Fr1 H1 q1 ok1 g1 r1 =>
    hb.val Fr1 H1 σ ρ1 ex _ _ ok1 (xl.go g1) q1 fun e ρ2 y Fr2 H2 q2 ok2 g2 r2 => by
    have r1 := r1.mono g2.fr
    cases r1 with
    | lst hx r =>
      cases r2 with
      | lst hy r' => exact ⟨_, _, _, _, rfl, .inl ⟨ok2.ex.seq (SqL.of hx), ok2.ex.seq (SqL.of hy), k _ ρ2 _ Fr2 H2 q2 ok2 (g1.trans g2) (yields_zip (SqL.of hx) r (SqL.of hy) r')⟩⟩
      | _ => exact (show False from q2).elim
    | tup hx r =>
      cases r2 with
      | tup hy r' => exact ⟨_, _, _, _, rfl, .inr ⟨same_t ok2.ex hx, same_t ok2.ex hy, k _ ρ2 _ Fr2 H2 q2 ok2 (g1.trans g2) (yields_zipT hx r hy r')⟩⟩
      | _ => exact (show False from q2).elim
    | _ => exact (show False from q2).elim⟩
end

/-! ### targets -/
abbrev WG := D → List Sl → (List Sl → Prop) → Prop
abbrev WGs := List D → List Sl → (List Sl → Prop) → Prop
structure EG (X : Cx) (tg : Expr) (g : TG) (ws : List Nat) (w : WG) : Prop where
  pg : PG X tg g
  val : ∀ (Fr H : Hp) (σ : Sg) (ρ : List Sl) (x : V) (d : D) (QV : List Sl → Prop) (Q : Sg → Hp → Prop), Ok X.K Fr H σ ρ → Rep X.K Fr x d → w d ρ QV →
    (∀ (σ' : Sg) (ρ' : List Sl), QV ρ' → Ok X.K Fr H σ' ρ' → Go Fr H σ ρ Fr H σ' ρ' → σ'.length = σ.length → (∀ i, i ∉ ws → σ'[i]? = σ[i]?) → Q σ' H) → g x σ H Q
structure EGs (X : Cx) (ts : List Expr) (g : TGs) (ws : List Nat) (w : WGs) : Prop where
  pg : PGs X ts g
  val : ∀ (Fr H : Hp) (σ : Sg) (ρ : List Sl) (xs : List V) (ds : List D) (QV : List Sl → Prop) (Q : Sg → Hp → Prop), Ok X.K Fr H σ ρ → Reps X.K Fr xs ds → w ds ρ QV →
    (∀ (σ' : Sg) (ρ' : List Sl), QV ρ' → Ok X.K Fr H σ' ρ' → Go Fr H σ ρ Fr H σ' ρ' → σ'.length = σ.length → (∀ i, i ∉ ws → σ'[i]? = σ[i]?) → Q σ' H) → g xs σ H Q
/-- not lent -/
def Sl.nb : Sl → Bool
  | .un => true
  | .v _ => true
  | .o _ => true
  | .b _ => false
theorem nb_un : Sl.un.nb = true := rfl
theorem nb_v (d : D) : (Sl.v d).nb = true := rfl
theorem nb_o (d : D) : (Sl.o d).nb = true := rfl
/-- the slot may be overwritten -/
def free (ρ : List Sl) (i : Nat) : Bool := match ρ[i]? with
  | some s => s.nb
  | none => false
theorem free_ok {ρ : List Sl} {i : Nat} (h : free ρ i = true) : i < ρ.length ∧ ∀ d, ρ[i]? ≠ some (.b d) := by
  unfold free at h
  cases e : ρ[i]? with
  | none => rw [e] at h; cases h
  | some sl =>
    rw [e] at h
    refine ⟨(List.getElem?_eq_some_iff.mp e).1, fun d q => ?_⟩
    cases q
    cases h
def wName (i : Nat) : WG := fun d ρ Q => free ρ i = true ∧ Q (ρ.set i (.v d))
def wGTup (w : WGs) : WG := fun d ρ Q => match d with
  | .tup ds => w ds ρ Q
  | _ => False
def wGNil : WGs := fun ds ρ Q => match ds with
  | [] => Q ρ
  | _ => False
def wGCons (w : WG) (ws : WGs) : WGs := fun ds ρ Q => match ds with
  | d :: ds => w d ρ fun ρ1 => ws ds ρ1 Q
  | _ => False
section
variable {X : Cx} {pos : Pos}
theorem eg_name (i : Nat) {x : Str} (hN : X.N.Nodup) (hi : X.N[i]? = some x := by rfl) (hx : Loc X.env.scope x := by first | exact Or.inl rfl | exact Or.inr rfl) (hf : X.fn x = true ∨ X.env.scope.names.lookup x = some .local := by first | exact Or.inl rfl | exact Or.inr rfl) :
    EG X (.Name x pos) (gName i) [i] (wName i) := ⟨pg_name hN hi hx hf, fun Fr H σ ρ x d QV Q ok r hw k => by
  obtain ⟨hf, hw⟩ := hw
  obtain ⟨h1, h2⟩ := free_ok hf
  obtain ⟨ok2, g2⟩ := ok.setV h1 h2 r
  exact k _ _ hw ok2 g2 (List.length_set ..) fun j hj => List.getElem?_set_ne (by rintro rfl; exact hj List.mem_cons_self)⟩
theorem egs_nil : EGs X [] gNil [] wGNil := ⟨pgs_nil, fun Fr H σ ρ xs ds QV Q ok r hw k => by
  cases r with
  | nil => exact ⟨rfl, k σ ρ hw ok (Go.refl _ _ _ _) rfl fun _ _ => rfl⟩
  | cons _ _ => exact (show False from hw).elim⟩
theorem egs_cons {e : Expr} {es : List Expr} {g : TG} {gs : TGs} {v vs : List Nat} {w : WG} {ws : WGs} (h : EG X e g v w) (hr : EGs X es gs vs ws) (hs : (assignEach (e :: es) X.env).map (·.2) = assign e X.env :: (assignEach es X.env).map (·.2) := by rfl) :
    EGs X (e :: es) (gCons g gs) (v ++ vs) (wGCons w ws) := ⟨pgs_cons h.pg hr.pg hs, fun Fr H σ ρ xs ds QV Q ok r hw k => by
  cases r with
  | nil => exact (show False from hw).elim
  | cons r1 r2 => exact ⟨_, _, rfl, h.val Fr H σ ρ _ _ _ _ ok r1 hw fun σ1 ρ1 q1 ok1 g1 l1 o1 => hr.val Fr H σ1 ρ1 _ _ _ _ ok1 r2 q1 fun σ2 ρ2 q2 ok2 g2 l2 o2 =>
      k σ2 ρ2 q2 ok2 (g1.trans g2) (l2.trans l1) fun i hi => (o2 i fun z => hi (List.mem_append_right _ z)).trans (o1 i fun z => hi (List.mem_append_left _ z))⟩⟩
theorem eg_tup {es : List Expr} {kk n : Nat} {gs : TGs} {vs : List Nat} {ws : WGs} (hc : X.calm = true) (h : EGs X es gs vs ws) (hl : ∀ ds ρ Q, ws ds ρ Q → ds.length = n) (hn : (assignEach es X.env).length = n := by rfl) (hst : (assignEach es X.env).findIdx? (·.1) = none := by rfl) {K : PySem.W.Frag} (hK : X.K = K := by rfl) :
    EG X (.Tuple es kk pos) (gTup K n gs) vs (wGTup ws) := by
  subst hK
  exact ⟨pg_tup hc h.pg hn hst, fun Fr H σ ρ x d QV Q ok r hw k => by
  cases r with
  | tup hx r => exact ⟨_, _, rfl, same_t ok.ex hx, by rw [r.length]; exact hl _ _ _ hw, h.val Fr H σ ρ _ _ _ _ ok r hw k⟩
  | _ => exact (show False from hw).elim⟩
end

/-! ### the names of a block -/
def wipeR (ρ : List Sl) : List Nat → List Sl
  | [] => ρ
  | v :: vs => (wipeR ρ vs).set v .un
def rest (ρ0 ρ : List Sl) : List Nat → List Sl
  | [] => ρ
  | v :: vs => (rest ρ0 ρ vs).set v (ρ0.getD v .un)
def noOwn (ρ : List Sl) (vs : List Nat) : Bool := vs.all fun v => match ρ[v]? with
  | some .un => true
  | some (.v _) => true
  | _ => false
theorem wipeR_length (ρ : List Sl) : ∀ vs, (wipeR ρ vs).length = ρ.length
  | [] => rfl
  | v :: vs => by unfold wipeR; rw [List.length_set, wipeR_length ρ vs]
theorem rest_length (ρ0 ρ : List Sl) : ∀ vs, (rest ρ0 ρ vs).length = ρ.length
  | [] => rfl
  | v :: vs => by unfold rest; rw [List.length_set, rest_length ρ0 ρ vs]
theorem wipeR_get {ρ : List Sl} {j : Nat} {sl : Sl} : ∀ {vs : List Nat}, (wipeR ρ vs)[j]? = some sl → (j ∈ vs ∧ sl = .un) ∨ (j ∉ vs ∧ ρ[j]? = some sl)
  | [], h => .inr ⟨List.not_mem_nil, h⟩
  | v :: vs, h => by
    rcases get_set h with ⟨rfl, rfl, _⟩ | ⟨hne, h⟩
    · exact .inl ⟨List.mem_cons_self, rfl⟩
    · rcases wipeR_get h with ⟨h1, h2⟩ | ⟨h1, h2⟩
      · exact .inl ⟨List.mem_cons_of_mem _ h1, h2⟩
      · exact .inr ⟨fun z => (List.mem_cons.mp z).elim hne h1, h2⟩
theorem wipeR_out {ρ : List Sl} {j : Nat} : ∀ {vs : List Nat}, j ∉ vs → (wipeR ρ vs)[j]? = ρ[j]?
  | [], _ => rfl
  | v :: vs, h => by
    unfold wipeR
    rw [List.getElem?_set_ne (fun e => h (by rw [e]; exact List.mem_cons_self))]
    exact wipeR_out fun m => h (List.mem_cons_of_mem _ m)
theorem rest_get {ρ0 ρ : List Sl} {j : Nat} {sl : Sl} : ∀ {vs : List Nat}, (rest ρ0 ρ vs)[j]? = some sl → (j ∈ vs ∧ sl = ρ0.getD j .un) ∨ (j ∉ vs ∧ ρ[j]? = some sl)
  | [], h => .inr ⟨List.not_mem_nil, h⟩
  | v :: vs, h => by
    rcases get_set h with ⟨rfl, rfl, _⟩ | ⟨hne, h⟩
    · exact .inl ⟨List.mem_cons_self, rfl⟩
    · rcases rest_get h with ⟨h1, h2⟩ | ⟨h1, h2⟩
      · exact .inl ⟨List.mem_cons_of_mem _ h1, h2⟩
      · exact .inr ⟨fun z => (List.mem_cons.mp z).elim hne h1, h2⟩
theorem rest_out {ρ0 ρ : List Sl} {j : Nat} : ∀ {vs : List Nat}, j ∉ vs → (rest ρ0 ρ vs)[j]? = ρ[j]?
  | [], _ => rfl
  | v :: vs, h => by
    unfold rest
    rw [List.getElem?_set_ne (fun e => h (by rw [e]; exact List.mem_cons_self))]
    exact rest_out fun m => h (List.mem_cons_of_mem _ m)
theorem noOwn_at {ρ : List Sl} {vs : List Nat} {v : Nat} (h : noOwn ρ vs = true) (hv : v ∈ vs) : ρ[v]? = some .un ∨ ∃ d, ρ[v]? = some (.v d) := by
  have := List.all_eq_true.mp h v hv
  split at this
  · rename_i e; exact .inl e
  · rename_i d e; exact .inr ⟨d, e⟩
  · cases this
theorem noOwn_rest {ρ ρ' : List Sl} {vs : List Nat} (h : noOwn ρ vs = true) (hl : ρ'.length = ρ.length) : noOwn (rest ρ ρ' vs) vs = true := by
  refine List.all_eq_true.mpr fun v hv => ?_
  have e1 := noOwn_at h hv
  have hlt : v < ρ.length := by
    rcases e1 with e | ⟨d, e⟩ <;> exact (List.getElem?_eq_some_iff.mp e).1
  have hlt2 : v < (rest ρ ρ' vs).length := by rw [rest_length, hl]; exact hlt
  have e2 := List.getElem?_eq_getElem hlt2
  rcases rest_get e2 with ⟨_, h2⟩ | ⟨h1, _⟩
  · rw [e2, h2, List.getD_eq_getElem?_getD]
    rcases e1 with e | ⟨d, e⟩ <;> rw [e] <;> rfl
  · exact absurd hv h1
theorem Ok.wipe {K : PySem.W.Frag} {Fr H : Hp} {σ : Sg} {ρ : List Sl} (ok : Ok K Fr H σ ρ) (vs : List Nat) : Ok K Fr H (L2.wipe σ vs) (wipeR ρ vs) ∧ ∀ j p, Owns (L2.wipe σ vs) (wipeR ρ vs) j p → j ∉ vs ∧ Owns σ ρ j p := by
  have ow : ∀ j p, Owns (L2.wipe σ vs) (wipeR ρ vs) j p → j ∉ vs ∧ Owns σ ρ j p := by
    rintro j p ⟨sl, h1, h2, h3⟩
    rcases wipeR_get h1 with ⟨_, rfl⟩ | ⟨hn, h1⟩
    · cases h2
    · rw [wipe_out hn] at h3
      exact ⟨hn, sl, h1, h2, h3⟩
  refine ⟨⟨ok.ex, by rw [wipe_length, wipeR_length]; exact ok.len, fun j sl h n => ?_, fun j k p h1 h2 => ok.sep j k p (ow _ _ h1).2 (ow _ _ h2).2⟩, ow⟩
  rcases wipeR_get h with ⟨_, rfl⟩ | ⟨hn, h⟩
  · exact absurd rfl n
  · rw [wipe_out hn]
    exact ok.at_ j sl h n
theorem Ok.rest {K : PySem.W.Frag} {Fr0 H0 Fr H : Hp} {σ σ2 : Sg} {ρ0 ρ2 : List Sl} {vs : List Nat} (ok0 : Ok K Fr0 H0 σ ρ0) (no : noOwn ρ0 vs = true) (ok : Ok K Fr H σ2 ρ2) (g : Go Fr0 H0 (L2.wipe σ vs) (wipeR ρ0 vs) Fr H σ2 ρ2)
    (off : ∀ i, i ∉ vs → σ2[i]? = σ[i]?) (hl : σ2.length = σ.length) : Ok K Fr H σ (DL.rest ρ0 ρ2 vs) ∧ Go Fr0 H0 σ ρ0 Fr H σ (DL.rest ρ0 ρ2 vs) := by
  have ow : ∀ j p, Owns σ (DL.rest ρ0 ρ2 vs) j p → Owns σ2 ρ2 j p := by
    rintro j p ⟨sl, h1, h2, h3⟩
    rcases rest_get h1 with ⟨hj, rfl⟩ | ⟨hn, h1⟩
    · rw [List.getD_eq_getElem?_getD] at h2
      rcases noOwn_at no hj with e | ⟨d, e⟩ <;> rw [e] at h2 <;> cases h2
    · exact ⟨sl, h1, h2, by rw [off j hn]; exact h3⟩
  have ow0 := (ok0.wipe vs).2
  refine ⟨⟨ok.ex, by rw [rest_length, ← ok.len, hl], fun j sl h n => ?_, fun j k p h1 h2 => ok.sep j k p (ow _ _ h1) (ow _ _ h2)⟩,
    ⟨g.fr, fun a o h q => g.keep a o h fun i z => q i (ow0 i a z).2, fun a h => (g.new a h).imp_right fun z => z.imp_left fun ⟨i, q⟩ => ⟨i, (ow0 i a q).2⟩,
      fun i a h => (g.own i a (ow i a h)).imp_left fun ⟨j, q⟩ => ⟨j, (ow0 j a q).2⟩, g.dom, fun i d h => ?_⟩⟩
  · rcases rest_get h with ⟨hj, rfl⟩ | ⟨hn, h⟩
    · rw [List.getD_eq_getElem?_getD] at n ⊢
      rcases noOwn_at no hj with e | ⟨d, e⟩
      · rw [e] at n; exact absurd rfl n
      · rw [e]
        obtain ⟨x, ex, r⟩ := ok0.at_ j _ e (by simp)
        exact ⟨x, ex, Rep.mono g.fr r⟩
    · rw [← off j hn]
      exact ok.at_ j sl h n
  · have hn : i ∉ vs := fun hi => by
      rcases noOwn_at no hi with e | ⟨d', e⟩ <;> rw [e] at h <;> cases h
    obtain ⟨d', h1, h2⟩ := g.bor i d (by rw [wipeR_out hn]; exact h)
    exact ⟨d', by rw [rest_out hn]; exact h1, rfl⟩
/-- an object that is neither known nor owned is changed -/
theorem Ok.mutN {K : PySem.W.Frag} {Fr H : Hp} {σ : Sg} {ρ : List Sl} {p : Addr} {o : HO} (ok : Ok K Fr H σ ρ) (hf : Fr p = none) (hn : ∀ i, ¬ Owns σ ρ i p) : Ok K Fr (upd H p o) σ ρ := by
  refine ⟨fun a u h => ?_, ok.len, fun i sl h n => ?_, ok.sep⟩
  · rw [upd_ne (ne_of_none h hf)]; exact ok.ex a u h
  · obtain ⟨x, e, q⟩ := ok.at_ i sl h n
    refine ⟨x, e, ?_⟩
    have own : ∀ d, OwnV K Fr H x d → sl.own = true → OwnV K Fr (upd H p o) x d := by
      rintro d ⟨p', rfl, n1, z⟩ so
      have ne : p' ≠ p := by
        rintro rfl
        exact hn i ⟨sl, h, so, e⟩
      exact ⟨p', rfl, n1, z.move (Same.refl _) fun _ q => by rw [upd_ne ne]; exact q⟩
    cases sl with
    | un => exact True.intro
    | v d => exact q
    | o d => exact own d q rfl
    | b d => exact own d q rfl
theorem wipe_eq {σ σ2 : Sg} {vs ws : List Nat} (hs : ∀ i, i ∈ ws → i ∈ vs) (hl : σ2.length = σ.length) (off : ∀ i, i ∉ ws → σ2[i]? = (L2.wipe σ vs)[i]?) : L2.wipe σ2 vs = L2.wipe σ vs := by
  refine List.ext_getElem? fun i => ?_
  by_cases hi : i ∈ vs
  · by_cases hlt : i < σ.length
    · have w : ∀ (τ : Sg) (us : List Nat), i ∈ us → i < τ.length → (L2.wipe τ us)[i]? = some none := by
        intro τ us
        induction us with
        | nil => intro h; cases h
        | cons u us ih =>
          intro h hl
          unfold L2.wipe
          by_cases e : u = i
          · subst e
            exact List.getElem?_set_self (by rw [wipe_length]; exact hl)
          · rw [List.getElem?_set_ne e]
            exact ih ((List.mem_cons.mp h).resolve_left (Ne.symm e)) hl
      rw [w σ2 vs hi (by rw [hl]; exact hlt), w σ vs hi hlt]
    · rw [List.getElem?_eq_none (by rw [wipe_length, hl]; omega), List.getElem?_eq_none (by rw [wipe_length]; omega)]
  · rw [wipe_out hi]
    exact off i fun z => hi (hs i z)

/-! ### list comprehensions -/
abbrev WBody := D → List Sl → (Option D → List Sl → Prop) → Prop
def wItems (body : WBody) : List D → List D → List Sl → (List D → List Sl → Prop) → Prop
  | [], acc, ρ, Q => Q acc ρ
  | d :: ds, acc, ρ, Q => body d ρ fun o ρ1 => match o with
    | some y => wItems body ds (acc ++ [y]) ρ1 Q
    | none => wItems body ds acc ρ1 Q
/-- a mark that keeps simp out of what it is of -/
inductive Tg {α : Sort _} (x : α) : Type
  | mk
def ItemsAt (body : WBody) (ds acc : List D) (ρ : List Sl) (Q : List D → List Sl → Prop) (_ : Tg body) (_ : Tg Q) : Prop := wItems body ds acc ρ Q
abbrev dx0 : DX := fun _ _ _ => False
def wTurn (g : WG) (t : WB) (e : WV) (vs : List Nat) : WBody := fun d ρ K => g d (wipeR ρ vs) fun ρ2 => t dx0 ρ2 fun b ρ3 => if b = true then e dx0 ρ3 fun y ρ4 => K (some y) (rest ρ ρ4 vs) else K none (rest ρ ρ3 vs)
def wLc (wi : WI) (g : WG) (t : WB) (e : WV) (vs : List Nat) : WV := fun ex ρ Q => wi ex ρ fun ds ρ1 => noOwn ρ1 vs = true ∧ ds.length ≤ 1000000 ∧ ItemsAt (wTurn g t e vs) ds [] ρ1 (fun acc ρ2 => Q (.lst acc) ρ2) .mk .mk
/-- the tests of a comprehension -/
structure ETs (X : Cx) (EX : XK) (ifs : List Expr) (tt : TT) (w : WB) : Prop where
  pt : PTs X ifs tt
  val : ∀ (Fr H : Hp) (σ : Sg) (ρ : List Sl) (ex : DX) (QV : Bool → List Sl → Prop) (Q : Bool → Hp → Prop), Ok X.K Fr H σ ρ → XL X.K EX ex Fr H σ ρ → w ex ρ QV →
    (∀ (b : Bool) (ρ' : List Sl) (Fr' H' : Hp), QV b ρ' → Ok X.K Fr' H' σ ρ' → Go Fr H σ ρ Fr' H' σ ρ' → Q b H') → tt σ H Q
def wYes : WB := fun _ ρ Q => Q true ρ
theorem ets_nil {X : Cx} {EX : XK} : ETs X EX [] tYes wYes := ⟨pts_nil, fun Fr H σ ρ ex QV Q ok xl hw k => k true ρ Fr H hw ok (Go.refl _ _ _ _)⟩
theorem ets_one {X : Cx} {EX : XK} {c : Expr} {t : TT} {w : WB} (h : ET X EX c t w) : ETs X EX [c] t w := ⟨pts_one h.pt, h.val⟩
theorem xl0 {K : PySem.W.Frag} {EX : XK} {Fr H : Hp} {σ : Sg} {ρ : List Sl} : XL K EX dx0 Fr H σ ρ := fun _ _ _ _ _ _ _ _ h => h.elim
section
variable {X : Cx} {EX : XK} {elt tg iter : Expr} {ifs : List Expr} {scope : Scope} {own : List (Str × Nat)} {pos : Pos} {ti : TI} {g : TG} {tt : TT} {te : TE} {ws : List Nat} {wi : WI} {wg : WG} {wt : WB} {we : WV}
theorem val_lc {Y : Cx} (hK : Y.K = X.K) {vs : List Nat} (hi : EI X EX tg iter ti wi) (hg : EG Y tg g ws wg) (hws : ∀ i, i ∈ ws → i ∈ vs) (ht : ETs Y E0 ifs tt wt) (he : EV Y E0 elt te we)
    (Fr H : Hp) (σ : Sg) (ρ : List Sl) (ex : DX) (QV : D → List Sl → Prop) (Q : VK) (ok : Ok X.K Fr H σ ρ) (xl : XL X.K EX ex Fr H σ ρ) (hw : wLc wi wg wt we vs ex ρ QV)
    (k : ∀ (d : D) (ρ' : List Sl) (p : Addr) (Fr' H' : Hp), QV d ρ' → Ok X.K Fr' H' σ ρ' → Go Fr H σ ρ Fr' H' σ ρ' → H p = none → Fr' p = none → (∀ i, ¬ Owns σ ρ' i p) → OwnA X.K Fr' H' p d → Q (.ref p) H') : tLc ti g tt te vs σ H Q := by
  refine hi.val Fr H σ ρ ex _ _ ok xl hw fun ds ρ1 J Fr1 H1 q1 ok1 g1 yl p hp => ?_
  obtain ⟨no1, hlen, q1⟩ := q1
  have hl1 : σ.length = ρ1.length := ok1.len
  refine ⟨fun i m H2 => m = ds.length - i ∧ i ≤ ds.length ∧ ∃ Fr2 ρ2 xs acc, Ok X.K Fr2 H2 σ ρ2 ∧ Go Fr1 H1 σ ρ1 Fr2 H2 σ ρ2 ∧ noOwn ρ2 vs = true ∧ Fr2 p = none ∧ (∀ i, ¬ Owns σ ρ2 i p) ∧ H2 p = some (.lst xs) ∧ Reps X.K Fr2 xs acc ∧ acc.length ≤ i ∧
      wItems (wTurn wg wt we vs) (ds.drop i) acc ρ2 (fun acc ρ2 => QV (.lst acc) ρ2), ⟨ds.length, by simp, Nat.zero_le _, Fr1, ρ1, [], [], ?_⟩, ?_⟩
  · obtain ⟨ok2, g2⟩ := ok1.addOwn (o := .lst []) hp
    refine ⟨ok2, g2, no1, ok1.ex.free hp, fun i z => ?_, upd_same, .nil, Nat.le_refl _, q1⟩
    obtain ⟨o, ho⟩ := ok1.own_there z
    rw [hp] at ho; cases ho
  · rintro i m H2 ⟨rfl, hi', Fr2, ρ2, xs, acc, ok2, g2, no2, hf2, hn2, hD, rx, hacc, hw2⟩
    have s2 : Same Fr1 H2 := g2.fr.trans ok2.ex
    by_cases hlt : i < ds.length
    · refine .inr ⟨yl.go i H2 s2 hlt, fun H3 => i + 1 ≤ ds.length ∧ ∃ Fr2 ρ2 xs acc, Ok X.K Fr2 H3 σ ρ2 ∧ Go Fr1 H1 σ ρ1 Fr2 H3 σ ρ2 ∧ noOwn ρ2 vs = true ∧ Fr2 p = none ∧ (∀ i, ¬ Owns σ ρ2 i p) ∧ H3 p = some (.lst xs) ∧ Reps X.K Fr2 xs acc ∧ acc.length ≤ i + 1 ∧
          wItems (wTurn wg wt we vs) (ds.drop (i + 1)) acc ρ2 (fun acc ρ2 => QV (.lst acc) ρ2), fun H3 q => ⟨ds.length - (i + 1), by omega, rfl, q⟩, fun x H3 y => ?_⟩
      have hd : ds[i]? = some ds[i] := List.getElem?_eq_getElem hlt
      rw [List.drop_eq_getElem_cons hlt] at hw2
      obtain ⟨Fr3, ok3, g3, r3⟩ := yl.item ok2 g2.fr hd y
      have hD3 : H3 p = some (.lst xs) := g3.keep p _ hD hn2
      obtain ⟨okw, oww⟩ := ok3.wipe vs
      have hw2 : wg ds[i] (wipeR ρ2 vs) _ := hw2
      refine hg.val Fr3 H3 (L2.wipe σ vs) (wipeR ρ2 vs) x ds[i] _ _ (by rw [hK]; exact okw) (by rw [hK]; exact r3) hw2 fun σ4 ρ4 q4 ok4 g4 ls off => ?_
      rw [wipe_length] at ls
      have offv : ∀ i, i ∉ vs → σ4[i]? = σ[i]? := fun i hv => (off i fun z => hv (hws i z)).trans (wipe_out hv)
      refine ⟨wipe_eq hws ls off, ht.val Fr3 H3 σ4 ρ4 dx0 _ _ ok4 xl0 q4 fun b ρ5 Fr5 H5 q5 ok5 g5 => ?_⟩
      have fin : ∀ {Fr6 H6 : Hp} {ρ6 : List Sl}, Ok Y.K Fr6 H6 σ4 ρ6 → Go Fr3 H3 (L2.wipe σ vs) (wipeR ρ2 vs) Fr6 H6 σ4 ρ6 → Ok X.K Fr6 H6 σ (DL.rest ρ2 ρ6 vs) ∧ Go Fr1 H1 σ ρ1 Fr6 H6 σ (DL.rest ρ2 ρ6 vs) ∧ noOwn (DL.rest ρ2 ρ6 vs) vs = true ∧ Fr6 p = none ∧
          (∀ i, ¬ Owns σ (DL.rest ρ2 ρ6 vs) i p) ∧ H6 p = some (.lst xs) ∧ Reps X.K Fr6 xs acc := fun {Fr6 H6 ρ6} ok6 g6 => by
        rw [hK] at ok6
        obtain ⟨ok7, g7⟩ := ok3.rest no2 ok6 g6 offv ls
        have g27 := g3.trans g7
        refine ⟨ok7, g2.trans g27, noOwn_rest no2 ?_, ?_, fun i z => ?_, g27.keep p _ hD hn2, rx.mono g27.fr⟩
        · rw [← ok6.len, ls, ok3.len]
        · cases e : Fr6 p with
          | none => rfl
          | some o =>
            rcases g27.new p (by rw [e]; simp) with h | ⟨i, h⟩ | h
            · exact absurd hf2 h
            · exact absurd h (hn2 i)
            · rw [hD] at h; cases h
        · rcases g27.own i p z with ⟨j, h⟩ | h
          · exact hn2 j h
          · rw [hD] at h; cases h
      cases b with
      | true =>
        show te σ4 H5 _
        refine he.val Fr5 H5 σ4 ρ5 dx0 _ _ ok5 xl0 q5 fun yd ρ6 yv Fr6 H6 q6 ok6 g6 r6 => ?_
        obtain ⟨ok7, g7, no7, hf7, hn7, hD7, rx7⟩ := fin ok6 ((g4.trans g5).trans g6)
        rw [hK] at r6
        refine ⟨xs, hD7, ?_, hlt, Fr6, _, xs ++ [yv], acc ++ [yd], ok7.mutN hf7 hn7, ⟨g7.fr, fun a o h n => ?_, g7.new, g7.own, fun a h => ?_, g7.bor⟩, no7, hf7, hn7, upd_same, Reps.append (.cons r6 .nil) rx7, ?_, q6⟩
        · rw [rx7.length, sizeLine_eq]; omega
        · rw [upd_ne (ne_of_none h hp)]; exact g7.keep a o h n
        · by_cases e : a = p
          · subst e; rw [upd_same] at h; cases h
          · rw [upd_ne e] at h; exact g7.dom a h
        · rw [List.length_append, List.length_singleton]; omega
      | false =>
        obtain ⟨ok7, g7, no7, hf7, hn7, hD7, rx7⟩ := fin ok5 (g4.trans g5)
        exact ⟨hlt, Fr5, _, xs, acc, ok7, g7, no7, hf7, hn7, hD7, rx7, Nat.le_succ_of_le hacc, q5⟩
    · have e : i = ds.length := by omega
      subst e
      rw [List.drop_length] at hw2
      refine .inl ⟨yl.stop H2 s2, ?_⟩
      have hw2 : QV (.lst acc) ρ2 := hw2
      exact k _ ρ2 p Fr2 H2 hw2 ok2 (g1.trans g2) (g1.dom p hp) hf2 hn2 ⟨xs, hD, rx⟩
/-- [..], a new list -/
theorem eo_lc (hc : X.calm = true) (hN : X.N.Nodup) (hi : EI X EX tg iter ti wi) (hb : blkC X.N X.env.scope scope own = true) (hws : ∀ i, i ∈ ws → i ∈ own.map (·.2))
    (hg : ∀ (s : Shared) (H : Hp) (C : Addr) (cl : List (Str × Addr)) (fp : List Addr), EG (X.blk s H scope (compEnvC scope cl C X.env) fp) tg g ws wg) (ht : ∀ (s : Shared) (H : Hp) (C : Addr) (cl : List (Str × Addr)) (fp : List Addr), ETs (X.blk s H scope (compEnvC scope cl C X.env) fp) E0 ifs tt wt)
    (he : ∀ (s : Shared) (H : Hp) (C : Addr) (cl : List (Str × Addr)) (fp : List Addr), EV (X.blk s H scope (compEnvC scope cl C X.env) fp) E0 elt te we) (hs : ∀ x, foldedSetIterable iter X.env x = pure x := by intro _; rfl) :
    EO X EX (.ListComp elt [⟨tg, iter, ifs, 0⟩] scope pos) (tLc ti g tt te (own.map (·.2))) (wLc wi wg wt we (own.map (·.2))) :=
  ⟨pe_lc hc hN hi.pi (blkOk_by hb) (fun s H C cl fp => (hg s H C cl fp).pg) (fun s H C cl fp => (ht s H C cl fp).pt) (fun s H C cl fp => (he s H C cl fp).pe) hs,
    val_lc (X := X) (Y := X.blk X.s_0 X.H_0 scope (compEnvC scope [] 0 X.env) []) rfl hi (hg _ _ _ _ _) hws (ht _ _ _ _ _) (he _ _ _ _ _)⟩
end
end DL

set_option Elab.async false
set_option linter.all false
set_option autoImplicit false
set_option maxRecDepth 100000
set_option maxHeartbeats 1000000
/-! DL, part 5: statements. -/
namespace DL
open PySem PySem.Spec PyProof.Rows L2

structure DE where
  nx : List Sl → Prop
  rt : Sl → List Sl → Prop
  bk : List Sl → Prop
  ct : List Sl → Prop
  ex : DX
abbrev WS := DE → List Sl → Prop
structure EndsOk (K : PySem.W.Frag) (E : DE) (Z : Ends) (Fr H : Hp) (σ : Sg) (ρ : List Sl) : Prop where
  nx : ∀ (Fr' H' : Hp) (σ' : Sg) (ρ' : List Sl), E.nx ρ' → Ok K Fr' H' σ' ρ' → Go Fr H σ ρ Fr' H' σ' ρ' → Z.nx σ' H'
  bk : ∀ (Fr' H' : Hp) (σ' : Sg) (ρ' : List Sl), E.bk ρ' → Ok K Fr' H' σ' ρ' → Go Fr H σ ρ Fr' H' σ' ρ' → Z.bk σ' H'
  ct : ∀ (Fr' H' : Hp) (σ' : Sg) (ρ' : List Sl), E.ct ρ' → Ok K Fr' H' σ' ρ' → Go Fr H σ ρ Fr' H' σ' ρ' → Z.ct σ' H'
  rtV : ∀ (Fr' H' : Hp) (σ' : Sg) (ρ' : List Sl) (d : D) (x : V), E.rt (.v d) ρ' → Ok K Fr' H' σ' ρ' → Go Fr H σ ρ Fr' H' σ' ρ' → Rep K Fr' x d → Z.rt x H'
  rtO : ∀ (Fr' H' : Hp) (σ' : Sg) (ρ' : List Sl) (d : D) (p : Addr), E.rt (.o d) ρ' → Ok K Fr' H' σ' ρ' → Go Fr H σ ρ Fr' H' σ' ρ' → (H p = none ∨ ∃ j, Owns σ ρ j p) → Fr' p = none → (∀ i, ¬ Owns σ' ρ' i p) → OwnA K Fr' H' p d → Z.rt (.ref p) H'
theorem EndsOk.go {K : PySem.W.Frag} {E : DE} {Z : Ends} {Fr H Fr1 H1 : Hp} {σ σ1 : Sg} {ρ ρ1 : List Sl} (e : EndsOk K E Z Fr H σ ρ) (g : Go Fr H σ ρ Fr1 H1 σ1 ρ1) : EndsOk K E Z Fr1 H1 σ1 ρ1 where
  nx := fun Fr' H' σ' ρ' h ok g' => e.nx Fr' H' σ' ρ' h ok (g.trans g')
  bk := fun Fr' H' σ' ρ' h ok g' => e.bk Fr' H' σ' ρ' h ok (g.trans g')
  ct := fun Fr' H' σ' ρ' h ok g' => e.ct Fr' H' σ' ρ' h ok (g.trans g')
  rtV := fun Fr' H' σ' ρ' d x h ok g' r => e.rtV Fr' H' σ' ρ' d x h ok (g.trans g') r
  rtO := fun Fr' H' σ' ρ' d p h ok g' q hf hn z => e.rtO Fr' H' σ' ρ' d p h ok (g.trans g') (by
    rcases q with q | ⟨j, q⟩
    · exact .inl (g.dom p q)
    · exact (g.own j p q).symm) hf hn z
structure SV (X : Cx) (EX : XK) (st : Stmt) (t : TS) (w : WS) : Prop where
  ps : PS X st t
  val : ∀ (Fr H : Hp) (σ : Sg) (ρ : List Sl) (E : DE) (Z : Ends), Ok X.K Fr H σ ρ → XL X.K EX E.ex Fr H σ ρ → w E ρ → EndsOk X.K E Z Fr H σ ρ → t Z σ H
structure SVs (X : Cx) (EX : XK) (sts : List Stmt) (t : TS) (w : WS) : Prop where
  ps : PSs X sts t
  val : ∀ (Fr H : Hp) (σ : Sg) (ρ : List Sl) (E : DE) (Z : Ends), Ok X.K Fr H σ ρ → XL X.K EX E.ex Fr H σ ρ → w E ρ → EndsOk X.K E Z Fr H σ ρ → t Z σ H
def wNext : WS := fun E ρ => E.nx ρ
def wSeq (a b : WS) : WS := fun E ρ => a { E with nx := b E } ρ
/-- a new object goes to a slot -/
theorem Ok.giveO {K : PySem.W.Frag} {Fr H Fr1 H1 : Hp} {σ : Sg} {ρ ρ1 : List Sl} {i : Nat} {p : Addr} {d : D} (ok : Ok K Fr1 H1 σ ρ1) (g : Go Fr H σ ρ Fr1 H1 σ ρ1) (hfree : free ρ1 i = true) (hp : H p = none) (hf : Fr1 p = none) (hn : ∀ j, ¬ Owns σ ρ1 j p) (z : OwnA K Fr1 H1 p d) :
    Ok K Fr1 H1 (σ.set i (some (.ref p))) (ρ1.set i (.o d)) ∧ Go Fr H σ ρ Fr1 H1 (σ.set i (some (.ref p))) (ρ1.set i (.o d)) := by
  obtain ⟨h1, h2⟩ := free_ok hfree
  obtain ⟨ok2, ow⟩ := ok.setO h1 h2 hf z hn
  refine ⟨ok2, g.fr, g.keep, g.new, fun j q h => ?_, g.dom, fun j d' h => ?_⟩
  · rcases ow j q h with rfl | h
    · exact .inr hp
    · exact g.own j q h
  · obtain ⟨d2, e1, e2⟩ := g.bor j d' h
    have hne : j ≠ i := by rintro rfl; exact h2 d2 e1
    exact ⟨d2, by rw [List.getElem?_set_ne (Ne.symm hne)]; exact e1, by rw [List.getElem?_set_ne (Ne.symm hne)]⟩
section
variable {X : Cx} {EX : XK}
theorem svs_nil : SVs X EX [] tNext wNext := ⟨pss_nil, fun Fr H σ ρ E Z ok xl hw e => e.nx Fr H σ ρ hw ok (Go.refl _ _ _ _)⟩
theorem val_seq {t u : TS} {a b : WS} (ha : ∀ (Fr H : Hp) (σ : Sg) (ρ : List Sl) (E : DE) (Z : Ends), Ok X.K Fr H σ ρ → XL X.K EX E.ex Fr H σ ρ → a E ρ → EndsOk X.K E Z Fr H σ ρ → t Z σ H)
    (hb : ∀ (Fr H : Hp) (σ : Sg) (ρ : List Sl) (E : DE) (Z : Ends), Ok X.K Fr H σ ρ → XL X.K EX E.ex Fr H σ ρ → b E ρ → EndsOk X.K E Z Fr H σ ρ → u Z σ H)
    (Fr H : Hp) (σ : Sg) (ρ : List Sl) (E : DE) (Z : Ends) (ok : Ok X.K Fr H σ ρ) (xl : XL X.K EX E.ex Fr H σ ρ) (hw : wSeq a b E ρ) (e : EndsOk X.K E Z Fr H σ ρ) : tSeq t u Z σ H :=
  ha Fr H σ ρ { E with nx := b E } { Z with nx := u Z } ok xl hw
    ⟨fun Fr' H' σ' ρ' h ok' g => hb Fr' H' σ' ρ' E Z ok' (xl.go g) h (e.go g), e.bk, e.ct, e.rtV, e.rtO⟩
theorem svs_cons {st : Stmt} {rest : List Stmt} {t u : TS} {a b : WS} (ha : SV X EX st t a) (hb : SVs X EX rest u b) : SVs X EX (st :: rest) (tSeq t u) (wSeq a b) := ⟨pss_cons ha.ps hb.ps, val_seq ha.val hb.val⟩
theorem svs_one {st : Stmt} {t : TS} {a : WS} (ha : SV X EX st t a) : SVs X EX [st] t a := ⟨pss_one ha.ps, ha.val⟩
variable {pos : Pos} {e : Expr} {te : TE} {w : WV}
theorem sv_pass : SV X EX (.Pass pos) tNext wNext := ⟨ps_pass, fun Fr H σ ρ E Z ok xl hw e => e.nx Fr H σ ρ hw ok (Go.refl _ _ _ _)⟩
theorem sv_doc {x : Str} {j : Nat} {pos' : Pos} : SV X EX (.Expr (.Constant (.str x) j pos) pos') tNext wNext := ⟨ps_doc, fun Fr H σ ρ E Z ok xl hw e => e.nx Fr H σ ρ hw ok (Go.refl _ _ _ _)⟩
theorem sv_break : SV X EX (.Break pos) tBreak (fun E ρ => E.bk ρ) := ⟨ps_break, fun Fr H σ ρ E Z ok xl hw e => e.bk Fr H σ ρ hw ok (Go.refl _ _ _ _)⟩
theorem sv_continue : SV X EX (.Continue pos) tCont (fun E ρ => E.ct ρ) := ⟨ps_continue, fun Fr H σ ρ E Z ok xl hw e => e.ct Fr H σ ρ hw ok (Go.refl _ _ _ _)⟩
def wNever : WS := fun _ _ => False
theorem sv_never {st : Stmt} : SV X EX st tNever wNever := ⟨ps_never, fun Fr H σ ρ E Z ok xl hw e => hw.elim⟩
theorem svs_never {sts : List Stmt} : SVs X EX sts tNever wNever := ⟨pss_never, fun Fr H σ ρ E Z ok xl hw e => hw.elim⟩
def wDrop (w : WV) : WS := fun E ρ => w E.ex ρ fun _ ρ1 => E.nx ρ1
theorem sv_expr (h : EV X EX e te w) (hs : swapsWith e none pos.line X.env = pure false := by rfl) : SV X EX (.Expr e pos) (tDrop te) (wDrop w) := ⟨ps_expr h.pe hs, fun Fr H σ ρ E Z ok xl hw en =>
  h.val Fr H σ ρ E.ex _ _ ok xl hw fun d ρ1 x Fr1 H1 q1 ok1 g1 r1 => en.nx Fr1 H1 σ ρ1 q1 ok1 g1⟩
/-! ### return -/
def wRet (w : WV) : WS := fun E ρ => w E.ex ρ fun d ρ1 => E.rt (.v d) ρ1
def wRetO (w : WV) : WS := fun E ρ => w E.ex ρ fun d ρ1 => E.rt (.o d) ρ1
theorem sv_ret (h : EV X EX e te w) : SV X EX (.Return (some e) pos) (tRet te) (wRet w) := ⟨ps_ret h.pe, fun Fr H σ ρ E Z ok xl hw en =>
  h.val Fr H σ ρ E.ex _ _ ok xl hw fun d ρ1 x Fr1 H1 q1 ok1 g1 r1 => en.rtV Fr1 H1 σ ρ1 d x q1 ok1 g1 r1⟩
theorem sv_retO (h : EO X EX e te w) : SV X EX (.Return (some e) pos) (tRet te) (wRetO w) := ⟨ps_ret h.pe, fun Fr H σ ρ E Z ok xl hw en =>
  h.val Fr H σ ρ E.ex _ _ ok xl hw fun d ρ1 p Fr1 H1 q1 ok1 g1 hp hf hn z => en.rtO Fr1 H1 σ ρ1 d p q1 ok1 g1 (.inl hp) hf hn z⟩
def wRetN : WS := fun E ρ => E.rt (.v .non) ρ
theorem sv_retN : SV X EX (.Return none pos) tRetN wRetN := ⟨ps_retN, fun Fr H σ ρ E Z ok xl hw en => en.rtV Fr H σ ρ .non .non hw ok (Go.refl _ _ _ _) .non⟩
/-- a name's own object is given away -/
theorem Ok.giveUp {K : PySem.W.Frag} {Fr H : Hp} {σ : Sg} {ρ : List Sl} {i : Nat} {d : D} (ok : Ok K Fr H σ ρ) (h : ρ[i]? = some (.o d)) :
    ∃ p, σ[i]? = some (some (.ref p)) ∧ Owns σ ρ i p ∧ Fr p = none ∧ OwnA K Fr H p d ∧ Ok K Fr H σ (ρ.set i .un) ∧ Go Fr H σ ρ Fr H σ (ρ.set i .un) ∧ ∀ j, ¬ Owns σ (ρ.set i .un) j p := by
  obtain ⟨x, e, q⟩ := ok.at_ i _ h (by simp)
  obtain ⟨p, rfl, hf, z⟩ := (show OwnV K Fr H x d from q)
  have own : Owns σ ρ i p := ⟨_, h, rfl, e⟩
  have ow : ∀ j q, Owns σ (ρ.set i .un) j q → j ≠ i ∧ Owns σ ρ j q := by
    rintro j q ⟨sl, h1, h2, h3⟩
    rcases get_set h1 with ⟨_, rfl, _⟩ | ⟨hne, h1⟩
    · cases h2
    · exact ⟨hne, sl, h1, h2, h3⟩
  refine ⟨p, e, own, hf, z, ⟨ok.ex, by rw [List.length_set]; exact ok.len, fun j sl hj n => ?_, fun j k q h1 h2 => ok.sep j k q (ow _ _ h1).2 (ow _ _ h2).2⟩,
    ⟨Same.refl _, fun _ _ h _ => h, fun a h => .inl h, fun j q h => .inl ⟨j, (ow _ _ h).2⟩, fun _ h => h, fun j d' hj => ?_⟩, fun j hj => ?_⟩
  · rcases get_set hj with ⟨_, rfl, _⟩ | ⟨hne, hj⟩
    · exact absurd rfl n
    · exact ok.at_ j sl hj n
  · have hne : j ≠ i := by rintro rfl; rw [h] at hj; cases hj
    exact ⟨d', by rw [List.getElem?_set_ne (Ne.symm hne)]; exact hj, rfl⟩
  · obtain ⟨hne, q⟩ := ow _ _ hj
    exact hne (ok.sep _ _ _ q own)
def wGive (i : Nat) : WS := fun E ρ => match ρ[i]? with
  | some (.o d) => E.rt (.o d) (ρ.set i .un)
  | _ => False
/-- return name, the name's own object goes with it -/
theorem sv_give (i : Nat) {x : Str} {p : Pos} (hN : X.N[i]? = some x := by rfl) (hv : Vis X.env.scope x := by first | exact Or.inl rfl | exact Or.inr (Or.inl rfl) | exact Or.inr (Or.inr rfl)) (hd : (x == ("__debug__" : Str)) = false := by decide)
    (hcd : (x == ("__classdict__" : Str)) = false := by decide) : SV X EX (.Return (some (.Name x p)) pos) (tRet (tVar i)) (wGive i) := ⟨ps_ret (pe_var hN hv hd hcd), fun Fr H σ ρ E Z ok xl hw en => by
  unfold wGive at hw
  split at hw
  · rename_i d e
    obtain ⟨q, es, own, hf, z, ok2, g2, hn⟩ := ok.giveUp e
    exact ⟨_, es, en.rtO Fr H σ _ d q hw ok2 g2 (.inr ⟨i, own⟩) hf hn z⟩
  · exact hw.elim⟩
/-! ### assignments -/
def wAsg (w : WV) (g : WG) : WS := fun E ρ => w E.ex ρ fun d ρ1 => g d ρ1 E.nx
def wSetO (i : Nat) (w : WV) : WS := fun E ρ => w E.ex ρ fun d ρ1 => free ρ1 i = true ∧ E.nx (ρ1.set i (.o d))
theorem valAsg {g : TG} {tg : Expr} {ws : List Nat} {wg : WG} (h : EV X EX e te w) (hg : EG X tg g ws wg) (Fr H : Hp) (σ : Sg) (ρ : List Sl) (E : DE) (Z : Ends) (ok : Ok X.K Fr H σ ρ) (xl : XL X.K EX E.ex Fr H σ ρ) (hw : wAsg w wg E ρ) (en : EndsOk X.K E Z Fr H σ ρ) : tAsg te g Z σ H :=
  h.val Fr H σ ρ E.ex _ _ ok xl hw fun d ρ1 x Fr1 H1 q1 ok1 g1 r1 => hg.val Fr1 H1 σ ρ1 x d _ _ ok1 r1 q1 fun σ2 ρ2 q2 ok2 g2 _ _ => en.nx Fr1 H1 σ2 ρ2 q2 ok2 (g1.trans g2)
theorem sv_asg {tg : Expr} {g : TG} {ws : List Nat} {wg : WG} (h : EV X EX e te w) (hg : EG X tg g ws wg) (hs : swapsWithSole [tg] e pos.line X.env = pure false := by rfl) (hw : swappedStores [tg] e X.env = pure none := by rfl)
    (h1 : (assignEach [tg] X.env).map (·.2) = [assign tg X.env] := by rfl) : SV X EX (.Assign [tg] e pos) (tAsg te g) (wAsg w wg) := ⟨ps_asg h.pe hg.pg hs hw h1, valAsg h hg⟩
theorem valSetO {i : Nat} (h : EO X EX e te w) (Fr H : Hp) (σ : Sg) (ρ : List Sl) (E : DE) (Z : Ends) (ok : Ok X.K Fr H σ ρ) (xl : XL X.K EX E.ex Fr H σ ρ) (hw : wSetO i w E ρ) (en : EndsOk X.K E Z Fr H σ ρ) : tAsg te (gName i) Z σ H :=
  h.val Fr H σ ρ E.ex _ _ ok xl hw fun d ρ1 p Fr1 H1 q1 ok1 g1 hp hf hn z => by
    obtain ⟨ok2, g2⟩ := ok1.giveO g1 q1.1 hp hf hn z
    exact en.nx Fr1 H1 _ _ q1.2 ok2 g2
theorem sv_set (i : Nat) {x : Str} {pos' : Pos} (hN : X.N.Nodup) (h : EV X EX e te w) (hi : X.N[i]? = some x := by rfl) (hx : Loc X.env.scope x := by first | exact Or.inl rfl | exact Or.inr rfl) (hs : swapsWith e (some (.Name x pos')) pos.line X.env = pure false := by rfl) (hf : X.fn x = true ∨ X.env.scope.names.lookup x = some .local := by first | exact Or.inl rfl | exact Or.inr rfl) :
    SV X EX (.Assign [.Name x pos'] e pos) (tAsg te (gName i)) (wAsg w (wName i)) := ⟨ps_set hN hi hx h.pe hs hf, valAsg h (eg_name (pos := pos') i hN hi hx hf)⟩
theorem sv_setO (i : Nat) {x : Str} {pos' : Pos} (hN : X.N.Nodup) (h : EO X EX e te w) (hi : X.N[i]? = some x := by rfl) (hx : Loc X.env.scope x := by first | exact Or.inl rfl | exact Or.inr rfl) (hs : swapsWith e (some (.Name x pos')) pos.line X.env = pure false := by rfl) (hf : X.fn x = true ∨ X.env.scope.names.lookup x = some .local := by first | exact Or.inl rfl | exact Or.inr rfl) :
    SV X EX (.Assign [.Name x pos'] e pos) (tAsg te (gName i)) (wSetO i w) := ⟨ps_set hN hi hx h.pe hs hf, valSetO h⟩
/-- name = [..] on one line, the name a plain local -/
theorem sv_setLc (i : Nat) {y : Str} {py : Pos} {elt tg iter : Expr} {ifs : List Expr} {scope : Scope} {own : List (Str × Nat)} {lpos spos : Pos} {ti : TI} {g : TG} {tt : TT} {ws : List Nat} {wi : WI} {wg : WG} {wt : WB} {we : WV} (hc : X.calm = true) (hN : X.N.Nodup) (hi : EI X EX tg iter ti wi) (hb : blkC X.N X.env.scope scope own = true) (hws : ∀ i, i ∈ ws → i ∈ own.map (·.2))
    (hg : ∀ (s : Shared) (H : Hp) (C : Addr) (cl : List (Str × Addr)) (fp : List Addr), EG (X.blk s H scope (compEnvC scope cl C X.env) fp) tg g ws wg) (ht : ∀ (s : Shared) (H : Hp) (C : Addr) (cl : List (Str × Addr)) (fp : List Addr), ETs (X.blk s H scope (compEnvC scope cl C X.env) fp) E0 ifs tt wt)
    (he : ∀ (s : Shared) (H : Hp) (C : Addr) (cl : List (Str × Addr)) (fp : List Addr), EV (X.blk s H scope (compEnvC scope cl C X.env) fp) E0 elt te we)
    (hy : X.N[i]? = some y := by rfl) (hyl : X.env.scope.names.lookup y = some .local := by rfl) (hsw : swapsWith (.ListComp elt [⟨tg, iter, ifs, 0⟩] scope lpos) (some (.Name y py)) spos.line X.env = pure true := by exact sw_true rfl rfl rfl rfl) (hs : ∀ x, foldedSetIterable iter X.env x = pure x := by intro _; rfl) :
    SV X EX (.Assign [.Name y py] (.ListComp elt [⟨tg, iter, ifs, 0⟩] scope lpos) spos) (tAsg (tLc ti g tt te (own.map (·.2))) (gName i)) (wSetO i (wLc wi wg wt we (own.map (·.2)))) :=
  ⟨ps_setLc hc hN hy hyl hsw hi.pi (blkOk_by hb) (fun s H C cl fp => (hg s H C cl fp).pg) (fun s H C cl fp => (ht s H C cl fp).pt) (fun s H C cl fp => (he s H C cl fp).pe) hs, valSetO (eo_lc (pos := lpos) hc hN hi hb hws hg ht he hs)⟩
/-- name += e, whole numbers -/
def wAugI (i : Nat) (f : Int → Int → Int) (w : WV) : WS := fun E ρ => match ρ[i]? with
  | some (.v (.int a)) => w E.ex ρ fun d ρ1 => (match d with
    | .int b => free ρ1 i = true ∧ E.nx (ρ1.set i (.v (.int (f a b))))
    | _ => False)
  | _ => False
theorem sv_augI (i : Nat) {x : Str} {op : Operator} {f : Int → Int → Int} {pos' : Pos} (ho : PIp X op (ipI f)) (hN : X.N.Nodup) (h : EV X EX e te w) (hi : X.N[i]? = some x := by rfl) (hx : Loc X.env.scope x := by first | exact Or.inl rfl | exact Or.inr rfl) (hf : X.fn x = true ∨ X.env.scope.names.lookup x = some .local := by first | exact Or.inl rfl | exact Or.inr rfl) :
    SV X EX (.AugAssign (.Name x pos') op e pos) (tAug i te (ipI f)) (wAugI i f w) := ⟨ps_aug hN hi hx h.pe ho hf, fun Fr H σ ρ E Z ok xl hw en => by
  unfold wAugI at hw
  split at hw
  · rename_i a ea
    obtain ⟨y, ey, r⟩ := ok.at_ i _ ea (by simp)
    have r : Rep X.K Fr y (.int a) := r
    cases r
    refine ⟨_, ey, h.val Fr H σ ρ E.ex _ _ ok xl hw fun d ρ1 z Fr1 H1 q1 ok1 g1 r1 => ?_⟩
    cases r1 with
    | int b =>
      obtain ⟨h1, h2⟩ := free_ok q1.1
      obtain ⟨ok2, g2⟩ := ok1.setV (x := .int (f a b)) h1 h2 (.int _)
      exact ⟨a, b, rfl, rfl, en.nx Fr1 H1 _ _ q1.2 ok2 (g1.trans g2)⟩
    | _ => exact (show False from q1).elim
  · exact hw.elim⟩
/-- a, b = x, y: plain locals, data -/
def wPar (i j : Nat) (wa wb : WV) : WS := fun E ρ => wa E.ex ρ fun d ρ1 => wb E.ex ρ1 fun e ρ2 => free ρ2 i = true ∧ free ρ2 j = true ∧ E.nx ((ρ2.set i (.v d)).set j (.v e))
theorem sv_pars (i j : Nat) {x y : Str} {a b : Expr} {ta tb : TE} {wa wb : WV} {px py pt pt2 : Pos} {kt k2 : Nat} (hN : X.N.Nodup) (ha : EV X EX a ta wa) (hb : EV X EX b tb wb) (hc : X.calm = true := by rfl) (hi : X.N[i]? = some x := by rfl) (hj : X.N[j]? = some y := by rfl) (hij : i ≠ j := by decide)
    (hx : X.env.scope.names.lookup x = some .local := by rfl) (hy : X.env.scope.names.lookup y = some .local := by rfl) (hs1 : starEach [a, b] X.env = (false, eval a X.env) :: starEach [b] X.env := by rfl) (hs2 : starEach [b] X.env = (false, eval b X.env) :: starEach [] X.env := by rfl)
    (hw : swappedStores [.Tuple [.Name x px, .Name y py] kt pt] (.Tuple [a, b] k2 pt2) X.env = pure (some [x, y]) := by rfl) (hs : swapsWithSole [.Tuple [.Name x px, .Name y py] kt pt] (.Tuple [a, b] k2 pt2) pos.line X.env = pure false := by rfl) :
    SV X EX (.Assign [.Tuple [.Name x px, .Name y py] kt pt] (.Tuple [a, b] k2 pt2) pos) (tPar i j (tCons ta (tCons tb tNil))) (wPar i j wa wb) :=
  ⟨ps_par hc hN hi hj hij hx hy (pa_cons ha.pe (pa_cons hb.pe pa_nil hs2) hs1) hw hs, fun Fr H σ ρ E Z ok xl hw en => ha.val Fr H σ ρ E.ex _ _ ok xl hw fun d ρ1 u Fr1 H1 q1 ok1 g1 r1 => hb.val Fr1 H1 σ ρ1 E.ex _ _ ok1 (xl.go g1) q1 fun e ρ2 v Fr2 H2 q2 ok2 g2 r2 => by
    obtain ⟨f1, f2, q2⟩ := q2
    obtain ⟨h1, h2⟩ := free_ok f1
    obtain ⟨h3, h4⟩ := free_ok f2
    obtain ⟨ok3, g3⟩ := ok2.setV h1 h2 (r1.mono g2.fr)
    have h5 : j < (ρ2.set i (.v d)).length := by rw [List.length_set]; exact h3
    have h6 : ∀ d', (ρ2.set i (.v d))[j]? ≠ some (.b d') := fun d' => by rw [List.getElem?_set_ne hij]; exact h4 d'
    obtain ⟨ok4, g4⟩ := ok3.setV h5 h6 r2
    exact ⟨u, v, rfl, en.nx Fr2 H2 _ _ q2 ok4 (((g1.trans g2).trans g3).trans g4)⟩⟩
/-- b[k] = e, b an own list -/
def known (ρ : List Sl) (i : Nat) : Bool := match ρ[i]? with
  | some .un => false
  | some _ => true
  | none => false
theorem known_ok {ρ : List Sl} {i : Nat} (h : known ρ i = true) : ∃ sl, ρ[i]? = some sl ∧ sl ≠ .un := by
  unfold known at h
  split at h
  · cases h
  · rename_i sl hne e
    exact ⟨sl, e, hne⟩
  · cases h
def wSetIx (i : Nat) (w wk : WV) : WS := fun E ρ => w E.ex ρ fun d ρ1 => known ρ1 i = true ∧ wk E.ex ρ1 fun k ρ2 => match k, ρ2[i]? with
  | .int k, some (.o (.lst ds)) => ∃ j, ixN ds.length k = some j ∧ E.nx (ρ2.set i (.o (.lst (ds.set j d))))
  | .int k, some (.b (.lst ds)) => ∃ j, ixN ds.length k = some j ∧ E.nx (ρ2.set i (.b (.lst (ds.set j d))))
  | _, _ => False
theorem Ok.setAt {K : PySem.W.Frag} {Fr H : Hp} {σ : Sg} {ρ : List Sl} {i j : Nat} {ds : List D} {d : D} {y x : V} {k : Int} {sl sl' : Sl} {Q : Hp → Prop} (ok : Ok K Fr H σ ρ) (hs : σ[i]? = some (some y)) (h : ρ[i]? = some sl) (c : (sl = .o (.lst ds) ∧ sl' = .o (.lst (ds.set j d))) ∨ (sl = .b (.lst ds) ∧ sl' = .b (.lst (ds.set j d))))
    (r : Rep K Fr x d) (hj : ixN ds.length k = some j) (kq : ∀ H', Ok K Fr H' σ (ρ.set i sl') → Go Fr H σ ρ Fr H' σ (ρ.set i sl') → Q H') : rSetL y (.int k) x H Q := by
  obtain ⟨y', e, q⟩ := ok.at_ i sl h (by rcases c with ⟨rfl, _⟩ | ⟨rfl, _⟩ <;> simp)
  rw [hs] at e; cases e
  have q : OwnV K Fr H y (.lst ds) := by rcases c with ⟨rfl, _⟩ | ⟨rfl, _⟩ <;> exact q
  obtain ⟨p, rfl, hf, xs, hp, rs⟩ := q
  have own : Owns σ ρ i p := ⟨sl, h, by rcases c with ⟨rfl, _⟩ | ⟨rfl, _⟩ <;> rfl, hs⟩
  have m := ok.mutO (sl' := sl') (d' := .lst (ds.set j d)) (o := .lst (xs.set j x)) own (by rcases c with ⟨_, rfl⟩ | ⟨_, rfl⟩ <;> simp) (by
    rintro ⟨d0, h0⟩
    rw [h] at h0; cases h0
    rcases c with ⟨h1, _⟩ | ⟨_, rfl⟩
    · cases h1
    · rfl) ⟨_, upd_same, Reps.set r j rs⟩
  exact ⟨p, xs, k, j, rfl, rfl, hp, by rw [rs.length]; exact hj, kq _ m.1 m.2⟩
theorem sv_setIx (i : Nat) {x : Str} {ix : Expr} {tk : TE} {wk : WV} {p tpos : Pos} (h : EV X EX e te w) (hk : EV X EX ix tk wk) (hN : X.N[i]? = some x := by rfl) (hv : Vis X.env.scope x := by first | exact Or.inl rfl | exact Or.inr (Or.inl rfl) | exact Or.inr (Or.inr rfl))
    (hs : swapsWithSole [.Subscript (.Name x p) ix tpos] e pos.line X.env = pure false := by rfl) (hw : swappedStores [.Subscript (.Name x p) ix tpos] e X.env = pure none := by rfl)
    (h1 : (assignEach [.Subscript (.Name x p) ix tpos] X.env).map (·.2) = [assign (.Subscript (.Name x p) ix tpos) X.env] := by rfl) (ha : ∀ v, assign (.Subscript (.Name x p) ix tpos) X.env v = (do
      let ov ← holding [v] (eval (.Name x p) X.env)
      let iv ← holding [v, ov] (eval ix X.env)
      standAt tpos
      holding [v, ov, iv] (setItem ov iv v)
      release [v, ov, iv] []) := by intro _; rfl) (hd : (x == ("__debug__" : Str)) = false := by decide) (hcd : (x == ("__classdict__" : Str)) = false := by decide) :
    SV X EX (.Assign [.Subscript (.Name x p) ix tpos] e pos) (tAsg te (gSub (tVar i) tk rSetL)) (wSetIx i w wk) := ⟨ps_asg h.pe (pg_sub (pe_var hN hv hd hcd) hk.pe set_list ha) hs hw h1, fun Fr H σ ρ E Z ok xl hw en =>
  h.val Fr H σ ρ E.ex _ _ ok xl hw fun d ρ1 z Fr1 H1 q1 ok1 g1 r1 => by
    obtain ⟨kn, q1⟩ := q1
    obtain ⟨sl1, e1, hne⟩ := known_ok kn
    obtain ⟨y, ey, _⟩ := ok1.at_ i sl1 e1 hne
    refine ⟨y, ey, hk.val Fr1 H1 σ ρ1 E.ex _ _ ok1 (xl.go g1) q1 fun k ρ2 kv Fr2 H2 q2 ok2 g2 r2 => ?_⟩
    split at q2
    · rename_i k ds e2
      obtain ⟨j, hj, q2⟩ := q2
      cases r2
      exact ok2.setAt (ds := ds) ey e2 (.inl ⟨rfl, rfl⟩) (r1.mono g2.fr) hj fun H3 ok3 g3 => en.nx Fr2 H3 σ _ q2 ok3 ((g1.trans g2).trans g3)
    · rename_i k ds e2
      obtain ⟨j, hj, q2⟩ := q2
      cases r2
      exact ok2.setAt (ds := ds) ey e2 (.inr ⟨rfl, rfl⟩) (r1.mono g2.fr) hj fun H3 ok3 g3 => en.nx Fr2 H3 σ _ q2 ok3 ((g1.trans g2).trans g3)
    · exact q2.elim⟩
/-! ### if, for, while -/
def wIfS (c : WB) (a b : WS) : WS := fun E ρ => c E.ex ρ fun t ρ1 => if t = true then a E ρ1 else b E ρ1
theorem sv_if {c : Expr} {tc : TT} {wc : WB} {sa sb : List Stmt} {t u : TS} {a b : WS} (hc : ET X EX c tc wc) (ha : SVs X EX sa t a) (hb : SVs X EX sb u b) : SV X EX (.If c sa sb pos) (tIfS tc t u) (wIfS wc a b) := ⟨ps_if hc.pt ha.ps hb.ps, fun Fr H σ ρ E Z ok xl hw en =>
  hc.val Fr H σ ρ E.ex _ _ ok xl hw fun t' ρ1 Fr1 H1 q1 ok1 g1 => by
    cases t' with
    | true =>
      show t Z σ H1
      exact ha.val Fr1 H1 σ ρ1 E Z ok1 (xl.go g1) q1 (en.go g1)
    | false =>
      show u Z σ H1
      exact hb.val Fr1 H1 σ ρ1 E Z ok1 (xl.go g1) q1 (en.go g1)⟩
def wEach (step : D → List Sl → (List Sl → Prop) → Prop) : List D → List Sl → (List Sl → Prop) → Prop
  | [], ρ, Q => Q ρ
  | d :: ds, ρ, Q => step d ρ fun ρ1 => wEach step ds ρ1 Q
def EachAt (step : D → List Sl → (List Sl → Prop) → Prop) (ds : List D) (ρ : List Sl) (Q : List Sl → Prop) (_ : Tg step) (_ : Tg Q) : Prop := wEach step ds ρ Q
def wStep (g : WG) (b : WS) (E : DE) : D → List Sl → (List Sl → Prop) → Prop := fun d ρ nx => g d ρ fun ρ1 => b { E with nx := nx, ct := nx, bk := E.nx } ρ1
def wFor (wi : WI) (g : WG) (b : WS) : WS := fun E ρ => wi E.ex ρ fun ds ρ1 => EachAt (wStep g b E) ds ρ1 E.nx .mk .mk
theorem sv_for {tg iter : Expr} {body : List Stmt} {ti : TI} {g : TG} {tb : TS} {ws : List Nat} {wi : WI} {wg : WG} {wb : WS} (hp : PassesOwn (model X.prog X.w) X.A X.env X.xe) (hc : X.calm = true) (hi : EI X EX tg iter ti wi) (hg : EG X tg g ws wg) (hb : SVs X EX body tb wb)
    (hs : ∀ x, foldedSetIterable iter X.env x = pure x := by intro _; rfl) : SV X EX (.For tg iter body [] pos) (tFor ti g tb) (wFor wi wg wb) := ⟨ps_for hp hc hi.pi hg.pg hb.ps hs, fun Fr H σ ρ E Z ok xl hw en => by
  refine hi.val Fr H σ ρ E.ex _ _ ok xl hw fun ds ρ1 J Fr1 H1 q1 ok1 g1 yl => ?_
  refine ⟨fun i m σ2 H2 => m = ds.length - i ∧ i ≤ ds.length ∧ ∃ Fr2 ρ2, Ok X.K Fr2 H2 σ2 ρ2 ∧ Go Fr1 H1 σ ρ1 Fr2 H2 σ2 ρ2 ∧ wEach (wStep wg wb E) (ds.drop i) ρ2 E.nx, ⟨ds.length, by simp, Nat.zero_le _, Fr1, ρ1, ok1, Go.refl _ _ _ _, q1⟩, ?_⟩
  rintro i m σ2 H2 ⟨rfl, hi', Fr2, ρ2, ok2, g2, hw2⟩
  have s2 : Same Fr1 H2 := g2.fr.trans ok2.ex
  by_cases hlt : i < ds.length
  · refine .inr ⟨yl.go i H2 s2 hlt, fun σ3 H3 => i + 1 ≤ ds.length ∧ ∃ Fr2 ρ2, Ok X.K Fr2 H3 σ3 ρ2 ∧ Go Fr1 H1 σ ρ1 Fr2 H3 σ3 ρ2 ∧ wEach (wStep wg wb E) (ds.drop (i + 1)) ρ2 E.nx, fun σ3 H3 q => ⟨ds.length - (i + 1), by omega, rfl, q⟩, fun x H3 y => ?_⟩
    have hd : ds[i]? = some ds[i] := List.getElem?_eq_getElem hlt
    rw [List.drop_eq_getElem_cons hlt] at hw2
    obtain ⟨Fr3, ok3, g3, r3⟩ := yl.item ok2 g2.fr hd y
    refine hg.val Fr3 H3 σ2 ρ2 x ds[i] _ _ ok3 r3 hw2 fun σ4 ρ4 q4 ok4 g4 _ _ => ?_
    have g24 := g2.trans (g3.trans g4)
    have ge := g1.trans g24
    have again : ∀ (Fr' H' : Hp) (σ' : Sg) (ρ' : List Sl), wEach (wStep wg wb E) (ds.drop (i + 1)) ρ' E.nx → Ok X.K Fr' H' σ' ρ' → Go Fr3 H3 σ4 ρ4 Fr' H' σ' ρ' → i + 1 ≤ ds.length ∧ ∃ Fr2 ρ2, Ok X.K Fr2 H' σ' ρ2 ∧ Go Fr1 H1 σ ρ1 Fr2 H' σ' ρ2 ∧ wEach (wStep wg wb E) (ds.drop (i + 1)) ρ2 E.nx :=
      fun Fr' H' σ' ρ' q ok' g' => ⟨hlt, Fr', ρ', ok', g24.trans g', q⟩
    have en' := en.go ge
    exact hb.val Fr3 H3 σ4 ρ4 { E with nx := fun ρ' => wEach (wStep wg wb E) (ds.drop (i + 1)) ρ' E.nx, ct := fun ρ' => wEach (wStep wg wb E) (ds.drop (i + 1)) ρ' E.nx, bk := E.nx } _ ok4 (xl.go ge) q4 ⟨again, en'.nx, again, en'.rtV, en'.rtO⟩
  · have e : i = ds.length := by omega
    subst e
    rw [List.drop_length] at hw2
    exact .inl ⟨yl.stop H2 s2, en.nx Fr2 H2 σ2 ρ2 hw2 ok2 (g1.trans g2)⟩⟩
def wWh (c : WB) (b : WS) (E : DE) : Nat → List Sl → Prop
  | 0, _ => False
  | n + 1, ρ => c E.ex ρ fun t ρ1 => if t = true then b { E with nx := wWh c b E n, ct := wWh c b E n, bk := E.nx } ρ1 else E.nx ρ1
def WhAt (c : WB) (b : WS) (E : DE) (ρ : List Sl) (_ : Tg c) (_ : Tg b) (_ : Tg E) : Prop := ∃ n, wWh c b E n ρ
def wWhile (c : WB) (b : WS) : WS := fun E ρ => WhAt c b E ρ .mk .mk .mk
theorem sv_while {c : Expr} {body : List Stmt} {tc : TT} {tb : TS} {wc : WB} {wb : WS} (hp : PassesOwn (model X.prog X.w) X.A X.env X.xe) (hc : ET X EX c tc wc) (hb : SVs X EX body tb wb) : SV X EX (.While c body [] pos) (tWhile tc tb) (wWhile wc wb) := ⟨ps_while hp hc.pt hb.ps, fun Fr H σ ρ E Z ok xl hw en => by
  obtain ⟨n, hw⟩ := hw
  refine ⟨fun m σ2 H2 => ∃ Fr2 ρ2, Ok X.K Fr2 H2 σ2 ρ2 ∧ Go Fr H σ ρ Fr2 H2 σ2 ρ2 ∧ wWh wc wb E m ρ2, ⟨n, Fr, ρ, ok, Go.refl _ _ _ _, hw⟩, ?_⟩
  rintro m σ2 H2 ⟨Fr2, ρ2, ok2, g2, hw2⟩
  cases m with
  | zero => exact hw2.elim
  | succ m =>
    refine hc.val Fr2 H2 σ2 ρ2 E.ex _ _ ok2 (xl.go g2) hw2 fun t ρ3 Fr3 H3 q3 ok3 g3 => ?_
    have g23 := g2.trans g3
    cases t with
    | true =>
      rw [if_pos rfl] at q3 ⊢
      have again : ∀ (Fr' H' : Hp) (σ' : Sg) (ρ' : List Sl), wWh wc wb E m ρ' → Ok X.K Fr' H' σ' ρ' → Go Fr3 H3 σ2 ρ3 Fr' H' σ' ρ' → ∃ Fr2 ρ2, Ok X.K Fr2 H' σ' ρ2 ∧ Go Fr H σ ρ Fr2 H' σ' ρ2 ∧ wWh wc wb E m ρ2 :=
        fun Fr' H' σ' ρ' q ok' g' => ⟨Fr', ρ', ok', g23.trans g', q⟩
      have en' := en.go g23
      refine ⟨fun σ' H' => ∃ Fr2 ρ2, Ok X.K Fr2 H' σ' ρ2 ∧ Go Fr H σ ρ Fr2 H' σ' ρ2 ∧ wWh wc wb E m ρ2, fun σ' H' q => ⟨m, Nat.lt_succ_self m, q⟩, ?_⟩
      exact hb.val Fr3 H3 σ2 ρ3 { E with nx := wWh wc wb E m, ct := wWh wc wb E m, bk := E.nx } _ ok3 (xl.go g23) q3 ⟨again, en'.nx, again, en'.rtV, en'.rtO⟩
    | false =>
      rw [if_neg Bool.false_ne_true] at q3 ⊢
      exact en.nx Fr3 H3 σ2 ρ3 q3 ok3 g23⟩
end
end DL

set_option Elab.async false
set_option linter.all false
set_option autoImplicit false
set_option maxRecDepth 100000
set_option maxHeartbeats 1000000
/-! DL, part 6: calls and defs. -/
namespace DL
open PySem PySem.Spec PyProof.Rows L2

/-- what a def does: at these slots (data that stays, or own objects of the caller: lent) the result and the slots behind, or an exception -/
abbrev Con := List Sl → (Sl → List Sl → Prop) → DX → Prop
def RetOk (K : PySem.W.Frag) (Fr' H H' : Hp) (σ : Sg) (ρ' : List Sl) (r : Sl) (x : V) : Prop := match r with
  | .v d => Rep K Fr' x d
  | .o d => ∃ p, x = .ref p ∧ H p = none ∧ Fr' p = none ∧ (∀ i, ¬ Owns σ ρ' i p) ∧ OwnA K Fr' H' p d
  | _ => False
def Sl.noO : Sl → Bool
  | .o _ => false
  | _ => true
def spC (K : PySem.W.Frag) (C : Con) : Sp := fun vs H Q E => ∃ (Fr : Hp) (args : List Sl) (CQ : Sl → List Sl → Prop) (CX : DX), Ok K Fr H (vs.map some) args ∧ args.all Sl.noO = true ∧ C args CQ CX ∧
  (∀ (r : Sl) (args' : List Sl) (x : V) (Fr' H' : Hp), CQ r args' → Ok K Fr' H' (vs.map some) args' → Go Fr H (vs.map some) args Fr' H' (vs.map some) args' → RetOk K Fr' H H' (vs.map some) args' r x → Q x H') ∧
  (∀ (c : Addr) (d : D) (dx : Addr) (y : V) (args' : List Sl) (Fr' H' : Hp), CX c d args' → Ok K Fr' H' (vs.map some) args' → Go Fr H (vs.map some) args Fr' H' (vs.map some) args' → Fr' dx = some (.xd [(("value" : Str), y)]) → Rep K Fr' y d → E (.ref c) (some dx) H')

/-! ### a def's own end -/
/-- the slots behind: the lent ones as they are then -/
def merge : List Sl → List Sl → List Sl
  | [], _ => []
  | .b d :: as, r :: rs => r :: merge as rs
  | a :: as, _ :: rs => a :: merge as rs
  | as, [] => as
theorem merge_length : ∀ as rs : List Sl, (merge as rs).length = as.length
  | [], rs => by unfold merge; rfl
  | .un :: as, [] => by unfold merge; rfl
  | .v d :: as, [] => by unfold merge; rfl
  | .o d :: as, [] => by unfold merge; rfl
  | .b d :: as, [] => by unfold merge; rfl
  | .un :: as, r :: rs => by unfold merge; rw [List.length_cons, List.length_cons, merge_length]
  | .v d :: as, r :: rs => by unfold merge; rw [List.length_cons, List.length_cons, merge_length]
  | .o d :: as, r :: rs => by unfold merge; rw [List.length_cons, List.length_cons, merge_length]
  | .b d :: as, r :: rs => by unfold merge; rw [List.length_cons, List.length_cons, merge_length]
theorem merge_get : ∀ (as rs : List Sl) (j : Nat) (sl : Sl), (merge as rs)[j]? = some sl → (∃ d, as[j]? = some (.b d) ∧ rs[j]? = some sl) ∨ (as[j]? = some sl ∧ ((∀ d, sl ≠ .b d) ∨ rs[j]? = none))
  | [], rs, j, sl, h => by unfold merge at h; simp at h
  | a :: as, [], j, sl, h => by
    have h' : (a :: as)[j]? = some sl := by cases a <;> (unfold merge at h; exact h)
    exact .inr ⟨h', .inr rfl⟩
  | a :: as, r :: rs, 0, sl, h => by
    cases a with
    | b d => unfold merge at h; simp at h; subst h; exact .inl ⟨d, rfl, rfl⟩
    | _ => unfold merge at h; simp at h; subst h; exact .inr ⟨rfl, .inl fun d e => by cases e⟩
  | a :: as, r :: rs, j + 1, sl, h => by
    have h' : (merge as rs)[j]? = some sl := by cases a <;> (unfold merge at h; simpa using h)
    simpa using merge_get as rs j sl h'
theorem start_get {N : List Str} {vs : List V} {j : Nat} (h : j < vs.length) : (start N vs)[j]? = (vs.map some)[j]? := by
  unfold L2.start
  rw [List.getElem?_append_left (by simpa using h)]
theorem noO_at {args : List Sl} {j : Nat} {sl : Sl} (h : args.all Sl.noO = true) (e : args[j]? = some sl) : sl.noO = true := List.all_eq_true.mp h sl (List.mem_of_getElem? e)
theorem Ok.enter {K : PySem.W.Frag} {Fr H : Hp} {N : List Str} {vs : List V} {args : List Sl} (ok : Ok K Fr H (vs.map some) args) : Ok K Fr H (start N vs) (args ++ List.replicate (N.length - vs.length) .un) ∧
    ∀ i p, Owns (start N vs) (args ++ List.replicate (N.length - vs.length) .un) i p → Owns (vs.map some) args i p := by
  have hl : vs.length = args.length := by have := ok.len; rwa [List.length_map] at this
  have at_ : ∀ (j : Nat) (sl : Sl), (args ++ List.replicate (N.length - vs.length) Sl.un)[j]? = some sl → sl ≠ .un → args[j]? = some sl ∧ (start N vs)[j]? = (vs.map some)[j]? := fun j sl h n => by
    by_cases hj : j < args.length
    · rw [List.getElem?_append_left hj] at h
      exact ⟨h, start_get (by rw [hl]; exact hj)⟩
    · rw [List.getElem?_append_right (by omega), List.getElem?_replicate] at h
      split at h
      · cases h; exact absurd rfl n
      · cases h
  have ow : ∀ i p, Owns (start N vs) (args ++ List.replicate (N.length - vs.length) .un) i p → Owns (vs.map some) args i p := by
    rintro i p ⟨sl, h1, h2, h3⟩
    obtain ⟨e1, e2⟩ := at_ i sl h1 (by rintro rfl; cases h2)
    exact ⟨sl, e1, h2, e2 ▸ h3⟩
  refine ⟨⟨ok.ex, ?_, fun j sl h n => ?_, fun i j p h1 h2 => ok.sep i j p (ow _ _ h1) (ow _ _ h2)⟩, ow⟩
  · unfold L2.start
    rw [List.length_append, List.length_append, List.length_map, List.length_replicate, List.length_replicate, hl]
  · obtain ⟨e1, e2⟩ := at_ j sl h n
    rw [e2]
    exact ok.at_ j sl e1 n
theorem Ok.leave {K : PySem.W.Frag} {Fr H Fr' H' : Hp} {N : List Str} {vs : List V} {args ρ' : List Sl} {σ' : Sg} (ok : Ok K Fr H (vs.map some) args) (no : args.all Sl.noO = true) (ok' : Ok K Fr' H' σ' ρ') (g : Go Fr H (start N vs) (args ++ List.replicate (N.length - vs.length) .un) Fr' H' σ' ρ') :
    Ok K Fr' H' (vs.map some) (merge args ρ') ∧ Go Fr H (vs.map some) args Fr' H' (vs.map some) (merge args ρ') ∧ ∀ i p, Owns (vs.map some) (merge args ρ') i p → Owns σ' ρ' i p := by
  have hl : vs.length = args.length := by have := ok.len; rwa [List.length_map] at this
  have lent : ∀ (j : Nat) (d : D), args[j]? = some (.b d) → ∃ d', ρ'[j]? = some (.b d') ∧ σ'[j]? = (vs.map some)[j]? := fun j d h => by
    have hj : j < args.length := (List.getElem?_eq_some_iff.mp h).1
    obtain ⟨d', e1, e2⟩ := g.bor j d (by rw [List.getElem?_append_left hj]; exact h)
    exact ⟨d', e1, e2.trans (start_get (by rw [hl]; exact hj))⟩
  have ow : ∀ i p, Owns (vs.map some) (merge args ρ') i p → Owns σ' ρ' i p ∧ Owns (vs.map some) args i p := by
    rintro i p ⟨sl, h1, h2, h3⟩
    rcases merge_get _ _ _ _ h1 with ⟨d, e1, e2⟩ | ⟨e1, e2⟩
    · obtain ⟨d', e3, e4⟩ := lent i d e1
      exact ⟨⟨sl, e2, h2, e4.trans h3⟩, .b d, e1, rfl, h3⟩
    · have := noO_at no e1
      cases sl with
      | o d => cases this
      | b d =>
        obtain ⟨d', e3, e4⟩ := lent i d e1
        rcases e2 with e2 | e2
        · exact absurd rfl (e2 d)
        · rw [e3] at e2; cases e2
      | _ => cases h2
  have ow0 := (ok.enter (N := N)).2
  refine ⟨⟨ok'.ex, by rw [merge_length, List.length_map]; exact hl, fun j sl h n => ?_, fun i j p h1 h2 => ok'.sep i j p (ow _ _ h1).1 (ow _ _ h2).1⟩,
    ⟨g.fr, fun a o h q => g.keep a o h fun i z => q i (ow0 i a z), fun a h => (g.new a h).imp_right fun z => z.imp_left fun ⟨i, q⟩ => ⟨i, ow0 i a q⟩, fun i a h => .inl ⟨i, (ow i a h).2⟩, g.dom, fun i d h => ?_⟩, fun i p h => (ow i p h).1⟩
  · rcases merge_get _ _ _ _ h with ⟨d, e1, e2⟩ | ⟨e1, e2⟩
    · obtain ⟨d', e3, e4⟩ := lent j d e1
      rw [← e4]
      exact ok'.at_ j sl e2 n
    · obtain ⟨x, ex, q⟩ := ok.at_ j sl e1 n
      refine ⟨x, ex, ?_⟩
      have := noO_at no e1
      cases sl with
      | un => exact True.intro
      | v d => exact Rep.mono g.fr q
      | o d => cases this
      | b d =>
        obtain ⟨d', e3, e4⟩ := lent j d e1
        rcases e2 with e2 | e2
        · exact absurd rfl (e2 d)
        · rw [e3] at e2; cases e2
  · obtain ⟨d', e3, e4⟩ := lent i d h
    have hj : i < (merge args ρ').length := by rw [merge_length]; exact (List.getElem?_eq_some_iff.mp h).1
    have hm := List.getElem?_eq_getElem hj
    rcases merge_get _ _ _ _ hm with ⟨d2, e1, e2⟩ | ⟨e1, e2⟩
    · rw [e3] at e2
      exact ⟨d', by rw [hm]; exact e2.symm, rfl⟩
    · rw [h] at e1
      rcases e2 with e2 | e2
      · exact absurd (Option.some.inj e1).symm (e2 d)
      · rw [e3] at e2; cases e2
/-- the ends of a def's body -/
def dEnds (CQ : Sl → List Sl → Prop) (CX : DX) (args : List Sl) : DE where
  nx := fun ρ => CQ (.v .non) (merge args ρ)
  rt := fun r ρ => CQ r (merge args ρ)
  bk := fun _ => False
  ct := fun _ => False
  ex := fun c d ρ => CX c d (merge args ρ)
section
variable {P : Program} {w : World} {K : PySem.W.Frag} {mg : Str → Option Value} {base : Heap}
/-- a def keeps its contract: its body -/
theorem fnC {x qual : Str} {st : Stmt} {f : Addr} {fd : FuncData} {N ps : List Str} {k : Nat} {C : Con} (F : Fun K x qual st f fd) (S : FnScope N ps (defScope st)) (hC : ∀ args CQ CX, C args CQ CX → args.length = ps.length)
    (hbody : ∀ (cdv : Value) (A : Around) (outer : List Env) (s : Shared) (H : Hp) (E : XK), Room k (A.deeper (envOfC qual (defScope st) s.heap.objs.size f cdv)) →
      ∃ t w', SVs (cxOf (L2.CX P w) P w K mg base N qual (defScope st) f cdv A outer s H E) E (defBody st) t w' ∧ ∀ (args : List Sl) (CQ : Sl → List Sl → Prop) (CX : DX), C args CQ CX → w' (dEnds CQ CX args) (args ++ List.replicate (N.length - ps.length) .un)) :
    FnOk P w K mg base (L2.CX P w) (k + 1) f fd ps (spC K C) := by
  refine F.okX S (fun vs H Q E ⟨Fr, args, CQ, CX, ok, no, h, _⟩ => by have := ok.len; rw [List.length_map] at this; rw [this]; exact hC _ _ _ h) fun cdv A outer s H vs Q E hr hsp => ?_
  obtain ⟨Fr, args, CQ, CX, ok, no, hc, kQ, kX⟩ := hsp
  obtain ⟨t, w', h, hw⟩ := hbody cdv A outer s H E hr
  have hl : vs.length = args.length := by have := ok.len; rwa [List.length_map] at this
  have hw := hw args CQ CX hc
  rw [show ps.length = vs.length from (hl.trans (hC _ _ _ hc)).symm] at hw
  obtain ⟨ok0, ow0⟩ := ok.enter (N := N)
  refine ⟨t, h.ps, h.val Fr H (start N vs) _ (dEnds CQ CX args) _ ok0 (fun c d dx y Fr' H' σ' ρ' hx ok' g hd r => ?_) hw ⟨fun Fr' H' σ' ρ' q ok' g => ?_, fun _ _ _ _ q => q.elim, fun _ _ _ _ q => q.elim, fun Fr' H' σ' ρ' d y q ok' g r => ?_, fun Fr' H' σ' ρ' d p q ok' g hp hf hn z => ?_⟩⟩
  all_goals
    obtain ⟨ok2, g2, ow2⟩ := ok.leave no ok' g
  · exact kX c d dx y _ Fr' H' hx ok2 g2 hd r
  · exact kQ (.v .non) _ .non Fr' H' q ok2 g2 .non
  · exact kQ (.v d) _ y Fr' H' q ok2 g2 r
  · refine kQ (.o d) _ _ Fr' H' q ok2 g2 ⟨p, rfl, ?_, hf, fun i hi => hn i (ow2 i p hi), z⟩
    rcases hp with hp | ⟨j, hp⟩
    · exact hp
    · have o1 := ow0 j p hp
      obtain ⟨sl, h1, h2, h3⟩ := o1
      have := noO_at no h1
      cases sl with
      | o d => cases this
      | b d0 =>
        obtain ⟨d', e1, e2⟩ := g.bor j d0 (by rw [List.getElem?_append_left (List.getElem?_eq_some_iff.mp h1).1]; exact h1)
        exact absurd ⟨.b d', e1, rfl, e2.trans ((start_get (by rw [hl]; exact (List.getElem?_eq_some_iff.mp h1).1)).trans h3)⟩ (hn j)
      | _ => cases h2
end

/-! ### calls -/
inductive AR where
  | v (d : D) | l (i : Nat)
def ArsOk (K : PySem.W.Frag) (Fr : Hp) (σ : Sg) : List V → List AR → Prop
  | [], [] => True
  | x :: xs, .v d :: as => Rep K Fr x d ∧ ArsOk K Fr σ xs as
  | x :: xs, .l i :: as => σ[i]? = some (some x) ∧ ArsOk K Fr σ xs as
  | _, _ => False
theorem ArsOk.mono {K : PySem.W.Frag} {Fr Fr' : Hp} {σ : Sg} (e : Same Fr Fr') : ∀ {xs : List V} {as : List AR}, ArsOk K Fr σ xs as → ArsOk K Fr' σ xs as
  | [], [], _ => True.intro
  | x :: xs, .v d :: as, h => ⟨h.1.mono e, h.2.mono e⟩
  | x :: xs, .l i :: as, h => ⟨h.1, h.2.mono e⟩
theorem ArsOk.get {K : PySem.W.Frag} {Fr : Hp} {σ : Sg} : ∀ {xs : List V} {as : List AR} {k : Nat} {a : AR}, ArsOk K Fr σ xs as → as[k]? = some a → ∃ x, xs[k]? = some x ∧ (match a with
    | .v d => Rep K Fr x d
    | .l i => σ[i]? = some (some x))
  | [], [], k, a, _, e => by simp at e
  | x :: xs, .v d :: as, 0, a, h, e => by simp at e; subst e; exact ⟨x, rfl, h.1⟩
  | x :: xs, .l i :: as, 0, a, h, e => by simp at e; subst e; exact ⟨x, rfl, h.1⟩
  | x :: xs, .v d :: as, k + 1, a, h, e => by simpa using h.2.get (by simpa using e)
  | x :: xs, .l i :: as, k + 1, a, h, e => by simpa using h.2.get (by simpa using e)
theorem ArsOk.length {K : PySem.W.Frag} {Fr : Hp} {σ : Sg} : ∀ {xs : List V} {as : List AR}, ArsOk K Fr σ xs as → xs.length = as.length
  | [], [], _ => rfl
  | x :: xs, .v d :: as, h => congrArg Nat.succ h.2.length
  | x :: xs, .l i :: as, h => congrArg Nat.succ h.2.length
abbrev WA := DX → List Sl → (List AR → List Sl → Prop) → Prop
/-- arguments: data, or own objects lent -/
structure EA (X : Cx) (EX : XK) (es : List Expr) (ta : TA) (w : WA) : Prop where
  pa : PA X es ta
  val : ∀ (Fr H : Hp) (σ : Sg) (ρ : List Sl) (ex : DX) (QV : List AR → List Sl → Prop) (Q : List V → Hp → Prop), Ok X.K Fr H σ ρ → XL X.K EX ex Fr H σ ρ → w ex ρ QV →
    (∀ (as : List AR) (ρ' : List Sl) (xs : List V) (Fr' H' : Hp), QV as ρ' → Ok X.K Fr' H' σ ρ' → Go Fr H σ ρ Fr' H' σ ρ' → ArsOk X.K Fr' σ xs as → Q xs H') → ta σ H Q
def wANil : WA := fun _ ρ Q => Q [] ρ
def wAV (w : WV) (r : WA) : WA := fun ex ρ Q => w ex ρ fun d ρ1 => r ex ρ1 fun as ρ2 => Q (.v d :: as) ρ2
def wAL (i : Nat) (r : WA) : WA := fun ex ρ Q => known ρ i = true ∧ r ex ρ fun as ρ2 => Q (.l i :: as) ρ2
section
variable {X : Cx} {EX : XK}
theorem ea_nil : EA X EX [] tNil wANil := ⟨pa_nil, fun Fr H σ ρ ex QV Q ok xl hw k => k [] ρ [] Fr H hw ok (Go.refl _ _ _ _) True.intro⟩
theorem ea_v {e : Expr} {es : List Expr} {te : TE} {t : TA} {w : WV} {r : WA} (ha : EV X EX e te w) (hr : EA X EX es t r) (hs : starEach (e :: es) X.env = (false, eval e X.env) :: starEach es X.env := by rfl) :
    EA X EX (e :: es) (tCons te t) (wAV w r) := ⟨pa_cons ha.pe hr.pa hs, fun Fr H σ ρ ex QV Q ok xl hw k => ha.val Fr H σ ρ ex _ _ ok xl hw fun d ρ1 x Fr1 H1 q1 ok1 g1 r1 =>
      hr.val Fr1 H1 σ ρ1 ex _ _ ok1 (xl.go g1) q1 fun as ρ2 xs Fr2 H2 q2 ok2 g2 r2 => k (.v d :: as) ρ2 (x :: xs) Fr2 H2 q2 ok2 (g1.trans g2) ⟨r1.mono g2.fr, r2⟩⟩
theorem ea_l (i : Nat) {x : Str} {p : Pos} {es : List Expr} {t : TA} {r : WA} (hr : EA X EX es t r) (hN : X.N[i]? = some x := by rfl) (hv : Vis X.env.scope x := by first | exact Or.inl rfl | exact Or.inr (Or.inl rfl) | exact Or.inr (Or.inr rfl)) (hd : (x == ("__debug__" : Str)) = false := by decide)
    (hcd : (x == ("__classdict__" : Str)) = false := by decide) (hs : starEach (.Name x p :: es) X.env = (false, eval (.Name x p) X.env) :: starEach es X.env := by rfl) :
    EA X EX (.Name x p :: es) (tCons (tVar i) t) (wAL i r) := ⟨pa_cons (pe_var hN hv hd hcd) hr.pa hs, fun Fr H σ ρ ex QV Q ok xl hw k => by
      obtain ⟨sl, e1, hne⟩ := known_ok hw.1
      obtain ⟨y, ey, _⟩ := ok.at_ i sl e1 hne
      exact ⟨y, ey, hr.val Fr H σ ρ ex _ _ ok xl hw.2 fun as ρ2 xs Fr2 H2 q2 ok2 g2 r2 => k (.l i :: as) ρ2 (y :: xs) Fr2 H2 q2 ok2 g2 ⟨ey, r2⟩⟩⟩
end
def arS (ρ : List Sl) : AR → Option Sl
  | .v d => some (.v d)
  | .l i => match ρ[i]? with
    | some (.o d) => some (.b d)
    | some (.b d) => some (.b d)
    | _ => none
def argS (ρ : List Sl) : List AR → Option (List Sl)
  | [] => some []
  | a :: as => match arS ρ a, argS ρ as with
    | some s, some ss => some (s :: ss)
    | _, _ => none
def hasL (i : Nat) : List AR → Bool
  | [] => false
  | .v _ :: as => hasL i as
  | .l j :: as => decide (j = i) || hasL i as
def ndL : List AR → Bool
  | [] => true
  | .v _ :: as => ndL as
  | .l j :: as => !hasL j as && ndL as
def Sl.up : Sl → D → Sl
  | .b _, d => .b d
  | _, d => .o d
def putB : List Sl → List AR → List Sl → List Sl
  | ρ, .l i :: as, .b d :: bs => putB (ρ.set i ((ρ.getD i .un).up d)) as bs
  | ρ, _ :: as, _ :: bs => putB ρ as bs
  | ρ, _, _ => ρ
theorem argS_get {ρ : List Sl} : ∀ {as : List AR} {ss : List Sl} {k : Nat} {s : Sl}, argS ρ as = some ss → ss[k]? = some s → ∃ a, as[k]? = some a ∧ arS ρ a = some s
  | [], ss, k, s, h, e => by cases h; simp at e
  | a :: as, ss, k, s, h, e => by
    unfold argS at h
    split at h
    · rename_i s1 ss1 h1 h2
      cases h
      cases k with
      | zero => simp at e; subst e; exact ⟨a, rfl, h1⟩
      | succ k => simpa using argS_get h2 (by simpa using e)
    · cases h
theorem argS_length {ρ : List Sl} : ∀ {as : List AR} {ss : List Sl}, argS ρ as = some ss → ss.length = as.length
  | [], ss, h => by cases h; rfl
  | a :: as, ss, h => by
    unfold argS at h
    split at h
    · rename_i s1 ss1 h1 h2
      cases h
      exact congrArg Nat.succ (argS_length h2)
    · cases h
theorem hasL_of {i : Nat} : ∀ {as : List AR} {k : Nat}, as[k]? = some (.l i) → hasL i as = true
  | [], k, e => by simp at e
  | a :: as, 0, e => by simp at e; subst e; simp [hasL]
  | .v d :: as, k + 1, e => by unfold hasL; exact hasL_of (k := k) (by simpa using e)
  | .l j :: as, k + 1, e => by unfold hasL; rw [hasL_of (k := k) (by simpa using e), Bool.or_true]
theorem ndL_inj {i : Nat} : ∀ {as : List AR} {k l : Nat}, ndL as = true → as[k]? = some (.l i) → as[l]? = some (.l i) → k = l
  | [], k, l, _, e, _ => by simp at e
  | a :: as, 0, 0, _, _, _ => rfl
  | a :: as, 0, l + 1, h, e, e2 => by
    simp at e; subst e
    unfold ndL at h
    rw [hasL_of (k := l) (by simpa using e2)] at h
    cases h
  | a :: as, k + 1, 0, h, e, e2 => by
    simp at e2; subst e2
    unfold ndL at h
    rw [hasL_of (k := k) (by simpa using e)] at h
    cases h
  | a :: as, k + 1, l + 1, h, e, e2 => by
    have h' : ndL as = true := by
      cases a with
      | v d => unfold ndL at h; exact h
      | l j => unfold ndL at h; exact (Bool.and_eq_true_iff.mp h).2
    rw [ndL_inj (k := k) (l := l) h' (by simpa using e) (by simpa using e2)]
theorem putB_length : ∀ (ρ : List Sl) (as : List AR) (bs : List Sl), (putB ρ as bs).length = ρ.length
  | ρ, [], bs => by unfold putB; rfl
  | ρ, a :: as, [] => by cases a <;> (unfold putB; rfl)
  | ρ, .v d :: as, b :: bs => by cases b <;> (unfold putB; exact putB_length ρ as bs)
  | ρ, .l i :: as, .b d :: bs => by unfold putB; rw [putB_length, List.length_set]
  | ρ, .l i :: as, .un :: bs => by unfold putB; exact putB_length ρ as bs
  | ρ, .l i :: as, .v _ :: bs => by unfold putB; exact putB_length ρ as bs
  | ρ, .l i :: as, .o _ :: bs => by unfold putB; exact putB_length ρ as bs
theorem putB_get : ∀ (ρ : List Sl) (as : List AR) (bs : List Sl) (j : Nat) (sl : Sl), ndL as = true → (putB ρ as bs)[j]? = some sl →
    (ρ[j]? = some sl ∧ ∀ k : Nat, as[k]? = some (AR.l j) → ∀ d : D, bs[k]? ≠ some (Sl.b d)) ∨ ∃ (k : Nat) (d : D) (s0 : Sl), as[k]? = some (AR.l j) ∧ bs[k]? = some (Sl.b d) ∧ ρ[j]? = some s0 ∧ sl = s0.up d
  | ρ, [], bs, j, sl, nd, h => by unfold putB at h; exact .inl ⟨h, fun k e => by simp at e⟩
  | ρ, a :: as, [], j, sl, nd, h => by
    have h' : ρ[j]? = some sl := by cases a <;> (unfold putB at h; exact h)
    exact .inl ⟨h', fun k _ d e => by simp at e⟩
  | ρ, .v d :: as, b :: bs, j, sl, nd, h => by
    have h' : (putB ρ as bs)[j]? = some sl := by cases b <;> (unfold putB at h; exact h)
    rcases putB_get ρ as bs j sl (by unfold ndL at nd; exact nd) h' with ⟨h1, h2⟩ | ⟨k, d', s0, e1, e2, e3, e4⟩
    · refine .inl ⟨h1, fun k e => ?_⟩
      cases k with
      | zero => simp at e
      | succ k => simpa using h2 k (by simpa using e)
    · exact .inr ⟨k + 1, d', s0, by simpa using e1, by simpa using e2, e3, e4⟩
  | ρ, .l i :: as, b :: bs, j, sl, nd, h => by
    have nd2 : hasL i as = false ∧ ndL as = true := by
      unfold ndL at nd
      simpa using nd
    by_cases hb : ∃ d, b = .b d
    · obtain ⟨d, rfl⟩ := hb
      unfold putB at h
      rcases putB_get _ as bs j sl nd2.2 h with ⟨h1, h2⟩ | ⟨k, d', s0, e1, e2, e3, e4⟩
      · rcases get_set h1 with ⟨rfl, rfl, hl⟩ | ⟨hne, h1⟩
        · exact .inr ⟨0, d, _, rfl, rfl, List.getElem?_eq_getElem hl, by rw [List.getD_eq_getElem?_getD, List.getElem?_eq_getElem hl]; rfl⟩
        · refine .inl ⟨h1, fun k e => ?_⟩
          cases k with
          | zero => simp at e; exact absurd e.symm hne
          | succ k => simpa using h2 k (by simpa using e)
      · have hne : j ≠ i := by
          rintro rfl
          rw [hasL_of e1] at nd2
          cases nd2.1
        rw [List.getElem?_set_ne (Ne.symm hne)] at e3
        exact .inr ⟨k + 1, d', s0, by simpa using e1, by simpa using e2, e3, e4⟩
    · have h' : (putB ρ as bs)[j]? = some sl := by
        cases b with
        | b d => exact absurd ⟨d, rfl⟩ hb
        | _ => unfold putB at h; exact h
      rcases putB_get ρ as bs j sl nd2.2 h' with ⟨h1, h2⟩ | ⟨k, d', s0, e1, e2, e3, e4⟩
      · refine .inl ⟨h1, fun k e => ?_⟩
        cases k with
        | zero => intro d e2; simp at e2; exact hb ⟨d, e2⟩
        | succ k => simpa using h2 k (by simpa using e)
      · exact .inr ⟨k + 1, d', s0, by simpa using e1, by simpa using e2, e3, e4⟩
theorem arS_l {ρ : List Sl} {i : Nat} {s : Sl} (h : arS ρ (.l i) = some s) : ∃ d s0, s = .b d ∧ ρ[i]? = some s0 ∧ (s0 = .o d ∨ s0 = .b d) := by
  have h : (match ρ[i]? with
    | some (.o d) => some (Sl.b d)
    | some (.b d) => some (Sl.b d)
    | _ => none) = some s := h
  cases e : ρ[i]? with
  | none => rw [e] at h; cases h
  | some s0 =>
    rw [e] at h
    cases s0 with
    | o d => cases h; exact ⟨d, _, rfl, rfl, .inl rfl⟩
    | b d => cases h; exact ⟨d, _, rfl, rfl, .inr rfl⟩
    | _ => cases h
theorem Ok.lend {K : PySem.W.Frag} {Fr H : Hp} {σ : Sg} {ρ args : List Sl} {as : List AR} {xs : List V} (ok : Ok K Fr H σ ρ) (ha : argS ρ as = some args) (nd : ndL as = true) (r : ArsOk K Fr σ xs as) :
    Ok K Fr H (xs.map some) args ∧ args.all Sl.noO = true ∧ (∀ k p, Owns (xs.map some) args k p → ∃ j, as[k]? = some (.l j) ∧ Owns σ ρ j p) := by
  have hx : ∀ (k : Nat) (x : V), xs[k]? = some x → (xs.map some)[k]? = some (some x) := fun k x e => by rw [List.getElem?_map, e]; rfl
  have ow : ∀ k p, Owns (xs.map some) args k p → ∃ j, as[k]? = some (.l j) ∧ Owns σ ρ j p := by
    rintro k p ⟨sl, h1, h2, h3⟩
    obtain ⟨a, e1, e2⟩ := argS_get ha h1
    obtain ⟨x, e3, e4⟩ := r.get e1
    rw [hx k x e3] at h3
    cases h3
    cases a with
    | v d => cases e2; cases h2
    | l j =>
      obtain ⟨d, s0, rfl, e5, e6⟩ := arS_l e2
      exact ⟨j, e1, s0, e5, by rcases e6 with rfl | rfl <;> rfl, e4⟩
  refine ⟨⟨ok.ex, by rw [List.length_map, r.length, argS_length ha], fun k sl h n => ?_, fun k l p h1 h2 => ?_⟩, List.all_eq_true.mpr fun sl hm => ?_, ow⟩
  · obtain ⟨a, e1, e2⟩ := argS_get ha h
    obtain ⟨x, e3, e4⟩ := r.get e1
    refine ⟨x, hx k x e3, ?_⟩
    cases a with
    | v d => cases e2; exact e4
    | l j =>
      obtain ⟨d, s0, rfl, e5, e6⟩ := arS_l e2
      obtain ⟨x', e7, e8⟩ := ok.at_ j s0 e5 (by rcases e6 with rfl | rfl <;> simp)
      have e4 : σ[j]? = some (some x) := e4
      rw [e4] at e7; cases e7
      rcases e6 with rfl | rfl <;> exact e8
  · obtain ⟨j1, a1, o1⟩ := ow k p h1
    obtain ⟨j2, a2, o2⟩ := ow l p h2
    have e := ok.sep j1 j2 p o1 o2
    subst e
    exact ndL_inj nd a1 a2
  · obtain ⟨k, hk⟩ := List.getElem?_of_mem hm
    obtain ⟨a, e1, e2⟩ := argS_get ha hk
    cases a with
    | v d => cases e2; rfl
    | l j =>
      obtain ⟨d, s0, rfl, _, _⟩ := arS_l e2
      rfl
theorem Ok.back {K : PySem.W.Frag} {Fr H Fr' H' : Hp} {σ : Sg} {ρ args args' : List Sl} {as : List AR} {xs : List V} (ok : Ok K Fr H σ ρ) (ha : argS ρ as = some args) (nd : ndL as = true) (r : ArsOk K Fr σ xs as)
    (ok' : Ok K Fr' H' (xs.map some) args') (g : Go Fr H (xs.map some) args Fr' H' (xs.map some) args') : Ok K Fr' H' σ (putB ρ as args') ∧ Go Fr H σ ρ Fr' H' σ (putB ρ as args') ∧ ∀ i p, Owns σ (putB ρ as args') i p → Owns σ ρ i p := by
  obtain ⟨okA, noA, owA⟩ := ok.lend ha nd r
  have lent : ∀ (k j : Nat), as[k]? = some (.l j) → ∃ d d' s0 x, args[k]? = some (.b d) ∧ args'[k]? = some (.b d') ∧ ρ[j]? = some s0 ∧ (s0 = .o d ∨ s0 = .b d) ∧ σ[j]? = some (some x) ∧ xs[k]? = some x := fun k j e => by
    have hk : k < args.length := by rw [argS_length ha]; exact (List.getElem?_eq_some_iff.mp e).1
    have e0 := List.getElem?_eq_getElem hk
    obtain ⟨a, e1, e2⟩ := argS_get ha e0
    rw [e] at e1; cases e1
    obtain ⟨d, s0, e3, e4, e5⟩ := arS_l e2
    rw [e3] at e0
    obtain ⟨d', e6, _⟩ := g.bor k d e0
    obtain ⟨x, e7, e8⟩ := r.get e
    exact ⟨d, d', s0, x, e0, e6, e4, e5, e8, e7⟩
  have ow : ∀ i p, Owns σ (putB ρ as args') i p → Owns σ ρ i p := by
    rintro j p ⟨sl, h1, h2, h3⟩
    rcases putB_get ρ as args' j sl nd h1 with ⟨e1, _⟩ | ⟨k, d, s0, e1, e2, e3, e4⟩
    · exact ⟨sl, e1, h2, h3⟩
    · obtain ⟨d1, d', s1, x, _, _, e5, e6, _, _⟩ := lent k j e1
      rw [e3] at e5; cases e5
      exact ⟨s0, e3, by rcases e6 with rfl | rfl <;> rfl, h3⟩
  refine ⟨⟨ok'.ex, by rw [putB_length]; exact ok.len, fun j sl h n => ?_, fun i j p h1 h2 => ok.sep i j p (ow _ _ h1) (ow _ _ h2)⟩,
    ⟨g.fr, fun a o h q => g.keep a o h fun k z => ?_, fun a h => (g.new a h).imp_right fun z => z.imp_left fun ⟨k, q⟩ => (owA k a q).elim fun j o => ⟨j, o.2⟩, fun i a h => .inl ⟨i, ow i a h⟩, g.dom, fun i d h => ?_⟩, ow⟩
  · rcases putB_get ρ as args' j sl nd h with ⟨e1, e2⟩ | ⟨k, d, s0, e1, e2, e3, e4⟩
    · obtain ⟨x, ex, q⟩ := ok.at_ j sl e1 n
      refine ⟨x, ex, ?_⟩
      have mv : ∀ d, OwnV K Fr H x d → sl.own = true → OwnV K Fr' H' x d := by
        rintro d ⟨p, rfl, hf, z⟩ so
        have no : ∀ k, ¬ Owns (xs.map some) args k p := fun k hk => by
          obtain ⟨j2, a2, o2⟩ := owA k p hk
          have := ok.sep j j2 p ⟨sl, e1, so, ex⟩ o2
          subst this
          obtain ⟨_, d', _, _, _, e5, _⟩ := lent k j a2
          exact e2 k a2 d' e5
        refine ⟨p, rfl, ?_, z.move g.fr fun o ho => g.keep p o ho no⟩
        cases hq : Fr' p with
        | none => rfl
        | some u =>
          rcases g.new p (by rw [hq]; simp) with h1 | ⟨k, h1⟩ | h1
          · exact absurd hf h1
          · exact absurd h1 (no k)
          · obtain ⟨o, ho⟩ := z.there
            rw [h1] at ho; cases ho
      cases sl with
      | un => exact True.intro
      | v d => exact Rep.mono g.fr q
      | o d => exact mv d q rfl
      | b d => exact mv d q rfl
    · obtain ⟨d1, d', s1, x, _, e5, e6, e7, e8, e9⟩ := lent k j e1
      rw [e2] at e5; cases e5
      rw [e3] at e6; cases e6
      obtain ⟨x', ex', q⟩ := ok'.at_ k _ e2 (by simp)
      rw [List.getElem?_map, e9] at ex'
      cases ex'
      refine ⟨x, e8, ?_⟩
      subst e4
      rcases e7 with rfl | rfl <;> exact q
  · obtain ⟨j, _, o⟩ := owA k a z
    exact q j o
  · have hl : i < (putB ρ as args').length := by rw [putB_length]; exact (List.getElem?_eq_some_iff.mp h).1
    have e0 := List.getElem?_eq_getElem hl
    rcases putB_get ρ as args' i _ nd e0 with ⟨e1, _⟩ | ⟨k, d', s0, e1, e2, e3, e4⟩
    · rw [h] at e1
      exact ⟨d, by rw [e0]; exact e1.symm, rfl⟩
    · rw [h] at e3
      cases e3
      exact ⟨d', by rw [e0, e4]; rfl, rfl⟩
/-- a contract at its slots; simp leaves the ends as they stand -/
def At (C : Con) (args : List Sl) (CQ : Sl → List Sl → Prop) (CX : DX) (_ : Tg CQ) (_ : Tg CX) : Prop := C args CQ CX
def wCall (C : Con) (wa : WA) : WV := fun ex ρ Q => wa ex ρ fun as ρ1 => ndL as = true ∧ ∃ args, argS ρ1 as = some args ∧ At C args (fun r args' => match r with
    | .v d => Q d (putB ρ1 as args')
    | _ => False) (fun c d args' => ex c d (putB ρ1 as args')) .mk .mk
def wCallO (C : Con) (wa : WA) : WV := fun ex ρ Q => wa ex ρ fun as ρ1 => ndL as = true ∧ ∃ args, argS ρ1 as = some args ∧ At C args (fun r args' => match r with
    | .o d => Q d (putB ρ1 as args')
    | _ => False) (fun c d args' => ex c d (putB ρ1 as args')) .mk .mk
/-- the promise at a call -/
theorem Ok.call {K : PySem.W.Frag} {EX : XK} {Fr H Fr0 H0 : Hp} {σ : Sg} {ρ ρ0 args : List Sl} {as : List AR} {xs : List V} {C : Con} {ex : DX} {Q : VK} {CQ : Sl → List Sl → Prop} (ok : Ok K Fr H σ ρ) (g0 : Go Fr0 H0 σ ρ0 Fr H σ ρ) (xl : XL K EX ex Fr0 H0 σ ρ0) (ha : argS ρ as = some args) (nd : ndL as = true) (r : ArsOk K Fr σ xs as)
    (hC : C args CQ fun c d args' => ex c d (putB ρ as args'))
    (kk : ∀ (r : Sl) (args' : List Sl) (x : V) (Fr' H' : Hp), CQ r args' → Ok K Fr' H' σ (putB ρ as args') → Go Fr0 H0 σ ρ0 Fr' H' σ (putB ρ as args') → RetOk K Fr' H0 H' σ (putB ρ as args') r x → Q x H') : spC K C xs H Q EX := by
  obtain ⟨okA, noA, owA⟩ := ok.lend ha nd r
  refine ⟨Fr, args, CQ, _, okA, noA, hC, fun r' args' x Fr' H' q ok' g hr => ?_, fun c d dx y args' Fr' H' q ok' g hd ry => ?_⟩
  · obtain ⟨ok2, g2, ow2⟩ := ok.back ha nd r ok' g
    refine kk r' args' x Fr' H' q ok2 (g0.trans g2) ?_
    cases r' with
    | v d => exact hr
    | o d =>
      obtain ⟨p, rfl, hp, hf, hn, z⟩ := hr
      refine ⟨p, rfl, g0.dom p hp, hf, fun i hi => ?_, z⟩
      have := ow2 i p hi
      obtain ⟨o, ho⟩ := ok.own_there this
      rw [hp] at ho; cases ho
    | _ => exact (show False from hr).elim
  · obtain ⟨ok2, g2, ow2⟩ := ok.back ha nd r ok' g
    exact xl c d dx y Fr' H' σ _ q ok2 (g0.trans g2) hd ry
section
variable {X : Cx} {EX : XK} {C : Con} {es : List Expr} {t : TA} {wa : WA}
theorem valCall (ha : EA X EX es t wa) (Fr H : Hp) (σ : Sg) (ρ : List Sl) (ex : DX) (QV : D → List Sl → Prop) (Q : VK) (ok : Ok X.K Fr H σ ρ) (xl : XL X.K EX ex Fr H σ ρ) (hw : wCall C wa ex ρ QV)
    (kk : ∀ (d : D) (ρ' : List Sl) (x : V) (Fr' H' : Hp), QV d ρ' → Ok X.K Fr' H' σ ρ' → Go Fr H σ ρ Fr' H' σ ρ' → Rep X.K Fr' x d → Q x H') : tCall (spC X.K C) [] EX t σ H Q :=
  ha.val Fr H σ ρ ex _ _ ok xl hw fun as ρ1 xs Fr1 H1 q1 ok1 g1 r1 => by
    obtain ⟨nd, args, h1, hC⟩ := q1
    show spC X.K C (xs ++ []) H1 Q EX
    rw [List.append_nil]
    refine ok1.call g1 xl h1 nd r1 hC fun r args' x Fr' H' q ok2 g2 hr => ?_
    cases r with
    | v d => exact kk d _ x Fr' H' q ok2 g2 hr
    | _ => exact (show False from q).elim
theorem valCallO (ha : EA X EX es t wa) (Fr H : Hp) (σ : Sg) (ρ : List Sl) (ex : DX) (QV : D → List Sl → Prop) (Q : VK) (ok : Ok X.K Fr H σ ρ) (xl : XL X.K EX ex Fr H σ ρ) (hw : wCallO C wa ex ρ QV)
    (kk : ∀ (d : D) (ρ' : List Sl) (p : Addr) (Fr' H' : Hp), QV d ρ' → Ok X.K Fr' H' σ ρ' → Go Fr H σ ρ Fr' H' σ ρ' → H p = none → Fr' p = none → (∀ i, ¬ Owns σ ρ' i p) → OwnA X.K Fr' H' p d → Q (.ref p) H') : tCall (spC X.K C) [] EX t σ H Q :=
  ha.val Fr H σ ρ ex _ _ ok xl hw fun as ρ1 xs Fr1 H1 q1 ok1 g1 r1 => by
    obtain ⟨nd, args, h1, hC⟩ := q1
    show spC X.K C (xs ++ []) H1 Q EX
    rw [List.append_nil]
    refine ok1.call g1 xl h1 nd r1 hC fun r args' x Fr' H' q ok2 g2 hr => ?_
    cases r with
    | o d =>
      obtain ⟨p, rfl, hp, hf, hn, z⟩ := hr
      exact kk d _ p Fr' H' q ok2 g2 hp hf hn z
    | _ => exact (show False from q).elim
end
/-- a def that may be called by its name, k levels deep at most -/
structure CalC (P : Program) (w : World) (K : PySem.W.Frag) (mg : Str → Option Value) (base : Heap) (k : Nat) (x : Str) (f : Addr) (C : Con) : Prop where
  ex : ∃ (fd : FuncData) (ps : List Str), FnOk P w K mg base (L2.CX P w) k f fd ps (spC K C) ∧ mg x = some (.ref f) ∧ PySem.W.keepIn K (.ref f) = true ∧ Binds K fd ps [] ∧ (∃ oc od osl, K.lookup f = some ⟨oc, od, .func fd, osl⟩) ∧ ps = fd.params.args.map (·.arg)
section
variable {X : Cx} {EX : XK} {k j : Nat} {f : Addr} {C : Con} {x : Str} {p pos : Pos} {e : Expr} {es : List Expr} {t : TA} {wa : WA}
theorem pe_callC (c : CalC X.prog X.w X.K X.mg X.base k x f C) (hr : Room j X.A) (hk : k ≤ j) (hg : Gl X x) (hx : Passes (L2.CX X.prog X.w) X EX) (ha : PA X (e :: es) t) (hdb : (x == ("__debug__" : Str)) = false := by decide) (he : starEach (e :: es) X.env = (false, eval e X.env) :: starEach es X.env := by rfl)
    (hpl : (backTo pos (starEach es X.env)).any (·.1) = false := by rfl) : PE X (.Call (.Name x p) (e :: es) [] pos) (tCall (spC X.K C) [] EX t) := by
  obtain ⟨fd, ps, F, hm, kp, b, _⟩ := c.ex
  exact pe_call F (hr.mono hk) hg hm kp b .nil hx ha hdb he hpl
/-- f(e, ..): data -/
theorem ev_call (c : CalC X.prog X.w X.K X.mg X.base k x f C) (hr : Room j X.A) (hk : k ≤ j) (hg : Gl X x) (hx : Passes (L2.CX X.prog X.w) X EX) (ha : EA X EX (e :: es) t wa) (hdb : (x == ("__debug__" : Str)) = false := by decide) (he : starEach (e :: es) X.env = (false, eval e X.env) :: starEach es X.env := by rfl)
    (hpl : (backTo pos (starEach es X.env)).any (·.1) = false := by rfl) {K : PySem.W.Frag} (hK : X.K = K := by rfl) : EV X EX (.Call (.Name x p) (e :: es) [] pos) (tCall (spC K C) [] EX t) (wCall C wa) := by
  subst hK
  exact ⟨pe_callC c hr hk hg hx ha.pa hdb he hpl, valCall ha⟩
/-- f(e, ..): a new object of one's own -/
theorem eo_call (c : CalC X.prog X.w X.K X.mg X.base k x f C) (hr : Room j X.A) (hk : k ≤ j) (hg : Gl X x) (hx : Passes (L2.CX X.prog X.w) X EX) (ha : EA X EX (e :: es) t wa) (hdb : (x == ("__debug__" : Str)) = false := by decide) (he : starEach (e :: es) X.env = (false, eval e X.env) :: starEach es X.env := by rfl)
    (hpl : (backTo pos (starEach es X.env)).any (·.1) = false := by rfl) {K : PySem.W.Frag} (hK : X.K = K := by rfl) : EO X EX (.Call (.Name x p) (e :: es) [] pos) (tCall (spC K C) [] EX t) (wCallO C wa) := by
  subst hK
  exact ⟨pe_callC c hr hk hg hx ha.pa hdb he hpl, valCallO ha⟩
end
end DL

set_option Elab.async false
set_option linter.all false
set_option autoImplicit false
set_option maxRecDepth 100000
set_option maxHeartbeats 1000000
/-! DL, part 7: defs of the text, keyword calls, def values, dicts, texts. -/
namespace DL
open PySem PySem.Spec PyProof.Rows L2

/-! ### defs -/
section
variable {P : Program} {w : World} {K : PySem.W.Frag} {mg : Str → Option Value} {base : Heap} {x qual : Str} {params : Arguments} {body : List Stmt} {scope : Scope} {f : Addr} {fd : FuncData} {N ps : List Str} {k : Nat} {C : Con}
theorem fnD {dvs : List V} {kws : List (Str × V)} (F : FunD K x qual params body scope dvs kws f fd) (S : FnScope N ps scope) (hC : ∀ args CQ CX, C args CQ CX → args.length = ps.length)
    (hbody : ∀ (cdv : Value) (A : Around) (outer : List Env) (s : Shared) (H : Hp) (E : XK), Room k (A.deeper (envOfC qual scope s.heap.objs.size f cdv)) →
      ∃ t w', SVs (cxOf (L2.CX P w) P w K mg base N qual scope f cdv A outer s H E) E body t w' ∧ ∀ (args : List Sl) (CQ : Sl → List Sl → Prop) (CX : DX), C args CQ CX → w' (dEnds CQ CX args) (args ++ List.replicate (N.length - ps.length) .un)) :
    FnOk P w K mg base (L2.CX P w) (k + 1) f fd ps (spC K C) := by
  refine F.ok S (fun vs H Q E ⟨Fr, args, CQ, CX, ok, no, h, _⟩ => by have := ok.len; rw [List.length_map] at this; rw [this]; exact hC _ _ _ h) fun cdv A outer s H vs Q E hr hsp => ?_
  obtain ⟨Fr, args, CQ, CX, ok, no, hc, kQ, kX⟩ := hsp
  obtain ⟨t, w', h, hw⟩ := hbody cdv A outer s H E hr
  have hl : vs.length = args.length := by have := ok.len; rwa [List.length_map] at this
  have hw := hw args CQ CX hc
  rw [show ps.length = vs.length from (hl.trans (hC _ _ _ hc)).symm] at hw
  obtain ⟨ok0, ow0⟩ := ok.enter (N := N)
  refine ⟨t, h.ps, h.val Fr H (L2.start N vs) _ (dEnds CQ CX args) _ ok0 (fun c d dx y Fr' H' σ' ρ' hx ok' g hd r => ?_) hw ⟨fun Fr' H' σ' ρ' q ok' g => ?_, fun _ _ _ _ q => q.elim, fun _ _ _ _ q => q.elim, fun Fr' H' σ' ρ' d y q ok' g r => ?_, fun Fr' H' σ' ρ' d p q ok' g hp hf hn z => ?_⟩⟩
  all_goals
    obtain ⟨ok2, g2, ow2⟩ := ok.leave no ok' g
  · exact kX c d dx y _ Fr' H' hx ok2 g2 hd r
  · exact kQ (.v .non) _ .non Fr' H' q ok2 g2 .non
  · exact kQ (.v d) _ y Fr' H' q ok2 g2 r
  · refine kQ (.o d) _ _ Fr' H' q ok2 g2 ⟨p, rfl, ?_, hf, fun i hi => hn i (ow2 i p hi), z⟩
    rcases hp with hp | ⟨j, hp⟩
    · exact hp
    · obtain ⟨sl, h1, h2, h3⟩ := ow0 j p hp
      have := noO_at no h1
      cases sl with
      | o d => cases this
      | b d0 =>
        obtain ⟨d', e1, e2⟩ := g.bor j d0 (by rw [List.getElem?_append_left (List.getElem?_eq_some_iff.mp h1).1]; exact h1)
        exact absurd ⟨.b d', e1, rfl, e2.trans ((start_get (by rw [hl]; exact (List.getElem?_eq_some_iff.mp h1).1)).trans h3)⟩ (hn j)
      | _ => cases h2
/-- what a body's exceptions and calls need, by its context -/
theorem passC {E : XK} {cdv : Value} {A : Around} {outer : List Env} {s : Shared} {H : Hp} : Passes (L2.CX P w) (cxOf (L2.CX P w) P w K mg base N qual scope f cdv A outer s H E) E :=
  passes_call (takes_of rfl rfl rfl rfl) fun _ _ _ _ h => h
theorem ownsC {E : XK} {cdv : Value} {A : Around} {outer : List Env} {s : Shared} {H : Hp} : PassesOwn (model P w) (cxOf (L2.CX P w) P w K mg base N qual scope f cdv A outer s H E).A (cxOf (L2.CX P w) P w K mg base N qual scope f cdv A outer s H E).env (cxOf (L2.CX P w) P w K mg base N qual scope f cdv A outer s H E).xe :=
  passes_of rfl
theorem FunD_look {dvs : List V} {kws : List (Str × V)} (F : FunD K x qual params body scope dvs kws f fd) : (∃ oc od osl, K.lookup f = some ⟨oc, od, .func fd, osl⟩) ∧ fd.params = params := by
  obtain ⟨oc, od, dV, kV, doc, pm, an, cdv, ct, osl, rfl, lk, hcd, hD, hK⟩ := F.ex
  exact ⟨⟨_, _, _, lk⟩, rfl⟩
theorem calD (F : FunD K x qual params body scope [] [] f fd) (hm : mg x = some (.ref f)) (S : FnScope N ps scope) (hC : ∀ args CQ CX, C args CQ CX → args.length = ps.length)
    (hb : ∀ (kV doc pm : Value) (an : Option Addr) (cdv ct : Value) (us : List Value), us.length = ps.length → bindArgs (PySem.W.fnOf x qual params body scope .none kV doc pm an cdv ct) ⟨us, []⟩ = pure (ps.zip us))
    (hbody : ∀ (cdv : Value) (A : Around) (outer : List Env) (s : Shared) (H : Hp) (E : XK), Room k (A.deeper (envOfC qual scope s.heap.objs.size f cdv)) →
      ∃ t w', SVs (cxOf (L2.CX P w) P w K mg base N qual scope f cdv A outer s H E) E body t w' ∧ ∀ (args : List Sl) (CQ : Sl → List Sl → Prop) (CX : DX), C args CQ CX → w' (dEnds CQ CX args) (args ++ List.replicate (N.length - ps.length) .un)) (hps : ps = params.args.map (·.arg) := by rfl) :
    CalC P w K mg base (k + 1) x f C := ⟨fd, ps, fnD F S hC hbody, hm, F.kp, F.bindsN hb, (FunD_look F).1, by rw [(FunD_look F).2]; exact hps⟩
/-- .. called by keywords alone, in the parameters' order -/
structure CalK (P : Program) (w : World) (K : PySem.W.Frag) (mg : Str → Option Value) (base : Heap) (k : Nat) (x : Str) (f : Addr) (ks : List Str) (C : Con) : Prop where
  ex : ∃ (fd : FuncData), FnOk P w K mg base (L2.CX P w) k f fd ks (spC K C) ∧ mg x = some (.ref f) ∧ PySem.W.keepIn K (.ref f) = true ∧ KBn K fd ks 0 ks (fun us ws => us ++ ws) (fun us ws => us ++ ws)
theorem kbnD (F : FunD K x qual params body scope [] [] f fd) (hb : ∀ (kV doc pm : Value) (an : Option Addr) (cdv ct : Value) (ws : List Value), ws.length = ps.length → bindArgs (PySem.W.fnOf x qual params body scope .none kV doc pm an cdv ct) ⟨[], ps.zip ws⟩ = pure (ps.zip ws)) :
    KBn K fd ps 0 ps (fun us ws => us ++ ws) (fun us ws => us ++ ws) := by
  obtain ⟨oc, od, dV, kV, doc, pm, an, cdv, ct, osl, rfl, lk, hcd, hD, hK⟩ := F.ex
  rcases hD with ⟨_, rfl⟩ | ⟨e, _⟩
  · refine ⟨fun s us ws _ l1 l2 => ?_, fun r1 r2 => r1.append r2⟩
    have : us = [] := List.eq_nil_of_length_eq_zero l1
    subst this
    exact .of_eq (hb kV doc pm an cdv ct ws l2)
  · exact absurd rfl e
theorem CalC.toK (c : CalC P w K mg base k x f C) (F : FunD K x qual params body scope [] [] f fd) (hb : ∀ (kV doc pm : Value) (an : Option Addr) (cdv ct : Value) (ws : List Value), ws.length = ps.length → bindArgs (PySem.W.fnOf x qual params body scope .none kV doc pm an cdv ct) ⟨[], ps.zip ws⟩ = pure (ps.zip ws)) (hps : ps = params.args.map (·.arg) := by rfl) : CalK P w K mg base k x f ps C := by
  obtain ⟨fd', ps', G, hm, kp, b, ⟨oc, od, osl, lk⟩, e⟩ := c.ex
  obtain ⟨⟨oc2, od2, osl2, lk2⟩, e2⟩ := FunD_look F
  rw [lk] at lk2
  cases lk2
  rw [e2, ← hps] at e
  subst e
  exact ⟨_, G, hm, kp, kbnD F hb⟩
end
section
variable {X : Cx} {EX : XK} {k j : Nat} {f : Addr} {C : Con} {x : Str} {p pos : Pos} {e : Expr} {es : List Expr} {t : TA} {wa : WA}
theorem CalC.mono {P : Program} {w : World} {K : PySem.W.Frag} {mg : Str → Option Value} {base : Heap} (c : CalC P w K mg base k x f C) (h : k ≤ j) : CalC P w K mg base j x f C := by
  obtain ⟨fd, ps, F, r⟩ := c.ex
  exact ⟨fd, ps, F.mono h, r⟩
/-- the keywords of a call: data, or own objects lent -/
structure EK (X : Cx) (EX : XK) (kws : List Keyword) (t : TA) (w : WA) : Prop where
  pk : PK X kws t
  val : ∀ (Fr H : Hp) (σ : Sg) (ρ : List Sl) (ex : DX) (QV : List AR → List Sl → Prop) (Q : List V → Hp → Prop), Ok X.K Fr H σ ρ → XL X.K EX ex Fr H σ ρ → w ex ρ QV →
    (∀ (as : List AR) (ρ' : List Sl) (xs : List V) (Fr' H' : Hp), QV as ρ' → Ok X.K Fr' H' σ ρ' → Go Fr H σ ρ Fr' H' σ ρ' → ArsOk X.K Fr' σ xs as → Q xs H') → t σ H Q
theorem ek_nil : EK X EX [] tNil wANil := ⟨pk_nil, fun Fr H σ ρ ex QV Q ok xl hw k => k [] ρ [] Fr H hw ok (Go.refl _ _ _ _) True.intro⟩
theorem ek_v {e : Expr} {nm : Option Str} {kp : Pos} {kws : List Keyword} {te : TE} {w : WV} {r : WA} (ha : EV X EX e te w) (hr : EK X EX kws t r) : EK X EX (⟨nm, e, kp⟩ :: kws) (tCons te t) (wAV w r) :=
  ⟨pk_cons ha.pe hr.pk, fun Fr H σ ρ ex QV Q ok xl hw k => ha.val Fr H σ ρ ex _ _ ok xl hw fun d ρ1 x Fr1 H1 q1 ok1 g1 r1 =>
      hr.val Fr1 H1 σ ρ1 ex _ _ ok1 (xl.go g1) q1 fun as ρ2 xs Fr2 H2 q2 ok2 g2 r2 => k (.v d :: as) ρ2 (x :: xs) Fr2 H2 q2 ok2 (g1.trans g2) ⟨r1.mono g2.fr, r2⟩⟩
theorem valCallK {kws : List Keyword} (ha : EK X EX kws t wa) (Fr H : Hp) (σ : Sg) (ρ : List Sl) (ex : DX) (QV : D → List Sl → Prop) (Q : VK) (ok : Ok X.K Fr H σ ρ) (xl : XL X.K EX ex Fr H σ ρ) (hw : wCall C wa ex ρ QV)
    (kk : ∀ (d : D) (ρ' : List Sl) (x : V) (Fr' H' : Hp), QV d ρ' → Ok X.K Fr' H' σ ρ' → Go Fr H σ ρ Fr' H' σ ρ' → Rep X.K Fr' x d → Q x H') : tCall (spC X.K C) [] EX t σ H Q :=
  ha.val Fr H σ ρ ex _ _ ok xl hw fun as ρ1 xs Fr1 H1 q1 ok1 g1 r1 => by
    obtain ⟨nd, args, h1, hC⟩ := q1
    show spC X.K C (xs ++ []) H1 Q EX
    rw [List.append_nil]
    refine ok1.call g1 xl h1 nd r1 hC fun r args' x Fr' H' q ok2 g2 hr => ?_
    cases r with
    | v d => exact kk d _ x Fr' H' q ok2 g2 hr
    | _ => exact (show False from q).elim
/-- f(k = v, ..), nothing by position, the names in the parameters' order -/
theorem ev_callK {kws : List Keyword} {ks : List Str} (c : CalK X.prog X.w X.K X.mg X.base k x f ks C) (hr : Room j X.A) (hk : k ≤ j) (hg : Gl X x) (hx : Passes (L2.CX X.prog X.w) X EX) (ha : EK X EX kws t wa) (hall : (backToKw pos (keywordEach kws X.env)).all (·.1.isSome) = true := by rfl)
    (hks : (backToKw pos (keywordEach kws X.env)).filterMap (·.1) = ks := by rfl) (hdb : (x == ("__debug__" : Str)) = false := by decide) (hpl : ((backTo pos (starEach [] X.env)).any (·.1) || (backToKw pos (keywordEach kws X.env)).any (·.1.isNone)) = false := by rfl) {K : PySem.W.Frag} (hK : X.K = K := by rfl) :
    EV X EX (.Call (.Name x p) [] kws pos) (tCall (spC K C) [] EX t) (wCall C wa) := by
  subst hK
  refine ⟨⟨fun pins s σ H Q I h => ?_⟩, valCallK ha⟩
  obtain ⟨fd, F, hm, kp, hb⟩ := c.ex
  refine wpAny_Call_Name_kw (ld_glob I hg hm ?_ hdb)
  have h : t σ H fun vs H1 => spC X.K C (vs ++ []) H1 Q EX := h
  refine PySem.W.callWith_KW0 (h₀ := X.base) I.ok.mod.kin kp hall (thn (ha.pk.run pos pins s σ H _ I h) fun ws s2 ⟨zs, H2, I2, rz, q2⟩ => ⟨I2.kIn, ?_⟩) hpl
  rw [hks]
  have q2 : spC X.K C (zs ++ []) H2 Q EX := q2
  rw [List.append_nil] at q2
  have hl : zs.length = ks.length := F.len _ _ _ _ q2
  exact run_fnN (n := 0) (us := []) (vs := []) F (hr.mono hk) hb hx I2 .nil rz rfl hl (by rw [List.nil_append]; exact q2)
/-- a local name that holds a def, called: the slot holds this def -/
def wCallV (i : Nat) (f : Addr) (C : Con) (wa : WA) : WV := fun ex ρ Q => (∃ d, ρ[i]? = some (.v d) ∧ d = .fn f) ∧ wCall C wa ex ρ Q
def tCallV1 (i : Nat) (f : Addr) (sp : Sp) (EX : XK) (t : TA) : TE := fun σ H Q => σ[i]? = some (some (.ref f)) ∧ t σ H fun vs H1 => sp vs H1 Q EX
structure CalF (P : Program) (w : World) (K : PySem.W.Frag) (mg : Str → Option Value) (base : Heap) (k : Nat) (f : Addr) (C : Con) : Prop where
  ex : ∃ (fd : FuncData) (ps : List Str), FnOk P w K mg base (L2.CX P w) k f fd ps (spC K C) ∧ PySem.W.keepIn K (.ref f) = true ∧ Binds K fd ps []
theorem CalC.toF {P : Program} {w : World} {K : PySem.W.Frag} {mg : Str → Option Value} {base : Heap} (c : CalC P w K mg base k x f C) : CalF P w K mg base k f C := by
  obtain ⟨fd, ps, F, hm, kp, b, _⟩ := c.ex
  exact ⟨fd, ps, F, kp, b⟩
theorem ev_callV (i : Nat) (c : CalF X.prog X.w X.K X.mg X.base k f C) (hr : Room j X.A) (hk : k ≤ j) (hx : Passes (L2.CX X.prog X.w) X EX) (ha : EA X EX (e :: es) t wa) (hN : X.N[i]? = some x := by rfl) (hv : Vis X.env.scope x := by first | exact Or.inl rfl | exact Or.inr (Or.inl rfl) | exact Or.inr (Or.inr rfl))
    (hd : (x == ("__debug__" : Str)) = false := by decide) (hcd : (x == ("__classdict__" : Str)) = false := by decide)
    (he : starEach (e :: es) X.env = (false, eval e X.env) :: starEach es X.env := by rfl) (hpl : (backTo pos (starEach es X.env)).any (·.1) = false := by rfl) {K : PySem.W.Frag} (hK : X.K = K := by rfl) :
    EV X EX (.Call (.Name x p) (e :: es) [] pos) (tCallV1 i f (spC K C) EX t) (wCallV i f C wa) := by
  subst hK
  refine ⟨⟨fun pins s σ H Q I h => ?_⟩, fun Fr H σ ρ ex QV Q ok xl hw kk => ?_⟩
  · obtain ⟨hs, ht⟩ := h
    obtain ⟨fd, ps, F, kp, b⟩ := c.ex
    refine wpAny_Call_Name_kw (thn ((pe_var (pos := p) hN hv hd hcd).run pins s σ H (fun v H1 => v = .ref f ∧ H1 = H) I ⟨.ref f, hs, rfl, rfl⟩) fun u s1 ⟨v, H1, I1, r1, q1⟩ => ?_)
    obtain ⟨rfl, rfl⟩ := q1
    cases r1
    refine PySem.W.callWith_K (h₀ := X.base) I.ok.mod.kin kp (thn (ha.pa.run pos pins s1 σ _ _ I1 ht) fun us s2 ⟨vs, H2, I2, r, q⟩ => ⟨I2.kIn, ?_⟩) he hpl
    exact run_fn F (hr.mono hk) b .nil hx I2 r (by rw [List.append_nil]; exact q)
  · obtain ⟨⟨d, e1, rfl⟩, hw⟩ := hw
    obtain ⟨y, ey, r⟩ := ok.at_ i _ e1 (by simp)
    have r : Rep X.K Fr y (.fn f) := r
    cases r
    refine ⟨ey, ?_⟩
    have := valCall ha Fr H σ ρ ex QV Q ok xl hw kk
    have h : t σ H fun vs H1 => spC X.K C (vs ++ []) H1 Q EX := this
    simpa only [List.append_nil] using h
end

/-! ### dicts -/
def keyD : D → Option Key
  | .int i => some (.inl i)
  | .str z => some (.inr z)
  | _ => none
theorem keyD_ok {K : PySem.W.Frag} {Fr : Hp} {x : V} {d : D} {k : Key} (r : Rep K Fr x d) (h : keyD d = some k) : x = kV k := by
  cases r with
  | int i => cases h; rfl
  | str z => cases h; rfl
  | _ => cases h
def lookD : List Key → List D → Key → Option D
  | k :: ks, v :: vs, j => if k = j then some v else lookD ks vs j
  | _, _, _ => none
theorem lookD_ok {K : PySem.W.Frag} {Fr : Hp} : ∀ {kvs : List (Key × V)} {ks : List Key} {vs : List D} (j : Key), kvs.map (·.1) = ks → Reps K Fr (kvs.map (·.2)) vs →
    (∀ d, lookD ks vs j = some d → ∃ x, valV kvs j = some x ∧ Rep K Fr x d) ∧ (lookD ks vs j = none → valV kvs j = none)
  | [], ks, vs, j, h, r => by
    have h : [] = ks := h
    subst h
    have r : Reps K Fr [] vs := r
    cases r
    exact ⟨fun d h => (by unfold lookD at h; cases h), fun _ => rfl⟩
  | (k, x) :: kvs, ks, vs, j, h, r => by
    have h : k :: kvs.map (·.1) = ks := h
    subst h
    have r : Reps K Fr (x :: kvs.map (·.2)) vs := r
    cases r with
    | cons r1 r2 =>
      by_cases e : k = j
      · refine ⟨fun d h => ?_, fun h => ?_⟩
        · have h : (if k = j then _ else _) = some d := h
          rw [if_pos e] at h; cases h
          exact ⟨x, valV_pos e, r1⟩
        · have h : (if k = j then _ else _) = none := h
          rw [if_pos e] at h; cases h
      · obtain ⟨h1, h2⟩ := lookD_ok (kvs := kvs) j rfl r2
        refine ⟨fun d h => ?_, fun h => ?_⟩
        · have h : (if k = j then _ else _) = some d := h
          rw [if_neg e] at h
          obtain ⟨x', h3, h4⟩ := h1 d h
          exact ⟨x', by rw [valV_neg e]; exact h3, h4⟩
        · have h : (if k = j then _ else _) = none := h
          rw [if_neg e] at h
          rw [valV_neg e]; exact h2 h
abbrev rDGet : R2 := fun x y H Q => ∃ a v, x = .ref a ∧ DGet H a y (some v) ∧ Q v H
def fDGet : F2 := fun d e P => match d with
  | .dct ks vs => ∃ k g, keyD e = some k ∧ lookD ks vs k = some g ∧ P g
  | _ => False
theorem rel_DGet {K : PySem.W.Frag} : Rel2 K rDGet fDGet := by
  intro Fr H x y d e P Q rx ry s h k
  cases rx with
  | dct hx hk r =>
    obtain ⟨j, g, h1, h2, h⟩ := h
    have := keyD_ok ry h1
    subst this
    obtain ⟨z, hz, rz⟩ := (lookD_ok j hk r).1 g h2
    exact ⟨_, z, rfl, by rw [← hz]; exact DGet.k (s _ _ hx), k z g h rz⟩
  | _ => exact (show False from h).elim
section
variable {X : Cx} {EX : XK} {a b : Expr} {ta tb : TE} {wa wb : WV} {pos : Pos}
theorem ev_dget (hu : X.A.units + 1 < cLine) (ha : EV X EX a ta wa) (hb : EV X EX b tb wb) (hs : NoSl b := by exact fun _ _ => rfl) : EV X EX (.Subscript a b pos) (tOp rDGet ta tb) (w2 fDGet wa wb) := ⟨pe_dget hu ha.pe hb.pe hs, val2 rel_DGet ha hb⟩
end
theorem putK_snoc {kvs : List (Key × V)} {k : Key} {v : V} (h : k ∉ kvs.map (·.1)) : putK kvs k v = kvs ++ [(k, v)] := by
  refine putK_new v ?_
  induction kvs with
  | nil => rfl
  | cons p r ih =>
    rw [List.map_cons, List.mem_cons, not_or] at h
    rw [valV_neg fun e => h.1 e.symm]
    exact ih h.2
theorem mergeK_nodup : ∀ (more kvs : List (Key × V)), (kvs.map (·.1) ++ more.map (·.1)).Nodup → mergeK kvs more = kvs ++ more
  | [], kvs, _ => by rw [List.append_nil]; rfl
  | p :: r, kvs, h => by
    have hp : p.1 ∉ kvs.map (·.1) := fun hm => by
      rw [List.map_cons] at h
      exact (List.nodup_append.mp h).2.2 _ hm _ List.mem_cons_self rfl
    show mergeK (putK kvs p.1 p.2) r = _
    rw [putK_snoc hp, mergeK_nodup r (kvs ++ [(p.1, p.2)]) (by rw [List.map_append, List.append_assoc]; exact h), List.append_assoc]
    rfl
/-- the pairs of a display with constant keys -/
structure EPs (X : Cx) (EX : XK) (pos : Pos) (keys : List (Option Expr)) (values : List Expr) (trs : List (TE × TE)) (ks : List Key) (w : WL) : Prop where
  pp : PPs X pos keys values trs
  val : ∀ (Fr H : Hp) (σ : Sg) (ρ : List Sl) (ex : DX) (QV : List D → List Sl → Prop) (Q : List (V × V) → Hp → Prop), Ok X.K Fr H σ ρ → XL X.K EX ex Fr H σ ρ → w ex ρ QV →
    (∀ (ds : List D) (ρ' : List Sl) (kvs : List (Key × V)) (Fr' H' : Hp), QV ds ρ' → Ok X.K Fr' H' σ ρ' → Go Fr H σ ρ Fr' H' σ ρ' → kvs.map (·.1) = ks → Reps X.K Fr' (kvs.map (·.2)) ds → Q (kvs.map fun kv => (kV kv.1, kv.2)) H') → tPairs trs σ H Q
def wDct (ks : List Key) (l : WL) : WV := fun ex ρ Q => l ex ρ fun ds ρ1 => Q (.dct ks ds) ρ1
section
variable {X : Cx} {EX : XK} {pos : Pos}
theorem eps_nil : EPs X EX pos [] [] [] [] wNilL := ⟨pps_nil, fun Fr H σ ρ ex QV Q ok xl hw k => k [] ρ [] Fr H hw ok (Go.refl _ _ _ _) rfl .nil⟩
theorem eps_str {z : Str} {j : Nat} {p : Pos} {v : Expr} {tv : TE} {wv : WV} {keys : List (Option Expr)} {values : List Expr} {trs : List (TE × TE)} {ks : List Key} {w : WL} (hv : EV X EX v tv wv) (hr : EPs X EX pos keys values trs ks w) :
    EPs X EX pos (some (.Constant (.str z) j p) :: keys) (v :: values) ((tC (.str z), tv) :: trs) (.inr z :: ks) (wConsL wv w) := ⟨pps_cons pe_str hv.pe hr.pp, fun Fr H σ ρ ex QV Q ok xl hw k =>
  hv.val Fr H σ ρ ex _ _ ok xl hw fun d ρ1 y Fr1 H1 q1 ok1 g1 r1 => hr.val Fr1 H1 σ ρ1 ex _ _ ok1 (xl.go g1) q1 fun ds ρ2 kvs Fr2 H2 q2 ok2 g2 e2 r2 => k (d :: ds) ρ2 ((.inr z, y) :: kvs) Fr2 H2 q2 ok2 (g1.trans g2) (by rw [List.map_cons, e2]) (.cons (r1.mono g2.fr) r2)⟩
theorem eps_int {i : Int} {j : Nat} {p : Pos} {v : Expr} {tv : TE} {wv : WV} {keys : List (Option Expr)} {values : List Expr} {trs : List (TE × TE)} {ks : List Key} {w : WL} (hv : EV X EX v tv wv) (hr : EPs X EX pos keys values trs ks w) :
    EPs X EX pos (some (.Constant (.int i) j p) :: keys) (v :: values) ((tC (.int i), tv) :: trs) (.inl i :: ks) (wConsL wv w) := ⟨pps_cons pe_int hv.pe hr.pp, fun Fr H σ ρ ex QV Q ok xl hw k =>
  hv.val Fr H σ ρ ex _ _ ok xl hw fun d ρ1 y Fr1 H1 q1 ok1 g1 r1 => hr.val Fr1 H1 σ ρ1 ex _ _ ok1 (xl.go g1) q1 fun ds ρ2 kvs Fr2 H2 q2 ok2 g2 e2 r2 => k (d :: ds) ρ2 ((.inl i, y) :: kvs) Fr2 H2 q2 ok2 (g1.trans g2) (by rw [List.map_cons, e2]) (.cons (r1.mono g2.fr) r2)⟩
/-- {k: v, ..}: a new dict -/
theorem eo_dct {keys : List (Option Expr)} {values : List Expr} {trs : List (TE × TE)} {ks : List Key} {w : WL} (h : EPs X EX pos keys values trs ks w) (hnd : ks.Nodup) (h15k : ks.length ≤ 15) (hall : keys.all (·.isSome) = true := by rfl) (hl : keys.length = values.length := by rfl) (h0 : keys ≠ [] := by exact List.cons_ne_nil _ _) (h15 : keys.length ≤ 15 := by decide) :
    EO X EX (.Dict keys values pos) (tDisp trs) (wDct ks w) := ⟨pe_disp h.pp hall hl h0 h15, fun Fr H σ ρ ex QV Q ok xl hw k p hp => by
  obtain ⟨ok1, g1⟩ := ok.addOwn (o := .dK []) hp
  have hn1 : ∀ i, ¬ Owns σ ρ i p := fun i z => by
    obtain ⟨o, ho⟩ := ok.own_there z
    rw [hp] at ho; cases ho
  refine h.val Fr _ σ ρ ex _ _ ok1 (xl.go g1) hw fun ds ρ2 kvs Fr2 H2 q2 ok2 g2 e2 r2 => ?_
  have hD : H2 p = some (.dK []) := g2.keep p _ upd_same hn1
  have hf2 : Fr2 p = none := by
    cases e : Fr2 p with
    | none => rfl
    | some o =>
      rcases g2.new p (by rw [e]; simp) with h | ⟨i, h⟩ | h
      · rw [ok.ex.free hp] at h; exact absurd rfl h
      · exact absurd h (hn1 i)
      · rw [upd_same] at h; cases h
  have hn2 : ∀ i, ¬ Owns σ ρ2 i p := fun i z => by
    rcases g2.own i p z with ⟨j, h⟩ | h
    · exact hn1 j h
    · rw [upd_same] at h; cases h
  have hmk : mergeK [] kvs = kvs := by
    have := mergeK_nodup kvs [] (by rw [List.map_nil, List.nil_append, e2]; exact hnd)
    rwa [List.nil_append] at this
  have hkl : kvs.length ≤ 15 := by
    have := congrArg List.length e2
    rw [List.length_map] at this
    omega
  refine ⟨hD, kvs, rfl, hkl, ?_⟩
  rw [hmk]
  have g12 := g1.trans g2
  exact k (.dct ks ds) ρ2 p Fr2 _ q2 (ok2.mutN hf2 hn2) ⟨g12.fr, fun a o ha n => by rw [upd_ne (ne_of_none ha hp)]; exact g12.keep a o ha n, g12.new, g12.own, fun a ha => by
    by_cases e : a = p
    · subst e; exact hp
    · rw [upd_ne e] at ha; exact g12.dom a ha, g12.bor⟩ hp hf2 hn2 ⟨kvs, upd_same, e2, r2⟩⟩
end
/-! ### a dict of the module: text keys, text values -/
def TabS (K : PySem.W.Frag) (w : World) (a : Addr) (tab : List (Str × Str)) : Prop := (∃ es n, KDict K w a es n) ∧ ∀ z : Str, ∃ r, PySem.W.nsIn K a z = some r ∧ RelO ((tab.lookup z).map V.str) r
theorem nsIn_none {K : PySem.W.Frag} {P : Params} {a : Addr} {ks : List Str} {z : Str} (h : He.dicW K a = some (He.keysIn P ks)) (hz : z ∉ ks) : PySem.W.nsIn K a z = some none := by
  unfold He.dicW at h
  unfold PySem.W.nsIn
  cases q : K.lookup a with
  | none => rw [q] at h; cases h
  | some o =>
    obtain ⟨oc, od, dt, osl⟩ := o
    rw [q] at h
    cases dt with
    | dict es n =>
      have hm : es.toList.map He.keyOf = He.keysIn P ks := by
        cases oc with
        | type c =>
          cases od with
          | none =>
            have h : (match decide (c = "dict") && (osl.isEmpty && !(a == sysModules)) with
              | true => some (es.toList.map He.keyOf)
              | false => none) = some (He.keysIn P ks) := h
            cases hb : (decide (c = "dict") && (osl.isEmpty && !(a == sysModules))) with
            | true => rw [hb] at h; exact Option.some.inj h
            | false => rw [hb] at h; cases h
          | some d => cases h
        | _ => cases od <;> cases h
      have key : ∀ e ∈ es.toList, ∃ k t, k ∈ ks ∧ e.key = .str k t := fun e he => by
        have : He.keyOf e ∈ He.keysIn P ks := by rw [← hm]; exact List.mem_map_of_mem he
        obtain ⟨k, hk, e1⟩ := List.mem_map.mp this
        unfold He.keyOf at e1
        split at e1
        · rename_i x t e2
          have e3 := congrArg Prod.fst (Option.some.inj e1)
          have e3 : k = x := e3
          exact ⟨k, t, hk, by rw [e3]; exact e2⟩
        · cases e1
      have n1 : es.toList.find? (·.key.isStr z) = none := List.find?_eq_none.mpr fun e he => by
        obtain ⟨k, t, hk, e1⟩ := key e he
        rw [e1]
        show ¬ ((k == z) = true)
        intro hkz
        have : k = z := by simpa using hkz
        exact hz (this ▸ hk)
      have n2 : es.toList.any (·.refKey) = false := List.any_eq_false.mpr fun e he => by
        obtain ⟨k, t, hk, e1⟩ := key e he
        unfold DictEntry.refKey
        rw [e1]
        exact Bool.false_ne_true
      show (match es.toList.find? (·.key.isStr z) with
        | some e => some (some e.val)
        | none => if es.toList.any (·.refKey) then none else some none) = some none
      rw [n1, n2]
      rfl
    | _ => cases oc <;> cases od <;> cases h
theorem tabS_of {K : PySem.W.Frag} {w : World} {a : Addr} {tab : List (Str × Str)} (h : He.dicW K a = some (He.keysIn w.params (tab.map (·.1)))) (hv : He.valsB K a (tab.map fun q => (q.1, He.Dv.str q.2)) = true) : TabS K w a tab := by
  refine ⟨He.dicW_ok h, fun z => ?_⟩
  cases e : tab.lookup z with
  | none =>
    refine ⟨none, nsIn_none h fun hm => ?_, ?_⟩
    · obtain ⟨q, hq, rfl⟩ := List.mem_map.mp hm
      obtain ⟨c, hc⟩ := mem_lookup (show (q.1, q.2) ∈ tab from hq)
      rw [e] at hc; cases hc
    · exact True.intro
  | some v =>
    have hm := PySem.mem_of_lookup e
    obtain ⟨u, h1, h2⟩ := He.valsB_ok hv (q := (z, He.Dv.str v)) (List.mem_map.mpr ⟨(z, v), hm, rfl⟩)
    exact ⟨some u, h1, h2⟩
end DL

set_option Elab.async false
set_option linter.all false
set_option autoImplicit false
set_option maxRecDepth 100000
set_option maxHeartbeats 1000000
/-! DL, part 8: tables of the module, methods of texts, append. -/
namespace DL
open PySem PySem.Spec PyProof.Rows L2

/-! ### tables of the module -/
abbrev rKdIx (K : PySem.W.Frag) (d : Addr) : R2 := fun x y H Q => ∃ (z : Str) (u0 : Value) (v0 : V), x = .ref d ∧ y = .str z ∧ PySem.W.nsIn K d z = some (some u0) ∧ RelV v0 u0 ∧ Q v0 H
abbrev rKdIn (K : PySem.W.Frag) (d : Addr) : R2 := fun x y H Q => ∃ (z : Str) (r : Option Value), x = .str z ∧ y = .ref d ∧ PySem.W.nsIn K d z = some r ∧ Q (.bl r.isSome) H
abbrev rKdNi (K : PySem.W.Frag) (d : Addr) : R2 := fun x y H Q => ∃ (z : Str) (r : Option Value), x = .str z ∧ y = .ref d ∧ PySem.W.nsIn K d z = some r ∧ Q (.bl (!r.isSome)) H
def fKdIx (a : Addr) (tab : List (Str × Str)) : F2 := fun d e P => match d, e with
  | .fn a', .str z => a' = a ∧ ∃ v, tab.lookup z = some v ∧ P (.str v)
  | _, _ => False
def fKdIn (a : Addr) (tab : List (Str × Str)) (neg : Bool) : F2 := fun d e P => match d, e with
  | .str z, .fn a' => a' = a ∧ P (.bl (if neg then !(tab.lookup z).isSome else (tab.lookup z).isSome))
  | _, _ => False
theorem relO_some {o : Option V} {r : Option Value} (h : RelO o r) : r.isSome = o.isSome := h.isSome_eq.symm
theorem rel_KdIx {K : PySem.W.Frag} {w : World} {a : Addr} {tab : List (Str × Str)} (T : TabS K w a tab) : Rel2 K (rKdIx K a) (fKdIx a tab) := by
  intro Fr H x y d e P Q rx ry s h k
  cases rx with
  | fn b =>
    cases ry with
    | str z =>
      obtain ⟨e, v, hv, h'⟩ := (show b = a ∧ ∃ v, tab.lookup z = some v ∧ P (.str v) from h)
      subst e
      obtain ⟨r, h1, h2⟩ := T.2 z
      rw [hv] at h2
      obtain ⟨u, rfl, h3⟩ := h2.some_of
      exact ⟨z, u, .str v, rfl, rfl, h1, h3, k _ _ h' (.str v)⟩
    | _ => exact (show False from h).elim
  | _ => exact (show False from h).elim
theorem rel_KdIn {K : PySem.W.Frag} {w : World} {a : Addr} {tab : List (Str × Str)} (T : TabS K w a tab) : Rel2 K (rKdIn K a) (fKdIn a tab false) := by
  intro Fr H x y d e P Q rx ry s h k
  cases rx with
  | str z =>
    cases ry with
    | fn b =>
      obtain ⟨e, h'⟩ := (show b = a ∧ P (.bl (if false = true then !(tab.lookup z).isSome else (tab.lookup z).isSome)) from h)
      subst e
      obtain ⟨r, h1, h2⟩ := T.2 z
      have h3 := relO_some h2
      rw [Option.isSome_map] at h3
      exact ⟨z, r, rfl, rfl, h1, by rw [h3]; exact k _ _ h' (.bl _)⟩
    | _ => exact (show False from h).elim
  | _ => exact (show False from h).elim
theorem rel_KdNi {K : PySem.W.Frag} {w : World} {a : Addr} {tab : List (Str × Str)} (T : TabS K w a tab) : Rel2 K (rKdNi K a) (fKdIn a tab true) := by
  intro Fr H x y d e P Q rx ry s h k
  cases rx with
  | str z =>
    cases ry with
    | fn b =>
      obtain ⟨e, h'⟩ := (show b = a ∧ P (.bl (if true = true then !(tab.lookup z).isSome else (tab.lookup z).isSome)) from h)
      subst e
      obtain ⟨r, h1, h2⟩ := T.2 z
      have h3 := relO_some h2
      rw [Option.isSome_map] at h3
      exact ⟨z, r, rfl, rfl, h1, by rw [h3]; exact k _ _ h' (.bl _)⟩
    | _ => exact (show False from h).elim
  | _ => exact (show False from h).elim
section
variable {X : Cx} {EX : XK} {a b : Expr} {ta tb : TE} {wa wb : WV} {pos : Pos} {d : Addr} {tab : List (Str × Str)}
theorem pe_kdIx {es : Array DictEntry} {n : Nat} (T : KDict X.K X.w d es n) (ha : PE X a ta) (hb : PE X b tb) (hs : NoSl b) : PE X (.Subscript a b pos) (tOp (rKdIx X.K d) ta tb) := by
  refine ⟨fun pins s σ H Q I h => ?_⟩
  refine subD_of PySem.F.slot_dict_getitem.lookup hs (thn (ha.run pins s σ H _ I h) fun u s1 ⟨x, H1, I1, rx, q1⟩ => thn (hb.run pins s1 σ H1 _ I1 q1) fun iv s2 ⟨y, H2, I2, ry, q2⟩ => ?_)
  obtain ⟨z, u0, v0, e1, q⟩ := id q2
  subst e1
  obtain rfl : u = Value.ref d := rx
  exact ⟨kd_type T I2, op_item_kd T pins s2 σ H2 (.ref d) y (.ref d) iv Q I2 rfl ry q2⟩
theorem ev_kdIx (T : TabS X.K X.w d tab) (ha : EV X EX a ta wa) (hb : EV X EX b tb wb) (hs : NoSl b := by exact fun _ _ => rfl) {K : PySem.W.Frag} (hK : X.K = K := by rfl) : EV X EX (.Subscript a b pos) (tOp (rKdIx K d) ta tb) (w2 (fKdIx d tab) wa wb) := by
  subst hK
  exact ⟨T.1.elim fun es h => h.elim fun n h => pe_kdIx h ha.pe hb.pe hs, val2 (rel_KdIx T) ha hb⟩
theorem et_kdIn (T : TabS X.K X.w d tab) (ha : EV X EX a ta wa) (hb : EV X EX b tb wb) (hm : behindInMarks .In b = false := by rfl) {K : PySem.W.Frag} (hK : X.K = K := by rfl) : ET X EX (.Compare a [.In] [b] pos) (tTest (tOp (rKdIn K d) ta tb)) (wT (w2 (fKdIn d tab false) wa wb)) := by
  subst hK
  exact T.1.elim fun es h => h.elim fun n h => et_cmp (op_in_kd h) (rel_KdIn T) ha hb hm
theorem et_kdNi (T : TabS X.K X.w d tab) (ha : EV X EX a ta wa) (hb : EV X EX b tb wb) (hm : behindInMarks .NotIn b = false := by rfl) {K : PySem.W.Frag} (hK : X.K = K := by rfl) : ET X EX (.Compare a [.NotIn] [b] pos) (tTest (tOp (rKdNi K d) ta tb)) (wT (w2 (fKdIn d tab true) wa wb)) := by
  subst hK
  exact T.1.elim fun es h => h.elim fun n h => et_cmp (op_notIn_kd h) (rel_KdNi T) ha hb hm
end
/-! ### texts -/
def strsD : List D → Option (List Str)
  | [] => some []
  | .str z :: ds => (strsD ds).map (z :: ·)
  | _ :: _ => none
theorem strs_ok {K : PySem.W.Frag} {Fr : Hp} : ∀ {xs : List V} {ds : List D} {zs : List Str}, Reps K Fr xs ds → strsD ds = some zs → xs = zs.map V.str
  | _, _, zs, .nil, h => by cases h; rfl
  | _, _, zs, .cons r t, h => by
    cases r with
    | str b =>
      obtain ⟨zs', h1, rfl⟩ := Option.map_eq_some_iff.mp h
      rw [strs_ok t h1]; rfl
    | _ => cases h
theorem strs_reps {K : PySem.W.Frag} {Fr : Hp} : ∀ zs : List Str, Reps K Fr (zs.map V.str) (zs.map D.str)
  | [] => .nil
  | z :: zs => .cons (.str z) (strs_reps zs)
theorem strsD_map : ∀ zs : List Str, strsD (zs.map D.str) = some zs
  | [] => rfl
  | z :: zs => by rw [List.map_cons]; show (strsD (zs.map D.str)).map (z :: ·) = _; rw [strsD_map zs]; rfl
def wJoin (wa wb : WV) : WV := fun ex ρ Q => wa ex ρ fun d ρ1 => match d with
  | .str a => wb ex ρ1 fun e ρ2 => ∃ ds ys, seqD e = some ds ∧ strsD ds = some ys ∧ (ys.map (·.length)).sum + ys.length * a.length ≤ 16777216 ∧ Q (.str (Txt.join a ys)) ρ2
  | _ => False
def wSplit (wa wb : WV) : WV := fun ex ρ Q => wa ex ρ fun d ρ1 => match d with
  | .str a => wb ex ρ1 fun e ρ2 => match e with
    | .str b => (b.length == 0) = false ∧ a.length + 2 ≤ 16777216 ∧ Q (.lst ((Txt.split a b).map .str)) ρ2
    | _ => False
  | _ => False
abbrev rJoin (K : PySem.W.Frag) : V → List V → Hp → VK → Prop := fun x xs H Q => ∃ a p, ∃ ys : List Str, x = .str a ∧ xs = [.ref p] ∧ (SqL K H p (ys.map V.str) ∨ SqT K H p (ys.map V.str)) ∧
      (ys.map (·.length)).sum + ys.length * a.length ≤ 16777216 ∧ Q (.str (Txt.join a ys)) H
abbrev rSplit : V → List V → Hp → VK → Prop := fun x xs H Q => ∃ a b, x = .str a ∧ xs = [.str b] ∧ (b.length == 0) = false ∧ a.length + 2 ≤ sizeLine ∧ rNewStrs (Txt.split a b) H Q
section
variable {X : Cx} {EX : XK} {a b : Expr} {ta tb : TE} {wa wb : WV} {pos apos : Pos}
theorem ev_join (ha : EV X EX a ta wa) (hb : EV X EX b tb wb) (hs : starEach [b] X.env = [(false, eval b X.env)] := by rfl) (hbase : attributeBase a "join" X.env (eval a X.env) = eval a X.env := by rfl) (hline : (apos.endLine == pos.line) = true := by rfl) {K : PySem.W.Frag} (hK : X.K = K := by rfl) :
    EV X EX (.Call (.Attribute a "join" apos) [b] [] pos) (tM1 (rJoin K) ta tb) (wJoin wa wb) := by
  subst hK
  exact ⟨pe_join ha.pe hb.pe hs hbase hline, fun Fr H σ ρ ex QV Q ok xl hw k =>
  ha.val Fr H σ ρ ex _ _ ok xl hw fun d ρ1 x Fr1 H1 q1 ok1 g1 r1 => by
    cases r1 with
    | str z =>
      refine ⟨⟨z, rfl⟩, hb.val Fr1 H1 σ ρ1 ex _ _ ok1 (xl.go g1) q1 fun e ρ2 y Fr2 H2 q2 ok2 g2 r2 => ?_⟩
      obtain ⟨ds, ys, h1, h2, h3, q⟩ := q2
      cases r2 with
      | lst hx r =>
        cases h1
        have := strs_ok r h2
        subst this
        exact ⟨z, _, ys, rfl, rfl, .inl (ok2.ex.seq (SqL.of hx)), h3, k _ ρ2 _ Fr2 H2 q ok2 (g1.trans g2) (.str _)⟩
      | tup hx r =>
        cases h1
        have := strs_ok r h2
        subst this
        exact ⟨z, _, ys, rfl, rfl, .inr (same_t ok2.ex hx), h3, k _ ρ2 _ Fr2 H2 q ok2 (g1.trans g2) (.str _)⟩
      | _ => cases h1
    | _ => exact (show False from q1).elim⟩
theorem eo_split (ha : EV X EX a ta wa) (hb : EV X EX b tb wb) (hs : starEach [b] X.env = [(false, eval b X.env)] := by rfl) (hbase : attributeBase a "split" X.env (eval a X.env) = eval a X.env := by rfl) (hline : (apos.endLine == pos.line) = true := by rfl) :
    EO X EX (.Call (.Attribute a "split" apos) [b] [] pos) (tM1 rSplit ta tb) (wSplit wa wb) := ⟨pe_split ha.pe hb.pe hs hbase hline, fun Fr H σ ρ ex QV Q ok xl hw k =>
  ha.val Fr H σ ρ ex _ _ ok xl hw fun d ρ1 x Fr1 H1 q1 ok1 g1 r1 => by
    cases r1 with
    | str z =>
      refine ⟨⟨z, rfl⟩, hb.val Fr1 H1 σ ρ1 ex _ _ ok1 (xl.go g1) q1 fun e ρ2 y Fr2 H2 q2 ok2 g2 r2 => ?_⟩
      cases r2 with
      | str u =>
        obtain ⟨h1, h2, q⟩ := q2
        refine ⟨z, u, rfl, rfl, h1, line_of h2, fun p hp => ?_⟩
        obtain ⟨ok3, g3, hf, hn, oz⟩ := new_lst ok2 hp (strs_reps (K := X.K) (Fr := Fr2) (Txt.split z u))
        exact k _ ρ2 p _ _ q ok3 ((g1.trans g2).trans g3) ((g1.trans g2).dom p hp) hf hn oz
      | _ => exact (show False from q2).elim
    | _ => exact (show False from q1).elim⟩
/-! ### append -/
def isL (ρ : List Sl) (i : Nat) : Bool := match ρ[i]? with
  | some (.o (.lst _)) => true
  | some (.b (.lst _)) => true
  | _ => false
/-- b.append(e), b an own list -/
def wAppend (i : Nat) (w : WV) : WV := fun ex ρ Q => isL ρ i = true ∧ w ex ρ fun d ρ1 => match ρ1[i]? with
  | some (.o (.lst ds)) => ds.length < 16777216 ∧ Q .non (ρ1.set i (.o (.lst (ds ++ [d]))))
  | some (.b (.lst ds)) => ds.length < 16777216 ∧ Q .non (ρ1.set i (.b (.lst (ds ++ [d]))))
  | _ => False
theorem Ok.ownL {K : PySem.W.Frag} {Fr H : Hp} {σ : Sg} {ρ : List Sl} {i : Nat} {sl : Sl} {ds : List D} (ok : Ok K Fr H σ ρ) (h : ρ[i]? = some sl) (c : sl = .o (.lst ds) ∨ sl = .b (.lst ds)) :
    ∃ p xs, σ[i]? = some (some (.ref p)) ∧ H p = some (.lst xs) ∧ Reps K Fr xs ds ∧ Owns σ ρ i p := by
  obtain ⟨y, e, q⟩ := ok.at_ i sl h (by rcases c with rfl | rfl <;> simp)
  have q : OwnV K Fr H y (.lst ds) := by rcases c with rfl | rfl <;> exact q
  obtain ⟨p, rfl, hf, xs, hp, rs⟩ := q
  exact ⟨p, xs, e, hp, rs, sl, h, by rcases c with rfl | rfl <;> rfl, e⟩
theorem isL_ok {ρ : List Sl} {i : Nat} (h : isL ρ i = true) : ∃ sl ds, ρ[i]? = some sl ∧ (sl = .o (.lst ds) ∨ sl = .b (.lst ds)) := by
  unfold isL at h
  split at h
  · rename_i ds e; exact ⟨_, ds, e, .inl rfl⟩
  · rename_i ds e; exact ⟨_, ds, e, .inr rfl⟩
  · cases h
/-- .. its list made longer -/
theorem Ok.pushL {K : PySem.W.Frag} {Fr H : Hp} {σ : Sg} {ρ : List Sl} {i : Nat} {p : Addr} {sl sl' : Sl} {ds : List D} {xs : List V} {x : V} {d : D} (ok : Ok K Fr H σ ρ) (h : ρ[i]? = some sl) (c : (sl = .o (.lst ds) ∧ sl' = .o (.lst (ds ++ [d]))) ∨ (sl = .b (.lst ds) ∧ sl' = .b (.lst (ds ++ [d]))))
    (hs : σ[i]? = some (some (.ref p))) (hp : H p = some (.lst xs)) (rs : Reps K Fr xs ds) (r : Rep K Fr x d) : Ok K Fr (upd H p (.lst (xs ++ [x]))) σ (ρ.set i sl') ∧ Go Fr H σ ρ Fr (upd H p (.lst (xs ++ [x]))) σ (ρ.set i sl') := by
  have own : Owns σ ρ i p := ⟨sl, h, by rcases c with ⟨rfl, _⟩ | ⟨rfl, _⟩ <;> rfl, hs⟩
  exact ok.mutO (sl' := sl') (d' := .lst (ds ++ [d])) (o := .lst (xs ++ [x])) own (by rcases c with ⟨_, rfl⟩ | ⟨_, rfl⟩ <;> simp) (by
    rintro ⟨d0, h0⟩
    rw [h] at h0; cases h0
    rcases c with ⟨h1, _⟩ | ⟨_, rfl⟩
    · cases h1
    · rfl) ⟨_, upd_same, Reps.append (.cons r .nil) rs⟩
theorem ev_append (i : Nat) {x : Str} {p : Pos} (hb : EV X EX b tb wb) (hN : X.N[i]? = some x := by rfl) (hv : Vis X.env.scope x := by first | exact Or.inl rfl | exact Or.inr (Or.inl rfl) | exact Or.inr (Or.inr rfl)) (hd : (x == ("__debug__" : Str)) = false := by decide) (hcd : (x == ("__classdict__" : Str)) = false := by decide)
    (hbase : attributeBase (.Name x p) "append" X.env (eval (.Name x p) X.env) = eval (.Name x p) X.env := by rfl)
    (hfew : ((backTo pos (starEach [b] X.env)).all (fun x => !x.1) && (backToKw pos (keywordEach [] X.env)).all (fun x => x.1.isSome)
      && decide ([b].length + ([] : List Keyword).length + (if ([] : List Keyword).isEmpty then 0 else 1) < 30)) = true := by rfl)
    (hline : (apos.endLine == pos.line) = true := by rfl) (hs : starEach [b] X.env = (false, eval b X.env) :: starEach [] X.env := by rfl) (hplain : (backTo pos (starEach [] X.env)).any (·.1) = false := by rfl) {K : PySem.W.Frag} (hK : X.K = K := by rfl) :
    EV X EX (.Call (.Attribute (.Name x p) "append" apos) [b] [] pos) (tBM K "list" rAppend (tVar i) (tCons tb tNil)) (wAppend i wb) := by
  subst hK
  exact ⟨pe_bm PySem.F.plainAttrs_list PySem.F.slot_list_append PySem.F.type_list_append mt_append (pe_var hN hv hd hcd) (pa_cons hb.pe pa_nil hs) hbase hfew hline hs hplain, fun Fr H σ ρ ex QV Q ok xl hw k => by
    obtain ⟨kn, hw⟩ := hw
    obtain ⟨sl, ds, e1, c1⟩ := isL_ok kn
    obtain ⟨p0, xs0, es0, hp0, rs0, own0⟩ := ok.ownL e1 c1
    refine ⟨.ref p0, es0, .inl ⟨rfl, xs0, SqL.of hp0⟩, hb.val Fr H σ ρ ex _ _ ok xl hw fun d ρ1 y Fr1 H1 q1 ok1 g1 r1 => ?_⟩
    have fin : ∀ (sl1 sl' : Sl) (ds1 : List D), ρ1[i]? = some sl1 → ((sl1 = .o (.lst ds1) ∧ sl' = .o (.lst (ds1 ++ [d]))) ∨ (sl1 = .b (.lst ds1) ∧ sl' = .b (.lst (ds1 ++ [d])))) → ds1.length < 16777216 → QV .non (ρ1.set i sl') → rAppend (.ref p0) [y] H1 Q := fun sl1 sl' ds1 e2 c2 hl q => by
      obtain ⟨p1, xs1, es1, hp1, rs1, own1⟩ := ok1.ownL e2 (c2.imp And.left And.left)
      rw [es0] at es1; cases es1
      obtain ⟨ok2, g2⟩ := ok1.pushL e2 c2 es0 hp1 rs1 r1
      exact ⟨p0, xs1, y, rfl, rfl, hp1, by rw [rs1.length, sizeLine_eq]; exact hl, k .non _ .non Fr1 _ q ok2 (g1.trans g2) .non⟩
    split at q1
    · rename_i ds1 e2
      exact fin _ _ ds1 e2 (.inl ⟨rfl, rfl⟩) q1.1 q1.2
    · rename_i ds1 e2
      exact fin _ _ ds1 e2 (.inr ⟨rfl, rfl⟩) q1.1 q1.2
    · exact q1.elim⟩
end
end DL

set_option Elab.async false
set_option linter.all false
set_option autoImplicit false
set_option maxRecDepth 100000
set_option maxHeartbeats 1000000
/-! DL, part 9: short words for printed terms. -/
namespace DL
open PySem PySem.Spec PyProof.Rows L2

theorem bt_len : bootBuiltins "len" = some (.builtin "len") := by decide +kernel
theorem bt_int : bootBuiltins "int" = some (.type "int") := by decide +kernel
theorem bt_str : bootBuiltins "str" = some (.type "str") := by decide +kernel
theorem bt_bool : bootBuiltins "bool" = some (.type "bool") := by decide +kernel
theorem bt_list : bootBuiltins "list" = some (.type "list") := by decide +kernel
theorem bt_tuple : bootBuiltins "tuple" = some (.type "tuple") := by decide +kernel
theorem bt_dict : bootBuiltins "dict" = some (.type "dict") := by decide +kernel
theorem bt_max : bootBuiltins "max" = some (.builtin "max") := by decide +kernel
theorem bt_min : bootBuiltins "min" = some (.builtin "min") := by decide +kernel
theorem bt_abs : bootBuiltins "abs" = some (.builtin "abs") := by decide +kernel
theorem bt_all : bootBuiltins "all" = some (.builtin "all") := by decide +kernel
theorem bt_any : bootBuiltins "any" = some (.builtin "any") := by decide +kernel
theorem bt_isi : bootBuiltins "isinstance" = some (.builtin "isinstance") := by decide +kernel
section
variable {X : Cx} {EX : XK} {a b : Expr} {ta tb : TE} {wa wb : WV} {pos p : Pos}
theorem ev_len (hm : X.mg "len" = none) (ha : EV X EX a ta wa) (hg : Gl X "len" := by rfl) (he : starEach [a] X.env = (false, eval a X.env) :: starEach [] X.env := by rfl) (hpl : (backTo pos (starEach [] X.env)).any (·.1) = false := by rfl) {K : PySem.W.Frag} (hK : X.K = K := by rfl) :
    EV X EX (.Call (.Name "len" p) [a] [] pos) (tCB (rrLen K) (tCons ta tNil)) (wCB fLen (wConsL wa wNilL)) := by
  subst hK
  exact ev_callB call_len rel_Len hg hm bt_len (el_cons ha el_nil he) (by decide) (by decide) he hpl
theorem ev_int1 (hm : X.mg "int" = none) (ha : EV X EX a ta wa) (hg : Gl X "int" := by rfl) (he : starEach [a] X.env = (false, eval a X.env) :: starEach [] X.env := by rfl) (hpl : (backTo pos (starEach [] X.env)).any (·.1) = false := by rfl) :
    EV X EX (.Call (.Name "int" p) [a] [] pos) (tCB rrInt (tCons ta tNil)) (wCB fInt (wConsL wa wNilL)) := ev_callTy call_int1 rel_Int hg hm bt_int (el_cons ha el_nil he) (by decide) (by decide) he hpl
theorem ev_abs (hm : X.mg "abs" = none) (ha : EV X EX a ta wa) (hg : Gl X "abs" := by rfl) (he : starEach [a] X.env = (false, eval a X.env) :: starEach [] X.env := by rfl) (hpl : (backTo pos (starEach [] X.env)).any (·.1) = false := by rfl) :
    EV X EX (.Call (.Name "abs" p) [a] [] pos) (tCB rrAbs (tCons ta tNil)) (wCB fAbs (wConsL wa wNilL)) := ev_callB call_abs rel_Abs hg hm bt_abs (el_cons ha el_nil he) (by decide) (by decide) he hpl
theorem ev_stri (hm : X.mg "str" = none) (ha : EV X EX a ta wa) (hg : Gl X "str" := by rfl) (he : starEach [a] X.env = (false, eval a X.env) :: starEach [] X.env := by rfl) (hpl : (backTo pos (starEach [] X.env)).any (·.1) = false := by rfl) :
    EV X EX (.Call (.Name "str" p) [a] [] pos) (tCB rrStrI (tCons ta tNil)) (wCB fStrI (wConsL wa wNilL)) := ev_callTy call_str_int rel_StrI hg hm bt_str (el_cons ha el_nil he) (by decide) (by decide) he hpl
theorem ev_any (hc : X.calm = true) (hm : X.mg "any" = none) (ha : EV X EX a ta wa) (hg : Gl X "any" := by rfl) (he : starEach [a] X.env = (false, eval a X.env) :: starEach [] X.env := by rfl) (hpl : (backTo pos (starEach [] X.env)).any (·.1) = false := by rfl) {K : PySem.W.Frag} (hK : X.K = K := by rfl) :
    EV X EX (.Call (.Name "any" p) [a] [] pos) (tCB (rAny K) (tCons ta tNil)) (wCB fAny (wConsL wa wNilL)) := by
  subst hK
  exact ev_callB (cr_any hc) rel_Any hg hm bt_any (el_cons ha el_nil he) (by decide) (by decide) he hpl
theorem ev_all (hc : X.calm = true) (hm : X.mg "all" = none) (ha : EV X EX a ta wa) (hg : Gl X "all" := by rfl) (he : starEach [a] X.env = (false, eval a X.env) :: starEach [] X.env := by rfl) (hpl : (backTo pos (starEach [] X.env)).any (·.1) = false := by rfl) {K : PySem.W.Frag} (hK : X.K = K := by rfl) :
    EV X EX (.Call (.Name "all" p) [a] [] pos) (tCB (rAll K) (tCons ta tNil)) (wCB fAll (wConsL wa wNilL)) := by
  subst hK
  exact ev_callB (cr_all hc) rel_All hg hm bt_all (el_cons ha el_nil he) (by decide) (by decide) he hpl
theorem eo_list (hm : X.mg "list" = none) (ha : EV X EX a ta wa) (hg : Gl X "list" := by rfl) (he : starEach [a] X.env = (false, eval a X.env) :: starEach [] X.env := by rfl) (hpl : (backTo pos (starEach [] X.env)).any (·.1) = false := by rfl) {K : PySem.W.Frag} (hK : X.K = K := by rfl) :
    EO X EX (.Call (.Name "list" p) [a] [] pos) (tCB (rrList K) (tCons ta tNil)) (wCN fList (wConsL wa wNilL)) := by
  subst hK
  exact eo_callTy call_list_of rel_List hg hm bt_list (el_cons ha el_nil he) (by decide) (by decide) he hpl
theorem ev_max2 (hc : X.calm = true) (hm : X.mg "max" = none) (ha : EV X EX a ta wa) (hb : EV X EX b tb wb) (hg : Gl X "max" := by rfl) (he : starEach [a, b] X.env = (false, eval a X.env) :: starEach [b] X.env := by rfl) (he2 : starEach [b] X.env = (false, eval b X.env) :: starEach [] X.env := by rfl) (hpl : (backTo pos (starEach [b] X.env)).any (·.1) = false := by rfl) :
    EV X EX (.Call (.Name "max" p) [a, b] [] pos) (tCB rrMax2 (tCons ta (tCons tb tNil))) (wCB fMax2 (wConsL wa (wConsL wb wNilL))) := ev_callB (call_max2 hc) rel_Max2 hg hm bt_max (el_cons ha (el_cons hb el_nil he2) he) (by decide) (by decide) he hpl
theorem ev_min2 (hc : X.calm = true) (hm : X.mg "min" = none) (ha : EV X EX a ta wa) (hb : EV X EX b tb wb) (hg : Gl X "min" := by rfl) (he : starEach [a, b] X.env = (false, eval a X.env) :: starEach [b] X.env := by rfl) (he2 : starEach [b] X.env = (false, eval b X.env) :: starEach [] X.env := by rfl) (hpl : (backTo pos (starEach [b] X.env)).any (·.1) = false := by rfl) :
    EV X EX (.Call (.Name "min" p) [a, b] [] pos) (tCB rrMin2 (tCons ta (tCons tb tNil))) (wCB fMin2 (wConsL wa (wConsL wb wNilL))) := ev_callB (call_min2 hc) rel_Min2 hg hm bt_min (el_cons ha (el_cons hb el_nil he2) he) (by decide) (by decide) he hpl
/-- a built-in type's name -/
theorem ev_tyn {x : Str} {n : String} (hm : X.mg x = none) (hv : bootBuiltins x = some (.type n)) (hg : Gl X x := by rfl) (hn : x ≠ "__name__" := by decide) (hd : (x == ("__debug__" : Str)) = false := by decide) : EV X EX (.Name x pos) (tC (.ty n)) (wC (.ty n)) :=
  ev_c (pe_bltn hg hm hv rfl hn hd) fun _ => .ty n
theorem ev_isi (hm : X.mg "isinstance" = none) (ha : EV X EX a ta wa) (hb : EV X EX b tb wb) (hg : Gl X "isinstance" := by rfl) (he : starEach [a, b] X.env = (false, eval a X.env) :: starEach [b] X.env := by rfl) (he2 : starEach [b] X.env = (false, eval b X.env) :: starEach [] X.env := by rfl) (hpl : (backTo pos (starEach [b] X.env)).any (·.1) = false := by rfl) {K : PySem.W.Frag} (hK : X.K = K := by rfl) :
    EV X EX (.Call (.Name "isinstance" p) [a, b] [] pos) (tCB (rIsi K) (tCons ta (tCons tb tNil))) (wCB fIsi (wConsL wa (wConsL wb wNilL))) := by
  subst hK
  exact ev_callB call_isi rel_Isi hg hm bt_isi (el_cons ha (el_cons hb el_nil he2) he) (by decide) (by decide) he hpl
end
theorem CalC.hm {P : Program} {w : World} {K : PySem.W.Frag} {mg : Str → Option Value} {base : Heap} {k : Nat} {x : Str} {f : Addr} {C : Con} (c : CalC P w K mg base k x f C) : mg x = some (.ref f) := by
  obtain ⟨fd, ps, F, hm, r⟩ := c.ex
  exact hm
theorem hu64 {A : Around} {k : Nat} (hr : Room k A) : A.units + 64 < cLine := hr.units
theorem hu65 {A : Around} {k : Nat} (hr : Room k A) : A.units + 65 < cLine := by have := hr.un; omega
/-- which targets' lists have which length -/
theorem wgs_nil_len : ∀ (ds : List D) (ρ : List Sl) (Q : List Sl → Prop), wGNil ds ρ Q → ds.length = 0
  | [], _, _, _ => rfl
theorem wgs_cons_len {w : WG} {ws : WGs} {n : Nat} {i : Nat} (hw : w = wName i) (h : ∀ (ds : List D) (ρ : List Sl) (Q : List Sl → Prop), ws ds ρ Q → ds.length = n) : ∀ (ds : List D) (ρ : List Sl) (Q : List Sl → Prop), wGCons w ws ds ρ Q → ds.length = n + 1
  | d :: ds, ρ, Q, q => by
    subst hw
    have q : free ρ i = true ∧ ws ds (ρ.set i (.v d)) Q := q
    rw [List.length_cons, h ds _ _ q.2]
section
variable {X : Cx} {pos : Pos} {px py : Pos} {kk : Nat} {x y : Str}
/-- x, y = a pair, both names -/
theorem eg_pair (i j : Nat) (hc : X.calm = true) (hN : X.N.Nodup) (h1 : EG X (.Name x px) (gName i) [i] (wName i)) (h2 : EG X (.Name y py) (gName j) [j] (wName j)) {K : PySem.W.Frag} (hK : X.K = K := by rfl) : EG X (.Tuple [.Name x px, .Name y py] kk pos) (gTup K 2 (gCons (gName i) (gCons (gName j) gNil))) ([i] ++ ([j] ++ [])) (wGTup (wGCons (wName i) (wGCons (wName j) wGNil))) := by
  subst hK
  exact eg_tup hc (egs_cons h1 (egs_cons h2 egs_nil)) (wgs_cons_len rfl (wgs_cons_len rfl wgs_nil_len))
end
end DL

set_option Elab.async false
set_option linter.all false
set_option autoImplicit false
set_option maxRecDepth 100000
set_option maxHeartbeats 1000000
/-! DL, part 10: small facts for the reading of printed terms. -/
namespace DL
open PySem PySem.Spec PyProof.Rows L2
theorem ixN_lit (n k : Nat) : ixN n (no_index (@OfNat.ofNat Int k instOfNat)) = if k < n then some k else none := by
  show ixN n ((k : Nat) : Int) = _
  unfold ixN
  by_cases h : k < n
  · simp [h]
  · simp [h]
theorem atI_lit {α : Type} (l : List α) (k : Nat) : atI l (no_index (@OfNat.ofNat Int k instOfNat)) = l[k]? := by
  unfold atI
  rw [ixN_lit]
  by_cases h : k < l.length
  · rw [if_pos h]; rfl
  · rw [if_neg h, List.getElem?_eq_none (by omega)]; rfl
theorem atI_n {α : Type} (l : List α) (k : Nat) : atI l (k : Int) = l[k]? := by
  unfold atI ixN
  rw [if_pos (Int.natCast_nonneg _)]
  by_cases h : k < l.length
  · rw [if_pos (by omega)]
    show l[(k : Int).toNat]? = _
    rw [Int.toNat_natCast]
  · rw [if_neg (by omega), List.getElem?_eq_none (by omega)]; rfl
theorem intBits_le {i : Int} {b : Nat} (h : i.natAbs < 2 ^ b) : Builtin.Int.intBits i ≤ b := by
  by_cases hb : b = 0
  · subst hb
    have : i = 0 := by omega
    subst this
    decide
  · have := PySem.Flt.log2_lt_of (Nat.pos_of_ne_zero hb) h
    unfold Builtin.Int.intBits
    split <;> omega
theorem mul_l {i j : Int} (h : i.natAbs < 2 ^ 64) : IntMulOk i j := .of_left (intBits_le h)
theorem mul_r {i j : Int} (h : j.natAbs < 2 ^ 64) : IntMulOk i j := .of_right (intBits_le h)
theorem pow_ok {i j : Int} {b : Nat} (hj : 0 ≤ j) (h : i.natAbs < 2 ^ b) (hb : (b : Int) * j ≤ 2 ^ 27) : CPowW i j := by
  refine ⟨hj, Int.le_trans (Int.mul_le_mul_of_nonneg_right ?_ hj) hb⟩
  exact_mod_cast intBits_le h
theorem div_ok {i j : Int} (h : 0 < j) (hj : j.natAbs < 2 ^ 64) : CDivW i j := wide_div h hj (by decide) (by decide)
/-- a def that nothing is asked of -/
theorem calVac {P : Program} {w : World} {K : PySem.W.Frag} {mg : Str → Option Value} {base : Heap} {x qual : Str} {params : Arguments} {body : List Stmt} {scope : Scope} {f : Addr} {fd : FuncData} {ps : List Str} {k : Nat} {C : Con} (F : FunD K x qual params body scope [] [] f fd) (hm : mg x = some (.ref f))
    (hb : ∀ (kV doc pm : Value) (an : Option Addr) (cdv ct : Value) (us : List Value), us.length = ps.length → bindArgs (PySem.W.fnOf x qual params body scope .none kV doc pm an cdv ct) ⟨us, []⟩ = pure (ps.zip us)) (h : ∀ args CQ CX, ¬ C args CQ CX) (hps : ps = params.args.map (·.arg) := by rfl) : CalC P w K mg base k x f C :=
  ⟨fd, ps, ⟨fun vs H Q E ⟨Fr, args, CQ, CX, ok, no, hc, _⟩ => (h _ _ _ hc).elim, fun A outer s H args us vs Q E hr e0 hb hv ⟨Fr, as, CQ, CX, ok, no, hc, _⟩ => (h _ _ _ hc).elim⟩, hm, F.kp, F.bindsN hb, (FunD_look F).1, by rw [(FunD_look F).2]; exact hps⟩
theorem CalC.imp {P : Program} {w : World} {K : PySem.W.Frag} {mg : Str → Option Value} {base : Heap} {x : Str} {f : Addr} {k : Nat} {C C' : Con} (c : CalC P w K mg base k x f C) (h : ∀ args CQ CX, C' args CQ CX → C args CQ CX) : CalC P w K mg base k x f C' := by
  obtain ⟨fd, ps, F, r⟩ := c.ex
  exact ⟨fd, ps, F.imp fun vs H Q E ⟨Fr, args, CQ, CX, ok, no, hc, r⟩ => ⟨Fr, args, CQ, CX, ok, no, h _ _ _ hc, r⟩, r⟩
/-! ### texts as lists of signs -/
abbrev S (l : List Nat) : Str := SX.S l
theorem cut_at {l pre mid post : List Nat} {i j : Int} (h : l = pre ++ (mid ++ post)) (hi : i = pre.length) (hj : j = i + mid.length) : cutS (S l) (some i) (some j) = S mid := by
  subst h hi
  have hj : j = ((pre.length + mid.length : Nat) : Int) := by rw [hj]; omega
  subst hj
  unfold cutS
  have hl : (S (pre ++ (mid ++ post))).length = pre.length + (mid.length + post.length) := by rw [SX.S_len, List.length_append, List.length_append]
  rw [HT.sIx_nat, HT.sIx_nat, hl, Nat.min_eq_left (by omega), Nat.min_eq_left (by omega)]
  show (⟨(((pre ++ (mid ++ post)).drop pre.length).take (pre.length + mid.length - pre.length)).toArray⟩ : Str) = _
  rw [List.drop_left, show pre.length + mid.length - pre.length = mid.length from by omega, List.take_left]
theorem cut_end {l : List Nat} {i j : Int} (hi : i = l.length) (hj : i ≤ j) : cutS (S l) (some i) (some j) = S [] := by
  subst hi
  obtain ⟨b, rfl⟩ := Int.eq_ofNat_of_zero_le (show 0 ≤ j by omega)
  unfold cutS
  have hl : (S l).length = l.length := SX.S_len l
  rw [HT.sIx_nat, HT.sIx_nat, hl, Nat.min_eq_left (Nat.le_refl _), Nat.min_eq_right (by omega), Nat.sub_self]
  rfl
theorem at_S {l pre post : List Nat} {c : Nat} {i : Int} (h : l = pre ++ (c :: post)) (hi : i = pre.length) (hz : l.length ≤ sizeLine) : ixD (.str (S l)) i = some (.str (S [c])) := by
  subst h hi
  have e : atI (S (pre ++ (c :: post))).cps.toList (pre.length : Int) = some c := by
    show atI (pre ++ (c :: post)) (pre.length : Int) = some c
    unfold atI ixN
    rw [if_pos (Int.natCast_nonneg _), if_pos (by rw [List.length_append, List.length_cons]; omega)]
    show (pre ++ (c :: post))[(pre.length : Int).toNat]? = some c
    rw [Int.toNat_natCast, List.getElem?_append_right (Nat.le_refl _), Nat.sub_self]
    rfl
  show (if (S (pre ++ (c :: post))).length ≤ sizeLine then _ else none) = _
  rw [SX.S_len, if_pos hz, e]
  rfl
theorem S_eq_iff (a b : List Nat) : (S a = S b) ↔ a = b := ⟨SX.S_inj, fun h => by rw [h]⟩
theorem ixD_lst (ds : List D) (i : Int) : ixD (.lst ds) i = atI ds i := rfl
theorem ixD_tup (ds : List D) (i : Int) : ixD (.tup ds) i = atI ds i := rfl
theorem ixD_scr (ns : List Int) (i : Int) : ixD (.scr ns) i = (atI ns i).map .int := rfl
theorem abc_at {r : Int} (h0 : 0 ≤ r) (h1 : r < 26) : ixD (.str "abcdefghijklmnopqrstuvwxyz") r = some (.str (S [97 + r.toNat])) := by
  obtain ⟨n, rfl⟩ := Int.eq_ofNat_of_zero_le h0
  have h : ∀ n : Fin 26, (atI ("abcdefghijklmnopqrstuvwxyz" : Str).cps.toList ((n.val : Nat) : Int)) = some (97 + n.val) := by decide +kernel
  have h2 := h ⟨n, by omega⟩
  have hz : ("abcdefghijklmnopqrstuvwxyz" : Str).length ≤ sizeLine := by rw [sizeLine_eq]; decide +kernel
  show (if ("abcdefghijklmnopqrstuvwxyz" : Str).length ≤ sizeLine then (atI ("abcdefghijklmnopqrstuvwxyz" : Str).cps.toList (n : Int)).map (fun c => D.str ⟨#[c]⟩) else none) = _
  rw [if_pos hz, h2]
  rfl
/-! ### turns -/
theorem items_go {body : WBody} {Q : List D → List Sl → Prop} {ds0 : List D} (P : Nat → List D → List Sl → Prop) (hs : ∀ i d acc ρ K, ds0[i]? = some d → P i acc ρ → (∀ y ρ', P (i + 1) (acc ++ [y]) ρ' → K (some y) ρ') → (∀ ρ', P (i + 1) acc ρ' → K none ρ') → body d ρ K)
    (hQ : ∀ acc ρ, P ds0.length acc ρ → Q acc ρ) : ∀ (ds : List D) (i : Nat) (acc : List D) (ρ : List Sl), ds0.drop i = ds → P i acc ρ → i ≤ ds0.length → wItems body ds acc ρ Q
  | [], i, acc, ρ, e, h, hi => by
    have hl : i = ds0.length := by
      have := congrArg List.length e
      rw [List.length_drop, List.length_nil] at this
      omega
    subst hl
    exact hQ acc ρ h
  | d :: ds, i, acc, ρ, e, h, hi => by
    have hlt : i < ds0.length := by
      have := congrArg List.length e
      rw [List.length_drop, List.length_cons] at this
      omega
    rw [List.drop_eq_getElem_cons hlt] at e
    injection e with e1 e2
    unfold wItems
    refine hs i d acc ρ _ (by rw [List.getElem?_eq_getElem hlt, e1]) h (fun y ρ' p => ?_) fun ρ' p => ?_
    · exact items_go P hs hQ ds (i + 1) (acc ++ [y]) ρ' e2 p hlt
    · exact items_go P hs hQ ds (i + 1) acc ρ' e2 p hlt
theorem items_by {body : WBody} {Q : List D → List Sl → Prop} {ds : List D} {ρ : List Sl} {t1 : Tg body} {t2 : Tg Q} (P : Nat → List D → List Sl → Prop) (h0 : P 0 [] ρ) (hs : ∀ i d acc ρ K, ds[i]? = some d → P i acc ρ → (∀ y ρ', P (i + 1) (acc ++ [y]) ρ' → K (some y) ρ') → (∀ ρ', P (i + 1) acc ρ' → K none ρ') → body d ρ K)
    (hQ : ∀ acc ρ, P ds.length acc ρ → Q acc ρ) : ItemsAt body ds [] ρ Q t1 t2 := items_go P hs hQ ds 0 [] ρ rfl h0 (Nat.zero_le _)
/-- a block that leaves the names as they are: the map -/
theorem items_map {α : Type} {body : WBody} {Q : List D → List Sl → Prop} {xs : List α} {enc : α → D} {ρ : List Sl} {t1 : Tg body} {t2 : Tg Q} (g : α → D) (hs : ∀ x K, x ∈ xs → K (some (g x)) ρ → body (enc x) ρ K) (hQ : Q (xs.map g) ρ) : ItemsAt body (xs.map enc) [] ρ Q t1 t2 := by
  refine items_by (fun i acc ρ' => ρ' = ρ ∧ acc = (xs.take i).map g) ⟨rfl, rfl⟩ (fun i d acc ρ' K hd ⟨e1, e2⟩ ky kn => ?_) fun acc ρ' ⟨e1, e2⟩ => ?_
  · subst e1 e2
    rw [List.getElem?_map] at hd
    obtain ⟨x, hx, rfl⟩ := Option.map_eq_some_iff.mp hd
    refine hs x K (List.mem_of_getElem? hx) (ky _ _ ⟨rfl, ?_⟩)
    rw [List.take_add_one, hx, List.map_append]
    rfl
  · subst e1 e2
    rw [List.length_map, List.take_length]
    exact hQ
theorem each_go {step : D → List Sl → (List Sl → Prop) → Prop} {Q : List Sl → Prop} {ds0 : List D} (P : Nat → List Sl → Prop) (hs : ∀ i d ρ K, ds0[i]? = some d → P i ρ → (∀ ρ', P (i + 1) ρ' → K ρ') → step d ρ K) (hQ : ∀ ρ, P ds0.length ρ → Q ρ) :
    ∀ (ds : List D) (i : Nat) (ρ : List Sl), ds0.drop i = ds → P i ρ → i ≤ ds0.length → wEach step ds ρ Q
  | [], i, ρ, e, h, hi => by
    have hl : i = ds0.length := by
      have := congrArg List.length e
      rw [List.length_drop, List.length_nil] at this
      omega
    subst hl
    exact hQ ρ h
  | d :: ds, i, ρ, e, h, hi => by
    have hlt : i < ds0.length := by
      have := congrArg List.length e
      rw [List.length_drop, List.length_cons] at this
      omega
    rw [List.drop_eq_getElem_cons hlt] at e
    injection e with e1 e2
    unfold wEach
    refine hs i d ρ _ (by rw [List.getElem?_eq_getElem hlt, e1]) h fun ρ' p => ?_
    exact each_go P hs hQ ds (i + 1) ρ' e2 p hlt
theorem each_by {step : D → List Sl → (List Sl → Prop) → Prop} {Q : List Sl → Prop} {ds : List D} {ρ : List Sl} {t1 : Tg step} {t2 : Tg Q} (P : Nat → List Sl → Prop) (h0 : P 0 ρ) (hs : ∀ i d ρ K, ds[i]? = some d → P i ρ → (∀ ρ', P (i + 1) ρ' → K ρ') → step d ρ K) (hQ : ∀ ρ, P ds.length ρ → Q ρ) :
    EachAt step ds ρ Q t1 t2 := each_go P hs hQ ds 0 ρ rfl h0 (Nat.zero_le _)
theorem rng_get {n i : Nat} {d : D} (h : (rngD 0 n)[i]? = some d) : d = .int (i : Nat) ∧ i < n := by
  unfold rngD at h
  rw [List.getElem?_map] at h
  obtain ⟨j, hj, rfl⟩ := Option.map_eq_some_iff.mp h
  obtain ⟨h1, h2⟩ := List.getElem?_eq_some_iff.mp hj
  rw [List.getElem_range] at h2
  subst h2
  rw [List.length_range] at h1
  exact ⟨by rw [Int.zero_add], h1⟩
/-! ### defs that call themselves -/
def prev (C : Nat → Con) : Nat → Con
  | 0 => fun _ _ _ => False
  | n + 1 => C n
theorem calRec {P : Program} {w : World} {K : PySem.W.Frag} {mg : Str → Option Value} {base : Heap} {x : Str} {f : Addr} {c : Nat} {C : Nat → Con} (vac : CalC P w K mg base c x f fun _ _ _ => False) (step : ∀ n, CalC P w K mg base (n + c) x f (prev C n) → CalC P w K mg base (n + c + 1) x f (C n)) :
    ∀ n, CalC P w K mg base (n + c + 1) x f (C n)
  | 0 => step 0 (by rw [Nat.zero_add]; exact vac)
  | n + 1 => step (n + 1) (by have := calRec vac step n; rw [show n + 1 + c = n + c + 1 from by omega]; exact this)
theorem l40 : Str.ofString "(" = S [40] := rfl
theorem l41 : Str.ofString ")" = S [41] := rfl
theorem l42 : Str.ofString "*" = S [42] := rfl
theorem l91 : Str.ofString "[" = S [91] := rfl
theorem l93 : Str.ofString "]" = S [93] := rfl
theorem l97 : Str.ofString "a" = S [97] := rfl
theorem l98 : Str.ofString "b" = S [98] := rfl
theorem lgt : Str.ofString " > " = S [32, 62, 32] := rfl
theorem llt : Str.ofString " < " = S [32, 60, 32] := rfl
theorem lco : Str.ofString " , " = S [32, 44, 32] := rfl
theorem lb9 : Str.ofString "b[" = S [98, 91] := rfl
theorem la9 : Str.ofString "a[" = S [97, 91] := rfl
theorem l0 : Str.ofString "" = S [] := rfl
theorem strsD_of {α : Type} (g : α → Str) : ∀ xs : List α, strsD (xs.map fun x => D.str (g x)) = some (xs.map g)
  | [] => rfl
  | x :: xs => by
    show (strsD (xs.map fun x => D.str (g x))).map (g x :: ·) = _
    rw [strsD_of g xs]; rfl
theorem join_of {α : Type} (sep : List Nat) (g : α → List Nat) (xs : List α) : Txt.join (S sep) (xs.map fun x => S (g x)) = S (TL.joinL sep (xs.map g)) := by
  rw [show (xs.map fun x => S (g x)) = (xs.map g).map S from by rw [List.map_map]; rfl, SX.join_S]
theorem blsD_of {α : Type} (g : α → Bool) : ∀ xs : List α, blsD (xs.map fun x => D.bl (g x)) = some (xs.map g)
  | [] => rfl
  | x :: xs => by
    show (blsD (xs.map fun x => D.bl (g x))).map (g x :: ·) = _
    rw [blsD_of g xs]; rfl
theorem zipD_of {α : Type} (g h : α → D) : ∀ xs : List α, zipD (xs.map g) (xs.map h) = xs.map fun x => .tup [g x, h x]
  | [] => rfl
  | x :: xs => by
    show D.tup [g x, h x] :: zipD (xs.map g) (xs.map h) = _
    rw [zipD_of g h xs]; rfl
theorem lenD_S {l : List Nat} (h : l.length ≤ 16777216) : lenD (.str (S l)) = some l.length := by
  show (if (S l).length ≤ sizeLine then some (S l).length else none) = _
  rw [SX.S_len, if_pos (line_of h)]
theorem lenD_lst (ds : List D) : lenD (.lst ds) = some ds.length := rfl
theorem lenD_tup (ds : List D) : lenD (.tup ds) = some ds.length := rfl
theorem lenD_scr (ns : List Int) : lenD (.scr ns) = some ns.length := rfl
theorem calRecS {P : Program} {w : World} {K : PySem.W.Frag} {mg : Str → Option Value} {base : Heap} {x : Str} {f : Addr} {c s : Nat} {C : Nat → Con} (vac : CalC P w K mg base c x f fun _ _ _ => False) (step : ∀ n, CalC P w K mg base (s * n + c) x f (prev C n) → CalC P w K mg base (s * (n + 1) + c) x f (C n)) :
    ∀ n, CalC P w K mg base (s * (n + 1) + c) x f (C n)
  | 0 => step 0 (by rw [Nat.mul_zero, Nat.zero_add]; exact vac)
  | n + 1 => step (n + 1) (calRecS vac step n)
/-! ### while -/
theorem wh_go {c : WB} {b : WS} {E : DE} (P : Nat → List Sl → Prop) (hs : ∀ n ρ (K : List Sl → Prop), P n ρ → (∀ m ρ', m < n → P m ρ' → K ρ') → c E.ex ρ fun t ρ1 => if t = true then b { E with nx := K, ct := K, bk := E.nx } ρ1 else E.nx ρ1) :
    ∀ n m ρ, m ≤ n → P m ρ → wWh c b E (n + 1) ρ
  | 0, m, ρ, hm, h => by
    obtain rfl : m = 0 := by omega
    exact hs 0 ρ _ h fun m ρ' hm _ => absurd hm (Nat.not_lt_zero _)
  | n + 1, m, ρ, hm, h => hs m ρ _ h fun m' ρ' hm' h' => wh_go P hs n m' ρ' (by omega) h'
theorem wh_by {c : WB} {b : WS} {E : DE} {ρ : List Sl} {t1 : Tg c} {t2 : Tg b} {t3 : Tg E} (P : Nat → List Sl → Prop) (n : Nat) (h0 : P n ρ) (hs : ∀ n ρ (K : List Sl → Prop), P n ρ → (∀ m ρ', m < n → P m ρ' → K ρ') → c E.ex ρ fun t ρ1 => if t = true then b { E with nx := K, ct := K, bk := E.nx } ρ1 else E.nx ρ1) : WhAt c b E ρ t1 t2 t3 :=
  ⟨n + 1, wh_go P hs n n ρ (Nat.le_refl _) h0⟩
theorem cut_to {l : List Nat} {i : Int} {k : Nat} (hi : i = k) (hk : k ≤ l.length) : cutS (S l) none (some i) = S (l.take k) := by
  subst hi
  unfold cutS
  have hl : (S l).length = l.length := SX.S_len l
  rw [HT.sIx_none, HT.sIx_nat, hl, Nat.min_eq_left hk, Nat.sub_zero]
  rfl
theorem joinL_nil {α : Type} (f : α → Nat) : ∀ xs : List α, TL.joinL [] (xs.map fun x => [f x]) = xs.map f
  | [] => rfl
  | [x] => rfl
  | x :: y :: xs => by
    have := joinL_nil f (y :: xs)
    rw [List.map_cons] at this ⊢
    rw [List.map_cons] at this ⊢
    show [f x] ++ ([] ++ TL.joinL [] ([f y] :: xs.map fun x => [f x])) = _
    rw [this]
    rfl
theorem kit_tuple_tuple : kitB "tuple" "tuple" = some true := by decide +kernel
theorem kit_tuple_list : kitB "tuple" "list" = some false := by decide +kernel
theorem kit_tuple_str : kitB "tuple" "str" = some false := by decide +kernel
theorem kit_tuple_int : kitB "tuple" "int" = some false := by decide +kernel
theorem kit_tuple_bool : kitB "tuple" "bool" = some false := by decide +kernel
theorem kit_tuple_dict : kitB "tuple" "dict" = some false := by decide +kernel
theorem kit_list_tuple : kitB "list" "tuple" = some false := by decide +kernel
theorem kit_list_list : kitB "list" "list" = some true := by decide +kernel
theorem kit_list_str : kitB "list" "str" = some false := by decide +kernel
theorem kit_list_int : kitB "list" "int" = some false := by decide +kernel
theorem kit_list_bool : kitB "list" "bool" = some false := by decide +kernel
theorem kit_list_dict : kitB "list" "dict" = some false := by decide +kernel
theorem kit_str_tuple : kitB "str" "tuple" = some false := by decide +kernel
theorem kit_str_list : kitB "str" "list" = some false := by decide +kernel
theorem kit_str_str : kitB "str" "str" = some true := by decide +kernel
theorem kit_str_int : kitB "str" "int" = some false := by decide +kernel
theorem kit_str_bool : kitB "str" "bool" = some false := by decide +kernel
theorem kit_str_dict : kitB "str" "dict" = some false := by decide +kernel
theorem kit_int_tuple : kitB "int" "tuple" = some false := by decide +kernel
theorem kit_int_list : kitB "int" "list" = some false := by decide +kernel
theorem kit_int_str : kitB "int" "str" = some false := by decide +kernel
theorem kit_int_int : kitB "int" "int" = some true := by decide +kernel
theorem kit_int_bool : kitB "int" "bool" = some false := by decide +kernel
theorem kit_int_dict : kitB "int" "dict" = some false := by decide +kernel
theorem kit_bool_tuple : kitB "bool" "tuple" = some false := by decide +kernel
theorem kit_bool_list : kitB "bool" "list" = some false := by decide +kernel
theorem kit_bool_str : kitB "bool" "str" = some false := by decide +kernel
theorem kit_bool_int : kitB "bool" "int" = some true := by decide +kernel
theorem kit_bool_bool : kitB "bool" "bool" = some true := by decide +kernel
theorem kit_bool_dict : kitB "bool" "dict" = some false := by decide +kernel
theorem kit_NoneType_tuple : kitB "NoneType" "tuple" = some false := by decide +kernel
theorem kit_NoneType_list : kitB "NoneType" "list" = some false := by decide +kernel
theorem kit_NoneType_str : kitB "NoneType" "str" = some false := by decide +kernel
theorem kit_NoneType_int : kitB "NoneType" "int" = some false := by decide +kernel
theorem kit_NoneType_bool : kitB "NoneType" "bool" = some false := by decide +kernel
theorem kit_NoneType_dict : kitB "NoneType" "dict" = some false := by decide +kernel
theorem kit_dict_tuple : kitB "dict" "tuple" = some false := by decide +kernel
theorem kit_dict_list : kitB "dict" "list" = some false := by decide +kernel
theorem kit_dict_str : kitB "dict" "str" = some false := by decide +kernel
theorem kit_dict_int : kitB "dict" "int" = some false := by decide +kernel
theorem kit_dict_bool : kitB "dict" "bool" = some false := by decide +kernel
theorem kit_dict_dict : kitB "dict" "dict" = some true := by decide +kernel
end DL

set_option Elab.async false
set_option linter.all false
set_option autoImplicit false
set_option maxRecDepth 100000
set_option maxHeartbeats 1000000
/-! DL, the end: a law's def, a table's facts. -/
namespace DL
open PySem PySem.Spec PyProof.Rows L2
theorem FnOk_noX {P : Program} {w : World} {K : PySem.W.Frag} {mg : Str → Option Value} {base : Heap} {k : Nat} {f : Addr} {fd : FuncData} {ps : List Str} {sp : Sp} (F : FnOk P w K mg base (L2.CX P w) k f fd ps sp) : FnOk P w K mg base CX0 k f fd ps (fun vs H Q _ => sp vs H Q E0) :=
  ⟨fun vs H Q E h => F.len _ _ _ _ h, fun A outer s H args us vs Q E hr e0 hb hv hs => codeAny_mono (F.run A outer s H args us vs Q E0 hr e0 hb hv hs) fun r s' hq => by
    cases r with
    | error e =>
      obtain ⟨_, _, _, _, _, _, _, _, _, _, _, _, z⟩ := hq
      exact z.elim
    | ok fl => cases fl <;> exact hq⟩
theorem CalC.toFn {P : Program} {w : World} {K : PySem.W.Frag} {mg : Str → Option Value} {base : Heap} {k : Nat} {x qual : Str} {params : Arguments} {body : List Stmt} {scope : Scope} {f : Addr} {fd : FuncData} {ps : List Str} {C : Con} (c : CalC P w K mg base k x f C) (F : FunD K x qual params body scope [] [] f fd) (hps : ps = params.args.map (·.arg) := by rfl) :
    FnOk P w K mg base (L2.CX P w) k f fd ps (spC K C) := by
  obtain ⟨fd', ps', G, hm, kp, b, ⟨oc, od, osl, lk⟩, e⟩ := c.ex
  obtain ⟨⟨oc2, od2, osl2, lk2⟩, e2⟩ := FunD_look F
  rw [lk] at lk2
  cases lk2
  rw [e2, ← hps] at e
  subst e
  exact G
/-- the law's promise at a script -/
theorem law_sp {K : PySem.W.Frag} {C : Con} {H : Hp} {a : Addr} {ns : List Int} (hS : SqL K H a (ns.map V.int)) (hC : ∀ (CQ : Sl → List Sl → Prop) (CX : DX), CQ (.v (.bl true)) [.v (.scr ns)] → C [.v (.scr ns)] CQ CX) : spC K C [.ref a] H (fun v _ => v = .bl true) E0 := by
  refine ⟨H, [.v (.scr ns)], fun r _ => r = .v (.bl true), fun _ _ _ => False, ⟨Same.refl _, rfl, fun i sl h n => ?_, fun i j p h _ => ?_⟩, rfl, hC _ _ rfl, fun r args' x Fr' H' q ok g hr => ?_, fun _ _ _ _ _ _ _ z => z.elim⟩
  · cases i with
    | zero => cases h; exact ⟨.ref a, rfl, .scr hS⟩
    | succ i => cases h
  · obtain ⟨sl, h1, h2, _⟩ := h
    cases i with
    | zero => cases h1; cases h2
    | succ i => cases h1
  · subst q
    have hr : Rep K Fr' x (.bl true) := hr
    cases hr
    rfl
theorem tabW {fa : List He.Fa} {fn : List He.DefD} {ts : List He.Tab} {w : World} {K : PySem.W.Frag} (c : He.SaysT fa fn ts w K) (i : Nat) {t : He.Tab} (h : ts[i]? = some t := by rfl) : He.dicW K (t.1 K) = some (He.keysIn w.params t.2) := by
  have e : ts.map (fun t => He.dicW K (t.1 K)) = ts.map fun t => some (He.keysIn w.params t.2) := congrArg (fun z : He.AlT => z.2) c
  have e2 := congrArg (fun l => l[i]?) e
  simp only [List.getElem?_map, h, Option.map_some] at e2
  exact Option.some.inj e2
end DL

set_option Elab.async false
set_option linter.all false
set_option maxRecDepth 100000
set_option maxHeartbeats 0
namespace K54
open PySem PySem.Spec PyProof.Rows L2
def top (i : Nat) : Stmt := PySem.Challenge.pw_waitwords_k54_whole_texts_there_and_back.main.body.getD i (.Pass ⟨0, 0, 0, 0⟩)
abbrev s_WaitError_init : Stmt := inClass (top 1) 0
def d0 : He.DefD := ⟨("WaitError", some "__init__"), "__init__", "WaitError.__init__", defArgs s_WaitError_init, defBody s_WaitError_init, defScope s_WaitError_init, [], []⟩
abbrev s_show_kind : Stmt := top 4
def d1 : He.DefD := ⟨("show_kind", none), "show_kind", "show_kind", defArgs s_show_kind, defBody s_show_kind, defScope s_show_kind, [], []⟩
abbrev s_show_row : Stmt := top 5
def d2 : He.DefD := ⟨("show_row", none), "show_row", "show_row", defArgs s_show_row, defBody s_show_row, defScope s_show_row, [], []⟩
abbrev s_show_reading : Stmt := top 6
def d3 : He.DefD := ⟨("show_reading", none), "show_reading", "show_reading", defArgs s_show_reading, defBody s_show_reading, defScope s_show_reading, [], []⟩
abbrev s_show_tree : Stmt := top 7
def d4 : He.DefD := ⟨("show_tree", none), "show_tree", "show_tree", defArgs s_show_tree, defBody s_show_tree, defScope s_show_tree, [], []⟩
abbrev s_read_name : Stmt := top 12
def d5 : He.DefD := ⟨("read_name", none), "read_name", "read_name", defArgs s_read_name, defBody s_read_name, defScope s_read_name, [], []⟩
abbrev s_kind_at : Stmt := top 13
def d6 : He.DefD := ⟨("kind_at", none), "kind_at", "kind_at", defArgs s_kind_at, defBody s_kind_at, defScope s_kind_at, [], []⟩
abbrev s_pair_at : Stmt := top 14
def d7 : He.DefD := ⟨("pair_at", none), "pair_at", "pair_at", defArgs s_pair_at, defBody s_pair_at, defScope s_pair_at, [], []⟩
abbrev s_give_at : Stmt := top 15
def d8 : He.DefD := ⟨("give_at", none), "give_at", "give_at", defArgs s_give_at, defBody s_give_at, defScope s_give_at, [], []⟩
abbrev s_reading_at : Stmt := top 16
def d9 : He.DefD := ⟨("reading_at", none), "reading_at", "reading_at", defArgs s_reading_at, defBody s_reading_at, defScope s_reading_at, [], []⟩
abbrev s_widths_right : Stmt := top 17
def d10 : He.DefD := ⟨("widths_right", none), "widths_right", "widths_right", defArgs s_widths_right, defBody s_widths_right, defScope s_widths_right, [], []⟩
abbrev s_tree_at : Stmt := top 18
def d11 : He.DefD := ⟨("tree_at", none), "tree_at", "tree_at", defArgs s_tree_at, defBody s_tree_at, defScope s_tree_at, [], []⟩
abbrev s_whole : Stmt := top 19
def d12 : He.DefD := ⟨("whole", none), "whole", "whole", defArgs s_whole, defBody s_whole, defScope s_whole, [], []⟩
abbrev s_row_of : Stmt := top 20
def d13 : He.DefD := ⟨("row_of", none), "row_of", "row_of", defArgs s_row_of, defBody s_row_of, defScope s_row_of, [], []⟩
abbrev s_read_kind : Stmt := top 21
def d14 : He.DefD := ⟨("read_kind", none), "read_kind", "read_kind", defArgs s_read_kind, defBody s_read_kind, defScope s_read_kind, [], []⟩
abbrev s_read_row : Stmt := top 22
def d15 : He.DefD := ⟨("read_row", none), "read_row", "read_row", defArgs s_read_row, defBody s_read_row, defScope s_read_row, [], []⟩
abbrev s_read_reading : Stmt := top 23
def d16 : He.DefD := ⟨("read_reading", none), "read_reading", "read_reading", defArgs s_read_reading, defBody s_read_reading, defScope s_read_reading, [], []⟩
abbrev s_read_tree : Stmt := top 24
def d17 : He.DefD := ⟨("read_tree", none), "read_tree", "read_tree", defArgs s_read_tree, defBody s_read_tree, defScope s_read_tree, [], []⟩
abbrev s__law_well : Stmt := top 26
def d18 : He.DefD := ⟨("_law_well", none), "_law_well", "_law_well", defArgs s__law_well, defBody s__law_well, defScope s__law_well, [], []⟩
abbrev s__law_dip : Stmt := top 27
def d19 : He.DefD := ⟨("_law_dip", none), "_law_dip", "_law_dip", defArgs s__law_dip, defBody s__law_dip, defScope s__law_dip, [], []⟩
abbrev s__law_any_kind : Stmt := top 28
def d20 : He.DefD := ⟨("_law_any_kind", none), "_law_any_kind", "_law_any_kind", defArgs s__law_any_kind, defBody s__law_any_kind, defScope s__law_any_kind, [], []⟩
abbrev s__law_kind_said : Stmt := top 29
def d21 : He.DefD := ⟨("_law_kind_said", none), "_law_kind_said", "_law_kind_said", defArgs s__law_kind_said, defBody s__law_kind_said, defScope s__law_kind_said, [], []⟩
abbrev s__law_row_said : Stmt := top 30
def d22 : He.DefD := ⟨("_law_row_said", none), "_law_row_said", "_law_row_said", defArgs s__law_row_said, defBody s__law_row_said, defScope s__law_row_said, [], []⟩
abbrev s__law_width : Stmt := top 31
def d23 : He.DefD := ⟨("_law_width", none), "_law_width", "_law_width", defArgs s__law_width, defBody s__law_width, defScope s__law_width, [], []⟩
abbrev s__law_reading : Stmt := top 32
def d24 : He.DefD := ⟨("_law_reading", none), "_law_reading", "_law_reading", defArgs s__law_reading, defBody s__law_reading, defScope s__law_reading, [], []⟩
abbrev s__law_reading_said : Stmt := top 33
def d25 : He.DefD := ⟨("_law_reading_said", none), "_law_reading_said", "_law_reading_said", defArgs s__law_reading_said, defBody s__law_reading_said, defScope s__law_reading_said, [], []⟩
abbrev s__law_paper : Stmt := top 34
def d26 : He.DefD := ⟨("_law_paper", none), "_law_paper", "_law_paper", defArgs s__law_paper, defBody s__law_paper, defScope s__law_paper, [], []⟩
abbrev s__law_paper_said : Stmt := top 35
def d27 : He.DefD := ⟨("_law_paper_said", none), "_law_paper_said", "_law_paper_said", defArgs s__law_paper_said, defBody s__law_paper_said, defScope s__law_paper_said, [], []⟩
abbrev s__law_word : Stmt := top 36
def d28 : He.DefD := ⟨("_law_word", none), "_law_word", "_law_word", defArgs s__law_word, defBody s__law_word, defScope s__law_word, [], []⟩
abbrev s__law_tree : Stmt := top 37
def d29 : He.DefD := ⟨("_law_tree", none), "_law_tree", "_law_tree", defArgs s__law_tree, defBody s__law_tree, defScope s__law_tree, [], []⟩
abbrev s__law_tree_said : Stmt := top 38
def d30 : He.DefD := ⟨("_law_tree_said", none), "_law_tree_said", "_law_tree_said", defArgs s__law_tree_said, defBody s__law_tree_said, defScope s__law_tree_said, [], []⟩
abbrev s__law_entries : Stmt := top 39
def d31 : He.DefD := ⟨("_law_entries", none), "_law_entries", "_law_entries", defArgs s__law_entries, defBody s__law_entries, defScope s__law_entries, [], []⟩
abbrev s__law_book_said : Stmt := top 40
def d32 : He.DefD := ⟨("_law_book_said", none), "_law_book_said", "_law_book_said", defArgs s__law_book_said, defBody s__law_book_said, defScope s__law_book_said, [], []⟩
abbrev s__law_same : Stmt := top 41
def d33 : He.DefD := ⟨("_law_same", none), "_law_same", "_law_same", defArgs s__law_same, defBody s__law_same, defScope s__law_same, [], []⟩
abbrev s__law_chain : Stmt := top 42
def d34 : He.DefD := ⟨("_law_chain", none), "_law_chain", "_law_chain", defArgs s__law_chain, defBody s__law_chain, defScope s__law_chain, [], []⟩
abbrev s__law_kinds_right : Stmt := top 43
def d35 : He.DefD := ⟨("_law_kinds_right", none), "_law_kinds_right", "_law_kinds_right", defArgs s__law_kinds_right, defBody s__law_kinds_right, defScope s__law_kinds_right, [], []⟩
abbrev s__law_others_right : Stmt := top 44
def d36 : He.DefD := ⟨("_law_others_right", none), "_law_others_right", "_law_others_right", defArgs s__law_others_right, defBody s__law_others_right, defScope s__law_others_right, [], []⟩
abbrev s_law : Stmt := top 45
def d37 : He.DefD := ⟨("law", none), "law", "law", defArgs s_law, defBody s_law, defScope s_law, [], []⟩
def fn : List He.DefD := [d0, d1, d2, d3, d4, d5, d6, d7, d8, d9, d10, d11, d12, d13, d14, d15, d16, d17, d18, d19, d20, d21, d22, d23, d24, d25, d26, d27, d28, d29, d30, d31, d32, d33, d34, d35, d36, d37]
def fa_0 : List He.Fa := [.glo "WaitError", .glo "Unreadable", .glo "show_kind", .glo "show_row", .glo "show_reading", .glo "show_tree", .str "LETTERS" "abcdefghijklmnopqrstuvwxyz", .int "MOST_LETTERS" 8, .glo "BETWEEN", .glo "read_name", .glo "kind_at", .glo "pair_at", .glo "give_at", .glo "reading_at", .glo "widths_right", .glo "tree_at", .glo "whole", .glo "row_of", .glo "read_kind", .glo "read_row", .glo "read_reading", .glo "read_tree", .glo "_law_well", .glo "_law_dip", .glo "_law_any_kind", .glo "_law_kind_said", .glo "_law_row_said", .glo "_law_width", .glo "_law_reading", .glo "_law_reading_said"]
def fa_1 : List He.Fa := [.glo "_law_paper", .glo "_law_paper_said", .glo "_law_word", .glo "_law_tree", .glo "_law_tree_said", .glo "_law_entries", .glo "_law_book_said", .glo "_law_same", .glo "_law_chain", .glo "_law_kinds_right", .glo "_law_others_right", .glo "law", .free "ValueError", .free "abs", .free "all", .free "any", .free "bool", .free "int", .free "isinstance", .free "len", .free "list", .free "max", .free "min", .free "range", .free "str", .free "tuple", .free "zip"]
def fa : List He.Fa := fa_0 ++ fa_1
def loose_0 : List PySem.Str := ["WaitError", "Unreadable", "show_kind", "show_row", "show_reading", "show_tree", "LETTERS", "MOST_LETTERS", "BETWEEN", "read_name", "kind_at", "pair_at", "give_at", "reading_at", "widths_right", "tree_at", "whole", "row_of", "read_kind", "read_row", "read_reading", "read_tree", "_law_well", "_law_dip", "_law_any_kind", "_law_kind_said", "_law_row_said", "_law_width", "_law_reading", "_law_reading_said"]
def loose_1 : List PySem.Str := ["_law_paper", "_law_paper_said", "_law_word", "_law_tree", "_law_tree_said", "_law_entries", "_law_book_said", "_law_same", "_law_chain", "_law_kinds_right", "_law_others_right"]
def loose : List PySem.Str := loose_0 ++ loose_1
def ts : List He.Tab := [(fun K => He.ga K "BETWEEN", ["/", "\\", "."])]
def ex (K : PySem.W.Frag) : Bool := He.valsB K (He.ga K "BETWEEN") [("/", .str "behind"), ("\\", .str "ahead"), (".", .str "with")]
abbrev R : PySem.W.OpenRow := PySem.W.OpenLaw.row PySem.Challenge.rw_waitwords_k54_whole_texts_there_and_back
abbrev hk : PySem.W.Hook := He.hookX 4 fa fn ts [] ex
def ob (s : PySem.W.SharedT) : He.AlX := He.obsX 4 fa fn ts [] ex (HandSHeadRun.getT s)
theorem ob_eq (s : PySem.W.SharedT) : ob s = hk.obs s.abs := He.obsX_eq (HandSHeadRun.getT_eq s)
abbrev qv : Program := PySem.W.view R.prog [45]
theorem run_f (w : World) : HandSHeadRun.RunEq R qv hk ob 20000 loose (w.withFollow "special-get-raises" false) := by
  intro os
  kernel_rfl
theorem run_t (w : World) : HandSHeadRun.RunEq R qv hk ob 20000 loose (w.withFollow "special-get-raises" true) := by
  intro os
  kernel_rfl
theorem run (w : World) : HandSHeadRun.RunEq R qv hk ob 20000 loose w := PySem.W.byRow2 "special-get-raises" (P := HandSHeadRun.RunEq R qv hk ob 20000 loose) run_f run_t w
end K54

set_option Elab.async false
set_option linter.all false
set_option autoImplicit false
set_option maxRecDepth 100000
set_option maxHeartbeats 1000000
namespace K54
open PySem PySem.Spec PyProof.Rows L2 DL
local macro_rules | `(tactic| walk_at "dl") => `(tactic| simp -dsimp only [↓wSeq, ↓wAsg, ↓wName, ↓wVar, ↓wC, ↓w2, ↓DL.wT, ↓wAnd, ↓wOr, ↓DL.wNot, ↓wAndV, ↓wOrV, ↓wNotV, ↓wIf, ↓fI, ↓fI0, ↓fB0, ↓scD, ↓fEqS, ↓fNeS, ↓fAddS, ↓fInC, ↓fNiC, ↓D.fv, ↓D.fvs, ↓seqD, ↓fInV, ↓D.isN, ↓fIsN, ↓fNotN, ↓wNilL, ↓wConsL, ↓wStarL, ↓wTup, ↓wLst, ↓fIx, ↓Sl.d, ↓wPeek, ↓wNoP, ↓wPart, ↓wSl, ↓fSlS, ↓fSlL, ↓fSlT, ↓wCat, ↓wCB, ↓wCN, ↓fLen, ↓fInt, ↓fAbs, ↓fMax2, ↓fMin2, ↓fStrI, ↓fList, ↓D.tyn, ↓fIsi, ↓wiLst, ↓wiTup, ↓wiStr, ↓wiRng1, ↓wiRng2, ↓wiEnu, ↓wiZip, ↓free, ↓nb_un, ↓nb_v, ↓nb_o, ↓wGTup, ↓wGNil, ↓wGCons, ↓wipeR, ↓DL.rest, ↓noOwn, ↓wTurn, ↓wLc, ↓wYes, ↓wNext, ↓wNever, ↓wDrop, ↓wRet, ↓wRetO, ↓wRetN, ↓wGive, ↓wSetO, ↓wAugI, ↓wPar, ↓known, ↓wSetIx, ↓wIfS, ↓wStep, ↓wFor, ↓dEnds, ↓merge, ↓wANil, ↓wAV, ↓wAL, ↓arS, ↓argS, ↓hasL, ↓ndL, ↓Sl.up, ↓putB, ↓wCall, ↓wCallO, ↓wCallV, ↓keyD, ↓fDGet, ↓fAny, ↓fAll, ↓wDct, ↓fKdIx, ↓fKdIn, ↓wJoin, ↓wSplit, ↓isL, ↓wAppend, ↓atI_lit, ↓ixN_lit, List.getElem?_cons_zero, List.getElem?_cons_succ, List.getElem?_nil, List.set_cons_zero, List.set_cons_succ, List.cons_append, List.nil_append, List.length_cons, List.length_nil, List.replicate_succ, List.replicate_zero, List.all_cons, List.all_nil, List.getD_cons_zero, List.getD_cons_succ, Option.some.injEq, Sl.v.injEq, D.fn.injEq, Option.bind_some, Option.isSome_some, Option.isSome_none, Option.map_none, Option.map_some, ne_eq, not_false_eq_true, reduceCtorEq, and_self, true_and, and_true, exists_eq_left', exists_eq_left, exists_eq_right, Bool.and_true, Bool.true_and, Bool.not_false, Bool.not_true, if_true, if_false, decide_eq_true_eq, Bool.false_eq_true, Nat.reduceAdd, Nat.reduceSub, Nat.reduceLeDiff, Nat.reduceLT, Int.reduceToNat, Int.toNat_natCast, decide_true, decide_false, kit_tuple_tuple, kit_tuple_list, kit_tuple_str, kit_tuple_int, kit_tuple_bool, kit_list_tuple, kit_list_list, kit_list_str, kit_list_int, kit_list_bool, kit_str_tuple, kit_str_list, kit_str_str, kit_str_int, kit_str_bool, kit_int_tuple, kit_int_list, kit_int_str, kit_int_int, kit_int_bool, kit_bool_tuple, kit_bool_list, kit_bool_str, kit_bool_int, kit_bool_bool, l40, l41, l42, l91, l93, l97, l98, lgt, llt, lco, lb9, la9, l0, SX.S_cat, SX.S_len, S_eq_iff, List.map_cons, List.map_nil, List.length_map, lenD_lst, lenD_tup, lenD_scr, List.set, ixD_lst, ixD_tup, ixD_scr])
section
variable {P : Program} {w : World} {K : PySem.W.Frag} {mg : Str → Option Value} {base : Heap}

theorem sc__law_well : FnScope ["_law_script", "_law_place", "_law_cell"] ["_law_script", "_law_place"] (defScope s__law_well) := ⟨rfl, rfl, rfl, by decide +kernel, rfl, by decide +kernel, by decide +kernel⟩
theorem sc__law_dip : FnScope ["_law_well_here", "_law_many", "_law_drawn", "_law_mixed"] ["_law_well_here", "_law_many"] (defScope s__law_dip) := ⟨rfl, rfl, rfl, by decide +kernel, rfl, by decide +kernel, by decide +kernel⟩
def Good (N : Nat) (d : D) : Prop := ∃ a b c : Int, d = .lst [.int a, .int b, .int c] ∧ 0 ≤ c ∧ c ≤ N ∧ 0 ≤ b ∧ b < 10 ^ 25
theorem Good.mono {N M : Nat} {d : D} (h : Good N d) (l : N ≤ M) : Good M d := by
  obtain ⟨a, b, c, e, h0, h1, h2, h3⟩ := h
  exact ⟨a, b, c, e, h0, by omega, h2, h3⟩
def conDip : Con := fun args CQ _ => ∃ (N : Nat) (d : D) (m : Int), args = [.b d, .v (.int m)] ∧ Good N d ∧ N < 10 ^ 12 ∧ 0 < m ∧ m < 10 ^ 6 ∧ ∀ d' r, Good (N + 1) d' → 0 ≤ r → r < m → CQ (.v (.int r)) [.b d', .v (.int m)]
theorem b__law_dip {f : Addr} {fd : FuncData} (F : FunD K "_law_dip" "_law_dip" (defArgs s__law_dip) (defBody s__law_dip) (defScope s__law_dip) [] [] f fd) (hm : mg "_law_dip" = some (.ref f)) (m_int : mg "int" = none) : CalC P w K mg base 1 "_law_dip" f conDip := by
  refine calD F hm sc__law_dip (fun args CQ CX h => ?_) (fun _ _ _ _ _ _ us hl => match us, hl with | [_, _], _ => rfl) (fun cdv A outer s H E hr => ⟨_, _, (svs_cons (sv_if (et_gt (ev_ixK 0 ev_int) ev_int)
      (svs_cons (sv_set 2 sc__law_dip.nd (ev_mod (ev_int1 m_int (ev_ixK 0 ev_int)) (ev 1)))
      (svs_cons (sv_setIx 0 (ev_fdiv (ev_ixK 0 ev_int) (ev 1)) ev_int)
      (svs_one (sv_ret (ev 2))))) svs_nil)
      (svs_cons (sv_setIx 0 (ev_add (ev_ixK 0 ev_int) ev_int) ev_int)
      (svs_cons (sv_set 3 sc__law_dip.nd (ev_mod (ev_pow (ev_int1 m_int (ev_add (ev_ixK 0 ev_int) (ev_mul ev_int (ev_ixK 0 ev_int)))) ev_int) (ev_add (ev_pow ev_int ev_int) ev_int)))
      (svs_cons (sv_set 3 sc__law_dip.nd (ev_mod (ev_pow (ev_int1 m_int (ev_add (ev 3) (ev_mul ev_int (ev_ixK 0 ev_int)))) ev_int) (ev_add (ev_pow ev_int ev_int) ev_int)))
      (svs_one (sv_ret (ev_mod (ev_int1 m_int (ev_fdiv (ev 3) ev_int)) (ev 1)))))))), fun args CQ CX h => ?_⟩)
  · obtain ⟨N, d, m, rfl, _⟩ := h; rfl
  · obtain ⟨N, d, m, rfl, ⟨a, b, c, rfl, hc0, hcN, hb0, hb1⟩, hN, hm0, hm1, hQ⟩ := h
    walk_at "dl"
    split
    · refine ⟨hm0, div_ok hm0 (by omega), hQ _ _ ⟨a / m, b, c, rfl, hc0, by omega, hb0, hb1⟩ (Int.emod_nonneg _ (by omega)) (Int.emod_lt_of_pos _ hm0)⟩
    · have e1 : (0 : Int) < 10 ^ 25 + 13 := by decide
      have e2 : (0 : Int) < 10 ^ 24 + 7 := by decide
      have h3 := Int.emod_nonneg ((b + 1000003 * (c + 1)) ^ 3) (show (10 ^ 25 + 13 : Int) ≠ 0 by omega)
      have h4 := Int.emod_lt_of_pos ((b + 1000003 * (c + 1)) ^ 3) e1
      refine ⟨mul_l (by decide), pow_ok (b := 100) (by decide) (by omega) (by decide), pow_ok (b := 4) (by decide) (by decide) (by decide), e1, mul_l (by decide), pow_ok (b := 100) (by decide) (by omega) (by decide), pow_ok (b := 4) (by decide) (by decide) (by decide), e2, div_ok (by decide) (by decide), hm0,
        hQ _ _ ⟨a, b, c + 1, rfl, by omega, by omega, hb0, hb1⟩ (Int.emod_nonneg _ (by omega)) (Int.emod_lt_of_pos _ hm0)⟩
def conWell : Con := fun args CQ _ => ∃ (ns : List Int) (p : Nat), args = [.v (.scr ns), .v (.int p)] ∧ p < 64 ∧ ∀ d, Good 0 d → CQ (.o d) [.v (.scr ns), .v (.int p)]
theorem b__law_well {f : Addr} {fd : FuncData} (F : FunD K "_law_well" "_law_well" (defArgs s__law_well) (defBody s__law_well) (defScope s__law_well) [] [] f fd) (hm : mg "_law_well" = some (.ref f)) (m_int : mg "int" = none) (m_len : mg "len" = none) (m_abs : mg "abs" = none) (m_max : mg "max" = none) : CalC P w K mg base 1 "_law_well" f conWell := by
  refine calD F hm sc__law_well (fun args CQ CX h => ?_) (fun _ _ _ _ _ _ us hl => match us, hl with | [_, _], _ => rfl) (fun cdv A outer s H E hr => ⟨_, _, (svs_cons (sv_set 2 sc__law_well.nd (ev_if (et_lt (ev 1) (ev_len m_len (ev 0))) (ev_ix (ev 0) (ev 1)) (ev_add (ev_mul (ev 1) ev_int) (ev_mul (ev_len m_len (ev 0)) ev_int))))
      (svs_one (sv_retO (eo_lst (el_cons (ev_max2 rfl m_max ev_int (ev_sub (ev_abs m_abs (ev 2)) (ev_pow ev_int ev_int))) (el_cons (ev_mod (ev_int1 m_int (ev_add (ev_add (ev_mul (ev 2) ev_int) (ev_mul (ev 1) ev_int)) ev_int)) (ev_add (ev_pow ev_int ev_int) ev_int)) (el_cons ev_int el_nil))))))), fun args CQ CX h => ?_⟩)
  · obtain ⟨ns, p, rfl, _⟩ := h; rfl
  · obtain ⟨ns, p, rfl, hp, hQ⟩ := h
    walk_at "dl"
    have fin : ∀ cell : Int, CPowW 10 18 ∧ IntMulOk cell 48611 ∧ IntMulOk (p : Int) 6700417 ∧ CPowW 10 24 ∧ (0 : Int) < 10 ^ 24 + 7 ∧
        CQ (.o (.lst [.int (if (if cell < 0 then -cell else cell) - 10 ^ 18 > 0 then (if cell < 0 then -cell else cell) - 10 ^ 18 else 0), .int ((cell * 48611 + p * 6700417 + 31337) % (10 ^ 24 + 7)), .int 0])) [.v (.scr ns), .v (.int p)] := fun cell => by
      have e2 : (0 : Int) < 10 ^ 24 + 7 := by decide
      have h3 := Int.emod_nonneg (cell * 48611 + p * 6700417 + 31337) (show (10 ^ 24 + 7 : Int) ≠ 0 by omega)
      have h4 := Int.emod_lt_of_pos (cell * 48611 + p * 6700417 + 31337) e2
      exact ⟨pow_ok (b := 4) (by decide) (by decide) (by decide), mul_r (by decide), mul_r (by decide), pow_ok (b := 4) (by decide) (by decide) (by decide), e2, hQ _ ⟨_, _, 0, rfl, by decide, by decide, h3, by omega⟩⟩
    split
    · rename_i hlt
      have hl : p < ns.length := by omega
      exact ⟨.int ns[p], by rw [atI_n, List.getElem?_eq_getElem hl]; rfl, fin _⟩
    · exact ⟨mul_r (by decide), mul_r (by decide), fin _⟩
end
end K54

set_option Elab.async false
set_option linter.all false
set_option autoImplicit false
set_option maxRecDepth 100000
set_option maxHeartbeats 1000000
namespace K54
open PySem PySem.Spec PyProof.Rows L2 DL
local macro_rules | `(tactic| walk_at "dl") => `(tactic| simp -dsimp only [↓wSeq, ↓wAsg, ↓wName, ↓wVar, ↓wC, ↓w2, ↓DL.wT, ↓wAnd, ↓wOr, ↓DL.wNot, ↓wAndV, ↓wOrV, ↓wNotV, ↓wIf, ↓fI, ↓fI0, ↓fB0, ↓scD, ↓fEqS, ↓fNeS, ↓fAddS, ↓fInC, ↓fNiC, ↓D.fv, ↓D.fvs, ↓seqD, ↓fInV, ↓D.isN, ↓fIsN, ↓fNotN, ↓wNilL, ↓wConsL, ↓wStarL, ↓wTup, ↓wLst, ↓fIx, ↓Sl.d, ↓wPeek, ↓wNoP, ↓wPart, ↓wSl, ↓fSlS, ↓fSlL, ↓fSlT, ↓wCat, ↓wCB, ↓wCN, ↓fLen, ↓fInt, ↓fAbs, ↓fMax2, ↓fMin2, ↓fStrI, ↓fList, ↓D.tyn, ↓fIsi, ↓wiLst, ↓wiTup, ↓wiStr, ↓wiRng1, ↓wiRng2, ↓wiEnu, ↓wiZip, ↓free, ↓nb_un, ↓nb_v, ↓nb_o, ↓wGTup, ↓wGNil, ↓wGCons, ↓wipeR, ↓DL.rest, ↓noOwn, ↓wTurn, ↓wLc, ↓wYes, ↓wNext, ↓wNever, ↓wDrop, ↓wRet, ↓wRetO, ↓wRetN, ↓wGive, ↓wSetO, ↓wAugI, ↓wPar, ↓known, ↓wSetIx, ↓wIfS, ↓wStep, ↓wFor, ↓dEnds, ↓merge, ↓wANil, ↓wAV, ↓wAL, ↓arS, ↓argS, ↓hasL, ↓ndL, ↓Sl.up, ↓putB, ↓wCall, ↓wCallO, ↓wCallV, ↓keyD, ↓fDGet, ↓fAny, ↓fAll, ↓wDct, ↓fKdIx, ↓fKdIn, ↓wJoin, ↓wSplit, ↓isL, ↓wAppend, ↓atI_lit, ↓ixN_lit, List.getElem?_cons_zero, List.getElem?_cons_succ, List.getElem?_nil, List.set_cons_zero, List.set_cons_succ, List.cons_append, List.nil_append, List.length_cons, List.length_nil, List.replicate_succ, List.replicate_zero, List.all_cons, List.all_nil, List.getD_cons_zero, List.getD_cons_succ, Option.some.injEq, Sl.v.injEq, D.fn.injEq, Option.bind_some, Option.isSome_some, Option.isSome_none, Option.map_none, Option.map_some, ne_eq, not_false_eq_true, reduceCtorEq, and_self, true_and, and_true, exists_eq_left', exists_eq_left, exists_eq_right, Bool.and_true, Bool.true_and, Bool.not_false, Bool.not_true, if_true, if_false, decide_eq_true_eq, Bool.false_eq_true, Nat.reduceAdd, Nat.reduceSub, Nat.reduceLeDiff, Nat.reduceLT, Int.reduceToNat, Int.toNat_natCast, decide_true, decide_false, kit_tuple_tuple, kit_tuple_list, kit_tuple_str, kit_tuple_int, kit_tuple_bool, kit_list_tuple, kit_list_list, kit_list_str, kit_list_int, kit_list_bool, kit_str_tuple, kit_str_list, kit_str_str, kit_str_int, kit_str_bool, kit_int_tuple, kit_int_list, kit_int_str, kit_int_int, kit_int_bool, kit_bool_tuple, kit_bool_list, kit_bool_str, kit_bool_int, kit_bool_bool, l40, l41, l42, l91, l93, l97, l98, lgt, llt, lco, lb9, la9, l0, SX.S_cat, SX.S_len, S_eq_iff, List.map_cons, List.map_nil, List.length_map, lenD_lst, lenD_tup, lenD_scr, List.set, ixD_lst, ixD_tup, ixD_scr])
section
variable {P : Program} {w : World} {K : PySem.W.Frag} {mg : Str → Option Value} {base : Heap}

theorem sc__law_any_kind : FnScope ["_law_well_here", "_law_most", "_law_cut", "_law_form"] ["_law_well_here", "_law_most"] (defScope s__law_any_kind) := ⟨rfl, rfl, rfl, by decide +kernel, rfl, by decide +kernel, by decide +kernel⟩
theorem sc__law_kind_said : FnScope ["_law_kind"] ["_law_kind"] (defScope s__law_kind_said) := ⟨rfl, rfl, rfl, by decide +kernel, rfl, by decide +kernel, by decide +kernel⟩
theorem sc_show_kind : FnScope ["kind", "between"] ["kind"] (defScope s_show_kind) := ⟨rfl, rfl, rfl, by decide +kernel, rfl, by decide +kernel, by decide +kernel⟩
theorem sc__law_row_said : FnScope ["_law_line", "_law_kind"] ["_law_line"] (defScope s__law_row_said) := ⟨rfl, rfl, rfl, by decide +kernel, rfl, by decide +kernel, by decide +kernel⟩
theorem sc_show_row : FnScope ["row", "kind"] ["row"] (defScope s_show_row) := ⟨rfl, rfl, rfl, by decide +kernel, rfl, by decide +kernel, by decide +kernel⟩
theorem sc__law_chain : FnScope ["_law_well_here", "_law_kind", "_law_turn", "_law_leaf", "_law_form"] ["_law_well_here"] (defScope s__law_chain) := ⟨rfl, rfl, rfl, by decide +kernel, rfl, by decide +kernel, by decide +kernel⟩
inductive F3 where | beh | ahe | wit
def F3.name : F3 → Str
  | .beh => "behind" | .ahe => "ahead" | .wit => "with"
def F3.sgn : F3 → Nat
  | .beh => 47 | .ahe => 92 | .wit => 46
inductive Kd where
  | p (c : Fin 26)
  | n (f : F3) (a b : Kd)
def Kd.D : Kd → D
  | .p c => .tup [.str "plain", .str (S [97 + c.val])]
  | .n f a b => .tup [.str f.name, a.D, b.D]
def Kd.s : Kd → List Nat
  | .p c => [97 + c.val]
  | .n f a b => 40 :: (a.s ++ (f.sgn :: (b.s ++ [41])))
def Kd.size : Kd → Nat
  | .p _ => 1
  | .n _ a b => a.size + b.size
def Kd.dep : Kd → Nat
  | .p _ => 0
  | .n _ a b => max a.dep b.dep + 1
theorem Kd.size_pos : ∀ k : Kd, 1 ≤ k.size
  | .p _ => Nat.le_refl _
  | .n _ a b => Nat.le_trans a.size_pos (Nat.le_add_right _ _)
theorem Kd.dep_lt : ∀ k : Kd, k.dep < k.size
  | .p _ => Nat.lt_succ_self 0
  | .n _ a b => by
    have h1 := a.dep_lt; have h2 := b.dep_lt; have h3 := a.size_pos; have h4 := b.size_pos
    show max a.dep b.dep + 1 < a.size + b.size
    omega
theorem Kd.s_len : ∀ k : Kd, k.s.length + 3 = 4 * k.size
  | .p _ => rfl
  | .n _ a b => by
    have h1 := a.s_len; have h2 := b.s_len
    show (40 :: (a.s ++ (_ :: (b.s ++ [41])))).length + 3 = 4 * (a.size + b.size)
    simp only [List.length_cons, List.length_append, List.length_nil]
    omega
def f3 (r : Int) : F3 := if r = 0 then .beh else if r = 1 then .ahe else .wit
theorem f3_at {r : Int} (h0 : 0 ≤ r) (h1 : r < 3) : atI [D.str "behind", D.str "ahead", D.str "with"] r = some (.str (f3 r).name) := by
  have : r = 0 ∨ r = 1 ∨ r = 2 := by omega
  rcases this with rfl | rfl | rfl <;> rfl
def conAny (n : Nat) : Con := fun args CQ _ => ∃ (N : Nat) (d : D) (m : Nat), args = [.b d, .v (.int m)] ∧ Good N d ∧ N + 8 * m ≤ 10 ^ 11 ∧ 1 ≤ m ∧ m ≤ n ∧ n ≤ 1000 ∧ ∀ d' (k : Kd), Good (N + (8 * m - 4)) d' → k.size ≤ m → CQ (.v k.D) [.b d', .v (.int m)]
theorem b__law_any_kind {f fD : Addr} {fd : FuncData} (F : FunD K "_law_any_kind" "_law_any_kind" (defArgs s__law_any_kind) (defBody s__law_any_kind) (defScope s__law_any_kind) [] [] f fd) (hm : mg "_law_any_kind" = some (.ref f)) (c__law_dip : CalC P w K mg base 1 "_law_dip" fD conDip) : ∀ n : Nat, CalC P w K mg base (n + 2) "_law_any_kind" f (conAny n)
  | 0 => calVac (ps := ["_law_well_here", "_law_most"]) F hm (fun _ _ _ _ _ _ us hl => match us, hl with | [_, _], _ => rfl) fun args CQ CX h => by
    obtain ⟨N, d, m, _, _, _, h1, h2, _⟩ := h
    omega
  | n + 1 => by
    have c__law_any_kind := b__law_any_kind F hm c__law_dip n
    refine calD F hm sc__law_any_kind (fun args CQ CX h => ?_) (fun _ _ _ _ _ _ us hl => match us, hl with | [_, _], _ => rfl) (fun cdv A outer s H E hr => ⟨_, _, (svs_cons (sv_if (ew_or (et_lt (ev 1) ev_int) (ew_or1 (et_eqS (ev_call c__law_dip hr (by omega) (by rfl) passC (ea_l 0 (ea_v ev_int ea_nil))) ev_int))).et
      (svs_one (sv_ret (ev_tup (el_cons ev_str (el_cons (ev_ix ev_str (ev_call c__law_dip hr (by omega) (by rfl) passC (ea_l 0 (ea_v ev_int ea_nil)))) el_nil))))) svs_nil)
      (svs_cons (sv_set 2 sc__law_any_kind.nd (ev_add ev_int (ev_call c__law_dip hr (by omega) (by rfl) passC (ea_l 0 (ea_v (ev_sub (ev 1) ev_int) ea_nil)))))
      (svs_cons (sv_set 3 sc__law_any_kind.nd (ev_ix (EO.ev (eo_lst (el_cons ev_str (el_cons ev_str (el_cons ev_str el_nil))))) (ev_call c__law_dip hr (by omega) (by rfl) passC (ea_l 0 (ea_v ev_int ea_nil)))))
      (svs_one (sv_ret (ev_tup (el_cons (ev 3) (el_cons (ev_call c__law_any_kind hr (by omega) (by rfl) passC (ea_l 0 (ea_v (ev 2) ea_nil))) (el_cons (ev_call c__law_any_kind hr (by omega) (by rfl) passC (ea_l 0 (ea_v (ev_sub (ev 1) (ev 2)) ea_nil))) el_nil))))))))), fun args CQ CX h => ?_⟩)
    · obtain ⟨N, d, m, rfl, _⟩ := h; rfl
    · obtain ⟨N, d, m, rfl, hG, hN, hm1, hmn, hn, hQ⟩ := h
      walk_at "dl"
      split
      · refine ⟨N, d, 26, rfl, hG, by omega, by decide, by decide, fun d' r hG' h0 h1 => ?_⟩
        walk_at "dl"
        rw [abc_at h0 h1]
        exact ⟨_, rfl, hQ d' (.p ⟨r.toNat, by omega⟩) (hG'.mono (by omega)) (by show 1 ≤ m; omega)⟩
      · refine ⟨N, d, 4, rfl, hG, by omega, by decide, by decide, fun d1 r1 hG1 h10 h11 => ?_⟩
        walk_at "dl"
        split
        · refine ⟨N + 1, d1, 26, rfl, hG1, by omega, by decide, by decide, fun d' r hG' h0 h1 => ?_⟩
          walk_at "dl"
          rw [abc_at h0 h1]
          exact ⟨_, rfl, hQ d' (.p ⟨r.toNat, by omega⟩) (hG'.mono (by omega)) (by show 1 ≤ m; omega)⟩
        · refine ⟨N + 1, d1, (m : Int) - 1, rfl, hG1, by omega, by omega, by omega, fun d2 r2 hG2 h20 h21 => ?_⟩
          walk_at "dl"
          refine ⟨N + 1 + 1, d2, 3, rfl, hG2, by omega, by decide, by decide, fun d3 r3 hG3 h30 h31 => ?_⟩
          walk_at "dl"
          rw [f3_at h30 h31]
          refine ⟨_, rfl, ?_⟩
          try walk_at "dl"
          refine ⟨N + 1 + 1 + 1, d3, (1 + r2).toNat, ?_, hG3, by omega, by omega, by omega, by omega, fun d4 k4 hG4 h4 => ?_⟩
          · rw [Int.toNat_of_nonneg (by omega)]
          walk_at "dl"
          refine ⟨_, d4, ((m : Int) - (1 + r2)).toNat, ?_, hG4, by omega, by omega, by omega, by omega, fun d5 k5 hG5 h5 => ?_⟩
          · rw [Int.toNat_of_nonneg (by omega)]
          walk_at "dl"
          exact hQ d5 (.n (f3 r3) k4 k5) (hG5.mono (by omega)) (by show k4.size + k5.size ≤ m; omega)
def conSaid (n : Nat) : Con := fun args CQ _ => ∃ k : Kd, args = [.v k.D] ∧ k.dep ≤ n ∧ k.size ≤ 1000 ∧ CQ (.v (.str (S k.s))) [.v k.D]
theorem f3_plain (f : F3) : ¬ f.name = Str.ofString "plain" := by cases f <;> decide
theorem f3_look (f : F3) : lookD [Sum.inr (Str.ofString "behind"), Sum.inr (Str.ofString "ahead"), Sum.inr (Str.ofString "with")] [D.str (Str.ofString "/"), D.str (Str.ofString "\\"), D.str (Str.ofString ".")] (Sum.inr f.name) = some (.str (S [f.sgn])) := by cases f <;> rfl
theorem Kd.s_le {k : Kd} (h : k.size ≤ 1000) : k.s.length ≤ 4000 := by have := k.s_len; omega
theorem Kd.s_n (f : F3) (a b : Kd) : (Kd.n f a b).s = [40] ++ a.s ++ [f.sgn] ++ b.s ++ [41] := by simp [Kd.s]
theorem b__law_kind_said {f : Addr} {fd : FuncData} (F : FunD K "_law_kind_said" "_law_kind_said" (defArgs s__law_kind_said) (defBody s__law_kind_said) (defScope s__law_kind_said) [] [] f fd) (hm : mg "_law_kind_said" = some (.ref f)) : ∀ n : Nat, CalC P w K mg base (n + 1) "_law_kind_said" f (conSaid n) := by
  refine calRec (c := 0) (calVac (ps := ["_law_kind"]) F hm (fun _ _ _ _ _ _ us hl => match us, hl with | [_], _ => rfl) fun args CQ CX h => h) fun n c__law_kind_said => ?_
  refine calD F hm sc__law_kind_said (fun args CQ CX h => ?_) (fun _ _ _ _ _ _ us hl => match us, hl with | [_], _ => rfl) (fun cdv A outer s H E hr => ⟨_, _, (svs_cons (sv_if (et_eqS (ev_ix (ev 0) ev_int) ev_str)
      (svs_one (sv_ret (ev_ix (ev 0) ev_int))) svs_nil)
      (svs_one (sv_ret (ev_addS (ev_addS (ev_addS (ev_addS ev_str (ev_call c__law_kind_said hr (by omega) (by rfl) passC (ea_v (ev_ix (ev 0) ev_int) ea_nil))) (ev_dget (hu_of hr) (EO.ev (eo_dct (eps_str ev_str (eps_str ev_str (eps_str ev_str eps_nil))) (by decide) (by decide))) (ev_ix (ev 0) ev_int))) (ev_call c__law_kind_said hr (by omega) (by rfl) passC (ea_v (ev_ix (ev 0) ev_int) ea_nil))) ev_str)))), fun args CQ CX h => ?_⟩)
  · obtain ⟨k, rfl, _⟩ := h; rfl
  · obtain ⟨k, rfl, hd, hs, hQ⟩ := h
    cases k with
    | p c =>
      unfold Kd.D at *
      walk_at "dl"
      exact hQ
    | n f a b =>
      cases n with
      | zero => exact absurd hd (Nat.not_succ_le_zero _)
      | succ n =>
        have hd : max a.dep b.dep + 1 ≤ n + 1 := hd
        have hs : a.size + b.size ≤ 1000 := hs
        have la := Kd.s_le (k := a) (by omega)
        have lb := Kd.s_le (k := b) (by omega)
        unfold Kd.D at *
        walk_at "dl"
        rw [if_neg (f3_plain f)]
        refine ⟨a, rfl, by omega, by omega, ?_⟩
        walk_at "dl"
        refine ⟨line_of (by (try simp only [List.length_append, List.length_cons, List.length_nil]); omega), _, _, rfl, f3_look f, ?_⟩
        walk_at "dl"
        refine ⟨line_of (by (try simp only [List.length_append, List.length_cons, List.length_nil]); omega), b, rfl, by omega, by omega, ?_⟩
        walk_at "dl"
        rw [Kd.s_n] at hQ
        exact ⟨line_of (by (try simp only [List.length_append, List.length_cons, List.length_nil]); omega), line_of (by (try simp only [List.length_append, List.length_cons, List.length_nil]); omega), hQ⟩
theorem b_show_kind {f : Addr} {fd : FuncData} (F : FunD K "show_kind" "show_kind" (defArgs s_show_kind) (defBody s_show_kind) (defScope s_show_kind) [] [] f fd) (hm : mg "show_kind" = some (.ref f)) : ∀ n : Nat, CalC P w K mg base (n + 1) "show_kind" f (conSaid n) := by
  refine calRec (c := 0) (calVac (ps := ["kind"]) F hm (fun _ _ _ _ _ _ us hl => match us, hl with | [_], _ => rfl) fun args CQ CX h => h) fun n c_show_kind => ?_
  refine calD F hm sc_show_kind (fun args CQ CX h => ?_) (fun _ _ _ _ _ _ us hl => match us, hl with | [_], _ => rfl) (fun cdv A outer s H E hr => ⟨_, _, (svs_cons (sv_if (et_eqS (ev_ix (ev 0) ev_int) ev_str)
      (svs_one (sv_ret (ev_ix (ev 0) ev_int))) svs_nil)
      (svs_cons (sv_set 1 sc_show_kind.nd (ev_dget (hu_of hr) (EO.ev (eo_dct (eps_str ev_str (eps_str ev_str (eps_str ev_str eps_nil))) (by decide) (by decide))) (ev_ix (ev 0) ev_int)))
      (svs_one (sv_ret (ev_addS (ev_addS (ev_addS (ev_addS ev_str (ev_call c_show_kind hr (by omega) (by rfl) passC (ea_v (ev_ix (ev 0) ev_int) ea_nil))) (ev 1)) (ev_call c_show_kind hr (by omega) (by rfl) passC (ea_v (ev_ix (ev 0) ev_int) ea_nil))) ev_str))))), fun args CQ CX h => ?_⟩)
  · obtain ⟨k, rfl, _⟩ := h; rfl
  · obtain ⟨k, rfl, hd, hs, hQ⟩ := h
    cases k with
    | p c =>
      unfold Kd.D at *
      walk_at "dl"
      exact hQ
    | n f a b =>
      cases n with
      | zero => exact absurd hd (Nat.not_succ_le_zero _)
      | succ n =>
        have hd : max a.dep b.dep + 1 ≤ n + 1 := hd
        have hs : a.size + b.size ≤ 1000 := hs
        have la := Kd.s_le (k := a) (by omega)
        have lb := Kd.s_le (k := b) (by omega)
        unfold Kd.D at *
        walk_at "dl"
        rw [if_neg (f3_plain f)]
        refine ⟨_, _, rfl, f3_look f, ?_⟩
        try walk_at "dl"
        refine ⟨a, rfl, by omega, by omega, ?_⟩
        walk_at "dl"
        refine ⟨line_of (by (try simp only [List.length_append, List.length_cons, List.length_nil]); omega), line_of (by (try simp only [List.length_append, List.length_cons, List.length_nil]); omega), b, rfl, by omega, by omega, ?_⟩
        walk_at "dl"
        rw [Kd.s_n] at hQ
        exact ⟨line_of (by (try simp only [List.length_append, List.length_cons, List.length_nil]); omega), line_of (by (try simp only [List.length_append, List.length_cons, List.length_nil]); omega), hQ⟩
def rowS (ks : List Kd) : List Nat := TL.joinL [32, 44, 32] (ks.map Kd.s)
def conRow (n : Nat) : Con := fun args CQ _ => ∃ ks : List Kd, args = [.v (.lst (ks.map Kd.D))] ∧ (∀ k ∈ ks, k.dep ≤ n ∧ k.size ≤ 1000) ∧ ks.length ≤ 100 ∧ CQ (.v (.str (S (rowS ks)))) [.v (.lst (ks.map Kd.D))]
theorem row_bound : ∀ {ks : List Kd}, (∀ k ∈ ks, k.size ≤ 1000) → ((ks.map fun k => S k.s).map (·.length)).sum ≤ 4000 * ks.length
  | [], _ => Nat.le_refl _
  | k :: ks, h => by
    have h1 := Kd.s_le (h k List.mem_cons_self)
    have h2 := row_bound (ks := ks) fun k hk => h k (List.mem_cons_of_mem _ hk)
    rw [List.map_cons, List.map_cons, List.sum_cons, List.length_cons, SX.S_len]
    omega
theorem b__law_row_said {f fS : Addr} {fd : FuncData} (n : Nat) (F : FunD K "_law_row_said" "_law_row_said" (defArgs s__law_row_said) (defBody s__law_row_said) (defScope s__law_row_said) [] [] f fd) (hm : mg "_law_row_said" = some (.ref f)) (c__law_kind_said : CalC P w K mg base (n + 1) "_law_kind_said" fS (conSaid n)) : CalC P w K mg base (n + 2) "_law_row_said" f (conRow n) := by
  refine calD F hm sc__law_row_said (fun args CQ CX h => ?_) (fun _ _ _ _ _ _ us hl => match us, hl with | [_], _ => rfl) (fun cdv A outer s H E hr => ⟨_, _, (svs_one (sv_ret (ev_join ev_str (EO.ev (eo_lc rfl sc__law_row_said.nd (own := [("_law_kind", 1)]) (ei_lst (ev 0)) (by kernel_rfl) (by decide) (fun _ _ _ _ _ => (eg_name 1 sc__law_row_said.nd)) (fun _ _ _ _ _ => ets_nil) (fun _ _ _ _ _ => (ev_call (K := K) c__law_kind_said hr (by omega) (by rfl) passL (ea_v (ev 1) ea_nil)))))))), fun args CQ CX h => ?_⟩)
  · obtain ⟨k, rfl, _⟩ := h; rfl
  · obtain ⟨ks, rfl, hk, hl, hQ⟩ := h
    walk_at "dl"
    have hk2 : ∀ k ∈ ks, k.size ≤ 1000 := fun k h => (hk k h).2
    have hb := row_bound hk2
    refine ⟨by omega, items_map (fun k => .str (S k.s)) (fun k K' hk' hK => ?_) ?_⟩
    · walk_at "dl"
      refine ⟨k, rfl, (hk k hk').1, (hk k hk').2, ?_⟩
      walk_at "dl"
      exact hK
    · walk_at "dl"
      refine ⟨_, _, rfl, strsD_of (fun k => S (Kd.s k)) ks, by rw [List.length_map]; (try simp only [List.length_cons, List.length_nil]); omega, ?_⟩
      rw [join_of]
      exact hQ
theorem b_show_row {f fS : Addr} {fd : FuncData} (n : Nat) (F : FunD K "show_row" "show_row" (defArgs s_show_row) (defBody s_show_row) (defScope s_show_row) [] [] f fd) (hm : mg "show_row" = some (.ref f)) (c_show_kind : CalC P w K mg base (n + 1) "show_kind" fS (conSaid n)) : CalC P w K mg base (n + 2) "show_row" f (conRow n) := by
  refine calD F hm sc_show_row (fun args CQ CX h => ?_) (fun _ _ _ _ _ _ us hl => match us, hl with | [_], _ => rfl) (fun cdv A outer s H E hr => ⟨_, _, (svs_one (sv_ret (ev_join ev_str (EO.ev (eo_lc rfl sc_show_row.nd (own := [("kind", 1)]) (ei_lst (ev 0)) (by kernel_rfl) (by decide) (fun _ _ _ _ _ => (eg_name 1 sc_show_row.nd)) (fun _ _ _ _ _ => ets_nil) (fun _ _ _ _ _ => (ev_call (K := K) c_show_kind hr (by omega) (by rfl) passL (ea_v (ev 1) ea_nil)))))))), fun args CQ CX h => ?_⟩)
  · obtain ⟨k, rfl, _⟩ := h; rfl
  · obtain ⟨ks, rfl, hk, hl, hQ⟩ := h
    walk_at "dl"
    have hk2 : ∀ k ∈ ks, k.size ≤ 1000 := fun k h => (hk k h).2
    have hb := row_bound hk2
    refine ⟨by omega, items_map (fun k => .str (S k.s)) (fun k K' hk' hK => ?_) ?_⟩
    · walk_at "dl"
      refine ⟨k, rfl, (hk k hk').1, (hk k hk').2, ?_⟩
      walk_at "dl"
      exact hK
    · walk_at "dl"
      refine ⟨_, _, rfl, strsD_of (fun k => S (Kd.s k)) ks, by rw [List.length_map]; (try simp only [List.length_cons, List.length_nil]); omega, ?_⟩
      rw [join_of]
      exact hQ
def conChain : Con := fun args CQ _ => ∃ (N : Nat) (d : D), args = [.b d] ∧ Good N d ∧ N < 10 ^ 10 ∧ ∀ d' (k : Kd), Good (N + 1000) d' → k.size ≤ 100 → CQ (.v k.D) [.b d']
theorem b__law_chain {f fA fD : Addr} {fd : FuncData} (F : FunD K "_law_chain" "_law_chain" (defArgs s__law_chain) (defBody s__law_chain) (defScope s__law_chain) [] [] f fd) (hm : mg "_law_chain" = some (.ref f)) (c__law_dip : CalC P w K mg base 1 "_law_dip" fD conDip) (c__law_any_kind : CalC P w K mg base 3 "_law_any_kind" fA (conAny 1)) (m_range : mg "range" = none) : CalC P w K mg base 4 "_law_chain" f conChain := by
  refine calD F hm sc__law_chain (fun args CQ CX h => ?_) (fun _ _ _ _ _ _ us hl => match us, hl with | [_], _ => rfl) (fun cdv A outer s H E hr => ⟨_, _, (svs_cons (sv_set 1 sc__law_chain.nd (ev_tup (el_cons ev_str (el_cons ev_str el_nil))))
      (svs_cons (sv_for ownsC rfl (ei_rng1 (by rfl) m_range (ev_call c__law_dip hr (by omega) (by rfl) passC (ea_l 0 (ea_v ev_int ea_nil)))) (eg_name 2 sc__law_chain.nd)
      (svs_cons (sv_set 3 sc__law_chain.nd (ev_call c__law_any_kind hr (by omega) (by rfl) passC (ea_l 0 (ea_v ev_int ea_nil))))
      (svs_cons (sv_set 4 sc__law_chain.nd (ev_ix (EO.ev (eo_lst (el_cons ev_str (el_cons ev_str (el_cons ev_str el_nil))))) (ev_call c__law_dip hr (by omega) (by rfl) passC (ea_l 0 (ea_v ev_int ea_nil)))))
      (svs_one (sv_set 1 sc__law_chain.nd (ev_if (et_eqS (ev_call c__law_dip hr (by omega) (by rfl) passC (ea_l 0 (ea_v ev_int ea_nil))) ev_int) (ev_tup (el_cons (ev 4) (el_cons (ev 1) (el_cons (ev 3) el_nil)))) (ev_tup (el_cons (ev 4) (el_cons (ev 3) (el_cons (ev 1) el_nil))))))))))
      (svs_one (sv_ret (ev 1))))), fun args CQ CX h => ?_⟩)
  · obtain ⟨k, d, rfl, _⟩ := h; rfl
  · obtain ⟨N, d, rfl, hG, hN, hQ⟩ := h
    walk_at "dl"
    refine ⟨N, d, 41, rfl, hG, by omega, by decide, by decide, fun d1 r hG1 h0 h1 => ?_⟩
    walk_at "dl"
    refine ⟨by omega, by omega, each_by (fun i ρ => ∃ (d' : D) (k : Kd) (s1 s2 s3 : Sl), ρ = [.b d', .v k.D, s1, s2, s3] ∧ s1.nb = true ∧ s2.nb = true ∧ s3.nb = true ∧ Good (N + 1 + 10 * i) d' ∧ k.size ≤ 1 + i) ⟨d1, .p ⟨25, by decide⟩, .un, .un, .un, rfl, rfl, rfl, rfl, hG1, Nat.le_refl 1⟩ (fun i e ρ K hd h hK => ?_) fun ρ h => ?_⟩
    · obtain ⟨d', k, s1, s2, s3, rfl, n1, n2, n3, hG', hk⟩ := h
      obtain ⟨rfl, hi⟩ := rng_get hd
      walk_at "dl"
      refine ⟨n1, N + 1 + 10 * i, d', 1, rfl, hG', by omega, by omega, by omega, by omega, fun d2 k2 hG2 hk2 => ?_⟩
      walk_at "dl"
      refine ⟨n2, _, d2, 3, rfl, hG2, by omega, by decide, by decide, fun d3 r3 hG3 h30 h31 => ?_⟩
      walk_at "dl"
      rw [f3_at h30 h31]
      refine ⟨_, rfl, ?_⟩
      try walk_at "dl"
      refine ⟨n3, _, d3, 2, rfl, hG3, by omega, by decide, by decide, fun d4 r4 hG4 h40 h41 => ?_⟩
      walk_at "dl"
      have hz : ∀ k' : Kd, k'.size ≤ 1 + (i + 1) → K [.b d4, .v k'.D, .v (.int i), .v k2.D, .v (.str (f3 r3).name)] := fun k' hk' => hK _ ⟨d4, k', _, _, _, rfl, rfl, rfl, rfl, hG4.mono (by omega), hk'⟩
      split
      · exact hz (.n (f3 r3) k k2) (by show k.size + k2.size ≤ _; omega)
      · exact hz (.n (f3 r3) k2 k) (by show k2.size + k.size ≤ _; omega)
    · obtain ⟨d', k, s1, s2, s3, rfl, n1, n2, n3, hG', hk⟩ := h
      walk_at "dl"
      rw [rngD_length] at hG' hk
      exact hQ d' k (hG'.mono (by omega)) (by omega)
end
end K54

set_option Elab.async false
set_option linter.all false
set_option autoImplicit false
set_option maxRecDepth 100000
set_option maxHeartbeats 1000000
namespace K54
open PySem PySem.Spec PyProof.Rows L2 DL
local macro_rules | `(tactic| walk_at "dl") => `(tactic| simp -dsimp only [↓wSeq, ↓wAsg, ↓wName, ↓wVar, ↓wC, ↓w2, ↓DL.wT, ↓wAnd, ↓wOr, ↓DL.wNot, ↓wAndV, ↓wOrV, ↓wNotV, ↓wIf, ↓fI, ↓fI0, ↓fB0, ↓scD, ↓fEqS, ↓fNeS, ↓fAddS, ↓fInC, ↓fNiC, ↓D.fv, ↓D.fvs, ↓seqD, ↓fInV, ↓D.isN, ↓fIsN, ↓fNotN, ↓wNilL, ↓wConsL, ↓wStarL, ↓wTup, ↓wLst, ↓fIx, ↓Sl.d, ↓wPeek, ↓wNoP, ↓wPart, ↓wSl, ↓fSlS, ↓fSlL, ↓fSlT, ↓wCat, ↓wCB, ↓wCN, ↓fLen, ↓fInt, ↓fAbs, ↓fMax2, ↓fMin2, ↓fStrI, ↓fList, ↓D.tyn, ↓fIsi, ↓wiLst, ↓wiTup, ↓wiStr, ↓wiRng1, ↓wiRng2, ↓wiEnu, ↓wiZip, ↓free, ↓nb_un, ↓nb_v, ↓nb_o, ↓wGTup, ↓wGNil, ↓wGCons, ↓wipeR, ↓DL.rest, ↓noOwn, ↓wTurn, ↓wLc, ↓wYes, ↓wNext, ↓wNever, ↓wDrop, ↓wRet, ↓wRetO, ↓wRetN, ↓wGive, ↓wSetO, ↓wAugI, ↓wPar, ↓known, ↓wSetIx, ↓wIfS, ↓wStep, ↓wFor, ↓dEnds, ↓merge, ↓wANil, ↓wAV, ↓wAL, ↓arS, ↓argS, ↓hasL, ↓ndL, ↓Sl.up, ↓putB, ↓wCall, ↓wCallO, ↓wCallV, ↓keyD, ↓fDGet, ↓fAny, ↓fAll, ↓wDct, ↓fKdIx, ↓fKdIn, ↓wJoin, ↓wSplit, ↓isL, ↓wAppend, ↓atI_lit, ↓ixN_lit, List.getElem?_cons_zero, List.getElem?_cons_succ, List.getElem?_nil, List.set_cons_zero, List.set_cons_succ, List.cons_append, List.nil_append, List.length_cons, List.length_nil, List.replicate_succ, List.replicate_zero, List.all_cons, List.all_nil, List.getD_cons_zero, List.getD_cons_succ, Option.some.injEq, Sl.v.injEq, D.fn.injEq, Option.bind_some, Option.isSome_some, Option.isSome_none, Option.map_none, Option.map_some, ne_eq, not_false_eq_true, reduceCtorEq, and_self, true_and, and_true, exists_eq_left', exists_eq_left, exists_eq_right, Bool.and_true, Bool.true_and, Bool.not_false, Bool.not_true, if_true, if_false, decide_eq_true_eq, Bool.false_eq_true, Nat.reduceAdd, Nat.reduceSub, Nat.reduceLeDiff, Nat.reduceLT, Int.reduceToNat, Int.toNat_natCast, decide_true, decide_false, kit_tuple_tuple, kit_tuple_list, kit_tuple_str, kit_tuple_int, kit_tuple_bool, kit_list_tuple, kit_list_list, kit_list_str, kit_list_int, kit_list_bool, kit_str_tuple, kit_str_list, kit_str_str, kit_str_int, kit_str_bool, kit_int_tuple, kit_int_list, kit_int_str, kit_int_int, kit_int_bool, kit_bool_tuple, kit_bool_list, kit_bool_str, kit_bool_int, kit_bool_bool, l40, l41, l42, l91, l93, l97, l98, lgt, llt, lco, lb9, la9, l0, SX.S_cat, SX.S_len, S_eq_iff, List.map_cons, List.map_nil, List.length_map, lenD_lst, lenD_tup, lenD_scr, List.set, ixD_lst, ixD_tup, ixD_scr])
section
variable {P : Program} {w : World} {K : PySem.W.Frag} {mg : Str → Option Value} {base : Heap}

theorem sc_kind_at : FnScope ["text", "at", "sign", "one", "other"] ["text", "at"] (defScope s_kind_at) := ⟨rfl, rfl, rfl, by decide +kernel, rfl, by decide +kernel, by decide +kernel⟩
theorem sc_whole : FnScope ["found", "text"] ["found", "text"] (defScope s_whole) := ⟨rfl, rfl, rfl, by decide +kernel, rfl, by decide +kernel, by decide +kernel⟩
theorem sc_row_of : FnScope ["text", "parts", "found", "part", "kind"] ["text"] (defScope s_row_of) := ⟨rfl, rfl, rfl, by decide +kernel, rfl, by decide +kernel, by decide +kernel⟩
theorem sc_read_kind : FnScope ["text"] ["text"] (defScope s_read_kind) := ⟨rfl, rfl, rfl, by decide +kernel, rfl, by decide +kernel, by decide +kernel⟩
theorem sc_read_row : FnScope ["text", "found"] ["text"] (defScope s_read_row) := ⟨rfl, rfl, rfl, by decide +kernel, rfl, by decide +kernel, by decide +kernel⟩
/-- the letters, the signs between -/
abbrev LET : Str := "abcdefghijklmnopqrstuvwxyz"
abbrev TAB : List (Str × Str) := [("/", "behind"), ("\\", "ahead"), (".", "with")]
theorem let_in (c : Fin 26) : (97 + c.val) ∈ LET.cps.toList := by
  have : ∀ c : Fin 26, (97 + c.val) ∈ LET.cps.toList := by decide +kernel
  exact this c
theorem par_out : ¬ 40 ∈ LET.cps.toList := by decide +kernel
theorem tab_look (f : F3) : TAB.lookup (S [f.sgn]) = some f.name := by cases f <;> rfl
def conKindAt (n : Nat) : Con := fun args CQ _ => ∃ (k : Kd) (l pre post : List Nat) (i : Int), args = [.v (.str (S l)), .v (.int i)] ∧ l = pre ++ (k.s ++ post) ∧ i = pre.length ∧ l.length ≤ 16777216 ∧ k.dep ≤ n ∧ CQ (.v (.tup [k.D, .int (i + k.s.length)])) [.v (.str (S l)), .v (.int i)]
theorem b_kind_at {f : Addr} {fd : FuncData} (F : FunD K "kind_at" "kind_at" (defArgs s_kind_at) (defBody s_kind_at) (defScope s_kind_at) [] [] f fd) (hm : mg "kind_at" = some (.ref f)) (m_LETTERS : ∃ t, mg "LETTERS" = some (.str LET t)) {aT : Addr} (m_BETWEEN : mg "BETWEEN" = some (.ref aT)) (T_BETWEEN : TabS K w aT TAB) : ∀ n : Nat, CalC P w K mg base (n + 1) "kind_at" f (conKindAt n) := by
  refine calRec (c := 0) (calVac (ps := ["text", "at"]) F hm (fun _ _ _ _ _ _ us hl => match us, hl with | [_, _], _ => rfl) fun args CQ CX h => h) fun n c_kind_at => ?_
  refine calD F hm sc_kind_at (fun args CQ CX h => ?_) (fun _ _ _ _ _ _ us hl => match us, hl with | [_, _], _ => rfl) (fun cdv A outer s H E hr => ⟨_, _, (svs_cons (sv_set 2 sc_kind_at.nd (ev_slS (ev 0) (ep_some (ev 1)) (ep_some (ev_add (ev 1) ev_int))))
      (svs_cons (sv_if (ew_and (et_neS (ev 2) ev_str) (ew_and1 (et_inC (ev 2) (ev_globS (by rfl) m_LETTERS)))).et
      (svs_one (sv_ret (ev_tup (el_cons (ev_tup (el_cons ev_str (el_cons (ev 2) el_nil))) (el_cons (ev_add (ev 1) ev_int) el_nil))))) svs_nil)
      (svs_cons (sv_if (et_neS (ev 2) ev_str)
      (svs_one (sv_ret ev_non)) svs_nil)
      (svs_cons (sv_set 3 sc_kind_at.nd (ev_call c_kind_at hr (by omega) (by rfl) passC (ea_v (ev 0) (ea_v (ev_add (ev 1) ev_int) ea_nil))))
      (svs_cons (sv_if (ew_or (et_isN (ev 3) ev_non) (ew_or1 (et_kdNi T_BETWEEN (ev_slS (ev 0) (ep_some (ev_ix (ev 3) ev_int)) (ep_some (ev_add (ev_ix (ev 3) ev_int) ev_int))) (ev_globF (by rfl) m_BETWEEN)))).et
      (svs_one (sv_ret ev_non)) svs_nil)
      (svs_cons (sv_set 4 sc_kind_at.nd (ev_call c_kind_at hr (by omega) (by rfl) passC (ea_v (ev 0) (ea_v (ev_add (ev_ix (ev 3) ev_int) ev_int) ea_nil))))
      (svs_cons (sv_if (ew_or (et_isN (ev 4) ev_non) (ew_or1 (et_neS (ev_slS (ev 0) (ep_some (ev_ix (ev 4) ev_int)) (ep_some (ev_add (ev_ix (ev 4) ev_int) ev_int))) ev_str))).et
      (svs_one (sv_ret ev_non)) svs_nil)
      (svs_one (sv_ret (ev_tup (el_cons (ev_tup (el_cons (ev_kdIx T_BETWEEN (ev_globF (by rfl) m_BETWEEN) (ev_ix (ev 0) (ev_ix (ev 3) ev_int))) (el_cons (ev_ix (ev 3) ev_int) (el_cons (ev_ix (ev 4) ev_int) el_nil)))) (el_cons (ev_add (ev_ix (ev 4) ev_int) ev_int) el_nil)))))))))))), fun args CQ CX h => ?_⟩)
  · obtain ⟨k, l, pre, post, i, rfl, _⟩ := h; rfl
  · obtain ⟨k, l, pre, post, i, rfl, hl, hi, hz, hd, hQ⟩ := h
    cases k with
    | p c =>
      walk_at "dl"
      have e1 : cutS (S l) (some i) (some (i + 1)) = S [97 + c.val] := cut_at (mid := [97 + c.val]) hl hi rfl
      rw [e1]
      refine ⟨line_of hz, ?_⟩
      rw [if_pos (by simp [S_eq_iff])]
      refine ⟨_, rfl, ?_⟩
      rw [if_pos (let_in c)]
      exact hQ
    | n f a b =>
      cases n with
      | zero => exact absurd hd (Nat.not_succ_le_zero _)
      | succ n =>
        have hd : max a.dep b.dep + 1 ≤ n + 1 := hd
        have hl' : l = pre ++ (40 :: (a.s ++ (f.sgn :: (b.s ++ (41 :: post))))) := by rw [hl]; simp [Kd.s]
        have hlen : (Kd.n f a b).s.length = a.s.length + b.s.length + 3 := by simp [Kd.s]; omega
        walk_at "dl"
        have e1 : cutS (S l) (some i) (some (i + 1)) = S [40] := cut_at (mid := [40]) hl' hi rfl
        rw [e1]
        refine ⟨line_of hz, ?_⟩
        rw [if_pos (by simp [S_eq_iff])]
        refine ⟨_, rfl, ?_⟩
        rw [if_neg par_out, if_neg (by simp)]
        refine ⟨a, l, pre ++ [40], f.sgn :: (b.s ++ (41 :: post)), i + 1, rfl, by rw [hl']; simp, by simp; omega, hz, by omega, ?_⟩
        walk_at "dl"
        have e2 : cutS (S l) (some (i + 1 + a.s.length)) (some (i + 1 + a.s.length + 1)) = S [f.sgn] := cut_at (mid := [f.sgn]) (pre := pre ++ (40 :: a.s)) (post := b.s ++ (41 :: post)) (by rw [hl']; simp) (by simp; omega) rfl
        rw [e2, tab_look]
        refine ⟨line_of hz, ?_⟩
        walk_at "dl"
        refine ⟨b, l, pre ++ (40 :: (a.s ++ [f.sgn])), 41 :: post, _, rfl, by rw [hl']; simp, by simp; omega, hz, by omega, ?_⟩
        walk_at "dl"
        have e3 : cutS (S l) (some (i + 1 + a.s.length + 1 + b.s.length)) (some (i + 1 + a.s.length + 1 + b.s.length + 1)) = S [41] := cut_at (mid := [41]) (pre := pre ++ (40 :: (a.s ++ (f.sgn :: b.s)))) (post := post) (by rw [hl']; simp) (by simp; omega) rfl
        have e4 : ixD (.str (S l)) (i + 1 + a.s.length) = some (.str (S [f.sgn])) := at_S (pre := pre ++ (40 :: a.s)) (post := b.s ++ (41 :: post)) (by rw [hl']; simp) (by simp; omega) (line_of hz)
        have e5 : i + ((Kd.n f a b).s.length : Int) = i + 1 + a.s.length + 1 + b.s.length + 1 := by rw [hlen]; omega
        rw [e3]
        refine ⟨line_of hz, ?_⟩
        rw [if_neg (by simp), e4]
        refine ⟨_, rfl, rfl, f.name, tab_look f, ?_⟩
        rw [e5] at hQ
        exact hQ
/-- found of a text that is read whole -/
def conWhole : Con := fun args CQ _ => ∃ (d : D) (l : List Nat), args = [.v (.tup [d, .int l.length]), .v (.str (S l))] ∧ l.length ≤ 16777216 ∧ CQ (.v d) args
theorem b_whole {f : Addr} {fd : FuncData} (F : FunD K "whole" "whole" (defArgs s_whole) (defBody s_whole) (defScope s_whole) [] [] f fd) (hm : mg "whole" = some (.ref f)) (m_len : mg "len" = none) : CalC P w K mg base 1 "whole" f conWhole := by
  refine calD F hm sc_whole (fun args CQ CX h => ?_) (fun _ _ _ _ _ _ us hl => match us, hl with | [_, _], _ => rfl) (fun cdv A outer s H E hr => ⟨_, _, (svs_cons (sv_if (ew_or (et_isN (ev 0) ev_non) (ew_or1 (et_neS (ev_ix (ev 0) ev_int) (ev_len m_len (ev 1))))).et
      (svs_one sv_never) svs_nil)
      (svs_one (sv_ret (ev_ix (ev 0) ev_int)))), fun args CQ CX h => ?_⟩)
  · obtain ⟨k, l, rfl, _⟩ := h; rfl
  · obtain ⟨d, l, rfl, hz, hQ⟩ := h
    walk_at "dl"
    refine ⟨_, lenD_S hz, ?_⟩
    walk_at "dl"
    exact hQ
def conReadKind (n : Nat) : Con := fun args CQ _ => ∃ k : Kd, args = [.v (.str (S k.s))] ∧ k.dep ≤ n ∧ k.size ≤ 1000 ∧ CQ (.v k.D) args
theorem b_read_kind {f fK fW : Addr} {fd : FuncData} (n : Nat) (F : FunD K "read_kind" "read_kind" (defArgs s_read_kind) (defBody s_read_kind) (defScope s_read_kind) [] [] f fd) (hm : mg "read_kind" = some (.ref f)) (c_kind_at : CalC P w K mg base (n + 1) "kind_at" fK (conKindAt n)) (c_whole : CalC P w K mg base 1 "whole" fW conWhole) : CalC P w K mg base (n + 2) "read_kind" f (conReadKind n) := by
  refine calD F hm sc_read_kind (fun args CQ CX h => ?_) (fun _ _ _ _ _ _ us hl => match us, hl with | [_], _ => rfl) (fun cdv A outer s H E hr => ⟨_, _, (svs_one (sv_ret (ev_call c_whole hr (by omega) (by rfl) passC (ea_v (ev_call c_kind_at hr (by omega) (by rfl) passC (ea_v (ev 0) (ea_v ev_int ea_nil))) (ea_v (ev 0) ea_nil))))), fun args CQ CX h => ?_⟩)
  · obtain ⟨k, rfl, _⟩ := h; rfl
  · obtain ⟨k, rfl, hd, hs, hQ⟩ := h
    have la := Kd.s_le hs
    walk_at "dl"
    refine ⟨k, k.s, [], [], 0, rfl, by simp, rfl, by omega, hd, ?_⟩
    walk_at "dl"
    refine ⟨k.D, k.s, by rw [Int.zero_add], by omega, ?_⟩
    walk_at "dl"
    exact hQ
theorem Kd.no32 : ∀ k : Kd, 32 ∉ k.s
  | .p c => by
    have := c.isLt
    simp [Kd.s]; omega
  | .n f a b => by
    have h1 := a.no32; have h2 := b.no32
    cases f <;> simp [Kd.s, F3.sgn, h1, h2]
theorem row_split {ks : List Kd} (h : ks ≠ []) : Txt.split (S (rowS ks)) (S [32, 44, 32]) = ks.map fun k => S k.s := by
  unfold rowS
  rw [← join_of]
  refine TL.split_join (s := 32) (S := [44, 32]) rfl (by decide +kernel) (by simpa using h) fun p hp => ?_
  obtain ⟨k, hk, rfl⟩ := List.mem_map.mp hp
  exact k.no32
theorem rowS_len {ks : List Kd} (h : ∀ k ∈ ks, k.size ≤ 1000) : (rowS ks).length ≤ 4003 * ks.length := by
  have : ∀ xs : List (List Nat), (TL.joinL [32, 44, 32] xs).length ≤ (xs.map (·.length)).sum + 3 * xs.length := by
    intro xs
    induction xs with
    | nil => simp [TL.joinL]
    | cons x xs ih =>
      cases xs with
      | nil => simp [TL.joinL]
      | cons y ys => simp [TL.joinL] at *; omega
  have h1 := this (ks.map Kd.s)
  have h2 := row_bound h
  have h3 : ((ks.map fun k => S k.s).map (·.length)) = (ks.map Kd.s).map (·.length) := by simp [SX.S_len]
  rw [h3] at h2
  rw [List.length_map] at h1
  unfold rowS
  omega
def conRowOf (n : Nat) : Con := fun args CQ _ => ∃ ks : List Kd, args = [.v (.str (S (rowS ks)))] ∧ ks ≠ [] ∧ (∀ k ∈ ks, k.dep ≤ n ∧ k.size ≤ 1000) ∧ ks.length ≤ 100 ∧ CQ (.v (.lst (ks.map Kd.D))) args
theorem b_row_of {f fK : Addr} {fd : FuncData} (n : Nat) (F : FunD K "row_of" "row_of" (defArgs s_row_of) (defBody s_row_of) (defScope s_row_of) [] [] f fd) (hm : mg "row_of" = some (.ref f)) (c_kind_at : CalC P w K mg base (n + 1) "kind_at" fK (conKindAt n)) (m_len : mg "len" = none) (m_any : mg "any" = none) (m_zip : mg "zip" = none) : CalC P w K mg base (n + 2) "row_of" f (conRowOf n) := by
  refine calD F hm sc_row_of (fun args CQ CX h => ?_) (fun _ _ _ _ _ _ us hl => match us, hl with | [_], _ => rfl) (fun cdv A outer s H E hr => ⟨_, _, (svs_cons (sv_setO 1 sc_row_of.nd (eo_split (ev 0) ev_str))
      (svs_cons (sv_setLc 2 rfl sc_row_of.nd (own := [("part", 3)]) (ei_lst (ev 1)) (by kernel_rfl) (by decide) (fun _ _ _ _ _ => (eg_name 3 sc_row_of.nd)) (fun _ _ _ _ _ => ets_nil) (fun _ _ _ _ _ => (ev_call (K := K) c_kind_at hr (by omega) (by rfl) passL (ea_v (ev 3) (ea_v ev_int ea_nil)))))
      (svs_cons (sv_if (et_val (ev_any rfl m_any (EO.ev (eo_lc rfl sc_row_of.nd (own := [("kind", 4), ("part", 3)]) (ei_zip (by rfl) m_zip (ev 2) (ev 1)) (by kernel_rfl) (by decide) (fun _ _ _ _ _ => (eg_pair (K := K) 4 3 rfl sc_row_of.nd (eg_name 4 sc_row_of.nd) (eg_name 3 sc_row_of.nd))) (fun _ _ _ _ _ => ets_nil) (fun _ _ _ _ _ => (ev_or (ev_isN (ev 4) ev_non) (ev_one (ev_neS (ev_ix (K := K) (ev 4) ev_int) (ev_len (K := K) m_len (ev 3))))))))))
      (svs_one (sv_ret ev_non)) svs_nil)
      (svs_one (sv_ret (EO.ev (eo_lc rfl sc_row_of.nd (own := [("kind", 4)]) (ei_lst (ev 2)) (by kernel_rfl) (by decide) (fun _ _ _ _ _ => (eg_name 4 sc_row_of.nd)) (fun _ _ _ _ _ => ets_nil) (fun _ _ _ _ _ => (ev_ix (K := K) (ev 4) ev_int))))))))), fun args CQ CX h => ?_⟩)
  · obtain ⟨k, rfl, _⟩ := h; rfl
  · obtain ⟨ks, rfl, hne, hk, hl, hQ⟩ := h
    have hlen := rowS_len fun k h => (hk k h).2
    walk_at "dl"
    rw [row_split hne, List.map_map]
    refine ⟨by decide, by omega, by rw [List.length_map]; omega, items_map (fun k : Kd => .tup [k.D, .int k.s.length]) (fun k K' hk' hK => ?_) ?_⟩
    · have hb := Kd.s_le (hk k hk').2
      walk_at "dl"
      refine ⟨k, k.s, [], [], 0, rfl, by simp, rfl, by omega, (hk k hk').1, ?_⟩
      walk_at "dl"
      rw [Int.zero_add]
      exact hK
    walk_at "dl"
    rw [zipD_of]
    refine ⟨by rw [List.length_map]; omega, items_map (fun _ => .bl false) (fun k K' hk' hK => ?_) ?_⟩
    · have hb := Kd.s_le (hk k hk').2
      walk_at "dl"
      refine ⟨_, lenD_S (by omega), ?_⟩
      rw [decide_eq_true rfl]
      exact hK
    walk_at "dl"
    refine ⟨_, blsD_of (fun _ => false) ks, ?_⟩
    have e : (ks.map fun _ => false).any id = false := by simp
    rw [e]
    walk_at "dl"
    refine ⟨by omega, items_map (fun k => k.D) (fun k K' hk' hK => ?_) ?_⟩
    · walk_at "dl"
      exact hK
    · walk_at "dl"
      exact hQ
def conReadRow (n : Nat) : Con := conRowOf n
theorem b_read_row {f fR : Addr} {fd : FuncData} (n : Nat) (F : FunD K "read_row" "read_row" (defArgs s_read_row) (defBody s_read_row) (defScope s_read_row) [] [] f fd) (hm : mg "read_row" = some (.ref f)) (c_row_of : CalC P w K mg base (n + 2) "row_of" fR (conRowOf n)) : CalC P w K mg base (n + 3) "read_row" f (conRowOf n) := by
  refine calD F hm sc_read_row (fun args CQ CX h => ?_) (fun _ _ _ _ _ _ us hl => match us, hl with | [_], _ => rfl) (fun cdv A outer s H E hr => ⟨_, _, (svs_cons (sv_set 1 sc_read_row.nd (ev_call c_row_of hr (by omega) (by rfl) passC (ea_v (ev 0) ea_nil)))
      (svs_cons (sv_if (et_isN (ev 1) ev_non)
      (svs_one sv_never) svs_nil)
      (svs_one (sv_ret (ev 1))))), fun args CQ CX h => ?_⟩)
  · obtain ⟨k, rfl, _⟩ := h; rfl
  · obtain ⟨ks, rfl, hne, hk, hl, hQ⟩ := h
    walk_at "dl"
    refine ⟨ks, rfl, hne, hk, hl, ?_⟩
    walk_at "dl"
    exact hQ
end
end K54

set_option Elab.async false
set_option linter.all false
set_option autoImplicit false
set_option maxRecDepth 100000
set_option maxHeartbeats 1000000
namespace K54
open PySem PySem.Spec PyProof.Rows L2 DL
local macro_rules | `(tactic| walk_at "dl") => `(tactic| simp -dsimp only [↓wSeq, ↓wAsg, ↓wName, ↓wVar, ↓wC, ↓w2, ↓DL.wT, ↓wAnd, ↓wOr, ↓DL.wNot, ↓wAndV, ↓wOrV, ↓wNotV, ↓wIf, ↓fI, ↓fI0, ↓fB0, ↓scD, ↓fEqS, ↓fNeS, ↓fAddS, ↓fInC, ↓fNiC, ↓D.fv, ↓D.fvs, ↓seqD, ↓fInV, ↓D.isN, ↓fIsN, ↓fNotN, ↓wNilL, ↓wConsL, ↓wStarL, ↓wTup, ↓wLst, ↓fIx, ↓Sl.d, ↓wPeek, ↓wNoP, ↓wPart, ↓wSl, ↓fSlS, ↓fSlL, ↓fSlT, ↓wCat, ↓wCB, ↓wCN, ↓fLen, ↓fInt, ↓fAbs, ↓fMax2, ↓fMin2, ↓fStrI, ↓fList, ↓D.tyn, ↓fIsi, ↓wiLst, ↓wiTup, ↓wiStr, ↓wiRng1, ↓wiRng2, ↓wiEnu, ↓wiZip, ↓free, ↓nb_un, ↓nb_v, ↓nb_o, ↓wGTup, ↓wGNil, ↓wGCons, ↓wipeR, ↓DL.rest, ↓noOwn, ↓wTurn, ↓wLc, ↓wYes, ↓wNext, ↓wNever, ↓wDrop, ↓wRet, ↓wRetO, ↓wRetN, ↓wGive, ↓wSetO, ↓wAugI, ↓wPar, ↓known, ↓wSetIx, ↓wIfS, ↓wStep, ↓wFor, ↓dEnds, ↓merge, ↓wANil, ↓wAV, ↓wAL, ↓arS, ↓argS, ↓hasL, ↓ndL, ↓Sl.up, ↓putB, ↓wCall, ↓wCallO, ↓wCallV, ↓keyD, ↓fDGet, ↓fAny, ↓fAll, ↓wDct, ↓fKdIx, ↓fKdIn, ↓wJoin, ↓wSplit, ↓isL, ↓wAppend, ↓atI_lit, ↓ixN_lit, List.getElem?_cons_zero, List.getElem?_cons_succ, List.getElem?_nil, List.set_cons_zero, List.set_cons_succ, List.cons_append, List.nil_append, List.length_cons, List.length_nil, List.replicate_succ, List.replicate_zero, List.all_cons, List.all_nil, List.getD_cons_zero, List.getD_cons_succ, Option.some.injEq, Sl.v.injEq, D.fn.injEq, Option.bind_some, Option.isSome_some, Option.isSome_none, Option.map_none, Option.map_some, ne_eq, not_false_eq_true, reduceCtorEq, and_self, true_and, and_true, exists_eq_left', exists_eq_left, exists_eq_right, Bool.and_true, Bool.true_and, Bool.not_false, Bool.not_true, if_true, if_false, decide_eq_true_eq, Bool.false_eq_true, Nat.reduceAdd, Nat.reduceSub, Nat.reduceLeDiff, Nat.reduceLT, Int.reduceToNat, Int.toNat_natCast, decide_true, decide_false, kit_tuple_tuple, kit_tuple_list, kit_tuple_str, kit_tuple_int, kit_tuple_bool, kit_list_tuple, kit_list_list, kit_list_str, kit_list_int, kit_list_bool, kit_str_tuple, kit_str_list, kit_str_str, kit_str_int, kit_str_bool, kit_int_tuple, kit_int_list, kit_int_str, kit_int_int, kit_int_bool, kit_bool_tuple, kit_bool_list, kit_bool_str, kit_bool_int, kit_bool_bool, l40, l41, l42, l91, l93, l97, l98, lgt, llt, lco, lb9, la9, l0, SX.S_cat, SX.S_len, S_eq_iff, List.map_cons, List.map_nil, List.length_map, lenD_lst, lenD_tup, lenD_scr, List.set, ixD_lst, ixD_tup, ixD_scr])
section
variable {P : Program} {w : World} {K : PySem.W.Frag} {mg : Str → Option Value} {base : Heap}

theorem sc__law_width : FnScope ["_law_reading_here"] ["_law_reading_here"] (defScope s__law_width) := ⟨rfl, rfl, rfl, by decide +kernel, rfl, by decide +kernel, by decide +kernel⟩
theorem sc__law_reading : FnScope ["_law_well_here", "_law_deep", "_law_mode", "_law_one"] ["_law_well_here", "_law_deep"] (defScope s__law_reading) := ⟨rfl, rfl, rfl, by decide +kernel, rfl, by decide +kernel, by decide +kernel⟩
theorem sc__law_reading_said : FnScope ["_law_reading_here", "_law_form"] ["_law_reading_here"] (defScope s__law_reading_said) := ⟨rfl, rfl, rfl, by decide +kernel, rfl, by decide +kernel, by decide +kernel⟩
theorem sc_show_reading : FnScope ["reading", "form", "sign"] ["reading"] (defScope s_show_reading) := ⟨rfl, rfl, rfl, by decide +kernel, rfl, by decide +kernel, by decide +kernel⟩
theorem sc_pair_at : FnScope ["text", "at", "reader", "one", "between", "other"] ["text", "at", "reader"] (defScope s_pair_at) := ⟨rfl, rfl, rfl, by decide +kernel, rfl, by decide +kernel, by decide +kernel⟩
theorem sc_give_at : FnScope ["text", "at", "given", "part", "form"] ["text", "at"] (defScope s_give_at) := ⟨rfl, rfl, rfl, by decide +kernel, rfl, by decide +kernel, by decide +kernel⟩
theorem sc_reading_at : FnScope ["text", "at", "sign"] ["text", "at"] (defScope s_reading_at) := ⟨rfl, rfl, rfl, by decide +kernel, rfl, by decide +kernel, by decide +kernel⟩
theorem sc_widths_right : FnScope ["reading", "width", "one", "other"] ["reading"] (defScope s_widths_right) := ⟨rfl, rfl, rfl, by decide +kernel, rfl, by decide +kernel, by decide +kernel⟩
theorem sc_read_reading : FnScope ["text", "found"] ["text"] (defScope s_read_reading) := ⟨rfl, rfl, rfl, by decide +kernel, rfl, by decide +kernel, by decide +kernel⟩
def fB (f : Bool) : Str := if f then "behind" else "ahead"
def fG (f : Bool) : Str := if f then "givebehind" else "giveahead"
def sB (f : Bool) : List Nat := if f then [32, 62, 32] else [32, 60, 32]
def sG (f : Bool) : Nat := if f then 98 else 97
inductive Rd where
  | w
  | n (f : Bool) (a b : Rd)
  | g (f : Bool) (k : Kd) (r : Rd)
def Rd.D : Rd → D
  | .w => .tup [.str "word"]
  | .n f a b => .tup [.str (fB f), a.D, b.D]
  | .g f k r => .tup [.str (fG f), k.D, r.D]
def Rd.s : Rd → List Nat
  | .w => [42]
  | .n f a b => 40 :: (a.s ++ (sB f ++ (b.s ++ [41])))
  | .g f k r => sG f :: 91 :: (k.s ++ (93 :: r.s))
def Rd.dep : Rd → Nat
  | .w => 0
  | .n _ a b => max a.dep b.dep + 1
  | .g _ _ r => r.dep + 1
def Rd.wid : Rd → Int
  | .w => 1
  | .n _ a b => a.wid + b.wid
  | .g _ _ r => r.wid - 1
/-- the kinds small, what is given of at least two -/
def Rd.ok : Rd → Prop
  | .w => True
  | .n _ a b => a.ok ∧ b.ok
  | .g _ k r => k.size ≤ 4 ∧ 2 ≤ r.wid ∧ r.ok
theorem Rd.wid_pos : ∀ {r : Rd}, r.ok → 1 ≤ r.wid
  | .w, _ => by decide
  | .n _ a b, h => by
    have h1 := Rd.wid_pos h.1; have h2 := Rd.wid_pos h.2
    show 1 ≤ a.wid + b.wid
    omega
  | .g _ _ r, h => by
    have h1 := h.2.1
    show 1 ≤ r.wid - 1
    omega
theorem Rd.s_n (f : Bool) (a b : Rd) : (Rd.n f a b).s = [40] ++ a.s ++ sB f ++ b.s ++ [41] := by simp [Rd.s]
theorem Rd.s_g (f : Bool) (k : Kd) (r : Rd) : (Rd.g f k r).s = [sG f] ++ [91] ++ k.s ++ [93] ++ r.s := by simp [Rd.s]
theorem sB_len (f : Bool) : (sB f).length = 3 := by cases f <;> rfl
theorem Rd.len_le : ∀ {r : Rd} {m : Nat}, r.ok → r.dep ≤ m → r.s.length + 21 ≤ 22 * 2 ^ m
  | .w, m, _, _ => by
    have := Nat.one_le_two_pow (n := m)
    show 1 + 21 ≤ _
    omega
  | .n f a b, 0, _, h => absurd h (Nat.not_succ_le_zero _)
  | .n f a b, m + 1, ho, h => by
    have h : max a.dep b.dep + 1 ≤ m + 1 := h
    have h1 := Rd.len_le (m := m) ho.1 (by omega)
    have h2 := Rd.len_le (m := m) ho.2 (by omega)
    rw [Rd.s_n, Nat.pow_succ]
    simp only [List.length_append, List.length_cons, List.length_nil, sB_len]
    omega
  | .g f k r, 0, _, h => absurd h (Nat.not_succ_le_zero _)
  | .g f k r, m + 1, ho, h => by
    have h : r.dep + 1 ≤ m + 1 := h
    have h1 := Rd.len_le (m := m) ho.2.2 (by omega)
    have h2 := k.s_len
    have h3 := ho.1
    rw [Rd.s_g, Nat.pow_succ]
    have := Nat.one_le_two_pow (n := m)
    simp only [List.length_append, List.length_cons, List.length_nil]
    omega
theorem Rd.len5 {r : Rd} {n : Nat} (h : r.ok) (hd : r.dep ≤ n) (hn : n ≤ 8) : r.s.length ≤ 10000 := by
  have h1 := Rd.len_le h hd
  have h2 : 2 ^ n ≤ 2 ^ 8 := Nat.pow_le_pow_right (by decide) hn
  omega
theorem fB_word (f : Bool) : ¬ fB f = Str.ofString "word" := by cases f <;> decide
theorem fG_word (f : Bool) : ¬ fG f = Str.ofString "word" := by cases f <;> decide
theorem fB_in (f : Bool) : inV (.str (fB f)) [V.str (Str.ofString "givebehind"), V.str (Str.ofString "giveahead")] = false := by cases f <;> decide
theorem fG_in (f : Bool) : inV (.str (fG f)) [V.str (Str.ofString "givebehind"), V.str (Str.ofString "giveahead")] = true := by cases f <;> decide
def conWid (n : Nat) : Con := fun args CQ _ => ∃ r : Rd, args = [.v r.D] ∧ r.ok ∧ r.dep ≤ n ∧ CQ (.v (.int r.wid)) args
theorem b__law_width {f : Addr} {fd : FuncData} (F : FunD K "_law_width" "_law_width" (defArgs s__law_width) (defBody s__law_width) (defScope s__law_width) [] [] f fd) (hm : mg "_law_width" = some (.ref f)) : ∀ n : Nat, CalC P w K mg base (n + 1) "_law_width" f (conWid n) := by
  refine calRec (c := 0) (calVac (ps := ["_law_reading_here"]) F hm (fun _ _ _ _ _ _ us hl => match us, hl with | [_], _ => rfl) fun args CQ CX h => h) fun n c__law_width => ?_
  refine calD F hm sc__law_width (fun args CQ CX h => ?_) (fun _ _ _ _ _ _ us hl => match us, hl with | [_], _ => rfl) (fun cdv A outer s H E hr => ⟨_, _, (svs_cons (sv_if (et_eqS (ev_ix (ev 0) ev_int) ev_str)
      (svs_one (sv_ret ev_int)) svs_nil)
      (svs_cons (sv_if (et_inV (ev_ix (ev 0) ev_int) (ev_tup (el_cons ev_str (el_cons ev_str el_nil))))
      (svs_one (sv_ret (ev_sub (ev_call c__law_width hr (by omega) (by rfl) passC (ea_v (ev_ix (ev 0) ev_int) ea_nil)) ev_int))) svs_nil)
      (svs_one (sv_ret (ev_add (ev_call c__law_width hr (by omega) (by rfl) passC (ea_v (ev_ix (ev 0) ev_int) ea_nil)) (ev_call c__law_width hr (by omega) (by rfl) passC (ea_v (ev_ix (ev 0) ev_int) ea_nil))))))), fun args CQ CX h => ?_⟩)
  · obtain ⟨k, rfl, _⟩ := h; rfl
  · obtain ⟨r, rfl, ho, hd, hQ⟩ := h
    cases r with
    | w =>
      unfold Rd.D at *
      walk_at "dl"
      exact hQ
    | n f a b =>
      cases n with
      | zero => exact absurd hd (Nat.not_succ_le_zero _)
      | succ n =>
        have hd : max a.dep b.dep + 1 ≤ n + 1 := hd
        unfold Rd.D at *
        walk_at "dl"
        rw [if_neg (fB_word f), fB_in, if_neg Bool.false_ne_true]
        refine ⟨a, rfl, ho.1, by omega, ?_⟩
        walk_at "dl"
        refine ⟨b, rfl, ho.2, by omega, ?_⟩
        walk_at "dl"
        exact hQ
    | g f k r =>
      cases n with
      | zero => exact absurd hd (Nat.not_succ_le_zero _)
      | succ n =>
        have hd : r.dep + 1 ≤ n + 1 := hd
        unfold Rd.D at *
        walk_at "dl"
        rw [if_neg (fG_word f), fG_in, if_pos rfl]
        refine ⟨r, rfl, ho.2.2, by omega, ?_⟩
        walk_at "dl"
        exact hQ
def conWidR (n : Nat) : Con := conWid n
theorem b_widths_right {f : Addr} {fd : FuncData} (F : FunD K "widths_right" "widths_right" (defArgs s_widths_right) (defBody s_widths_right) (defScope s_widths_right) [] [] f fd) (hm : mg "widths_right" = some (.ref f)) : ∀ n : Nat, CalC P w K mg base (n + 1) "widths_right" f (conWid n) := by
  refine calRec (c := 0) (calVac (ps := ["reading"]) F hm (fun _ _ _ _ _ _ us hl => match us, hl with | [_], _ => rfl) fun args CQ CX h => h) fun n c_widths_right => ?_
  refine calD F hm sc_widths_right (fun args CQ CX h => ?_) (fun _ _ _ _ _ _ us hl => match us, hl with | [_], _ => rfl) (fun cdv A outer s H E hr => ⟨_, _, (svs_cons (sv_if (et_eqS (ev_ix (ev 0) ev_int) ev_str)
      (svs_one (sv_ret ev_int)) svs_nil)
      (svs_cons (sv_if (et_inV (ev_ix (ev 0) ev_int) (ev_tup (el_cons ev_str (el_cons ev_str el_nil))))
      (svs_cons (sv_set 1 sc_widths_right.nd (ev_call c_widths_right hr (by omega) (by rfl) passC (ea_v (ev_ix (ev 0) ev_int) ea_nil)))
      (svs_one (sv_ret (ev_if (ew_or (et_isN (ev 1) ev_non) (ew_or1 (et_lt (ev 1) ev_int))).et ev_non (ev_sub (ev 1) ev_int))))) svs_nil)
      (svs_cons (sv_pars 2 3 sc_widths_right.nd (ev_call c_widths_right hr (by omega) (by rfl) passC (ea_v (ev_ix (ev 0) ev_int) ea_nil)) (ev_call c_widths_right hr (by omega) (by rfl) passC (ea_v (ev_ix (ev 0) ev_int) ea_nil)))
      (svs_one (sv_ret (ev_if (ew_or (et_isN (ev 2) ev_non) (ew_or1 (et_isN (ev 3) ev_non))).et ev_non (ev_add (ev 2) (ev 3)))))))), fun args CQ CX h => ?_⟩)
  · obtain ⟨k, rfl, _⟩ := h; rfl
  · obtain ⟨r, rfl, ho, hd, hQ⟩ := h
    cases r with
    | w =>
      unfold Rd.D at *
      walk_at "dl"
      exact hQ
    | n f a b =>
      cases n with
      | zero => exact absurd hd (Nat.not_succ_le_zero _)
      | succ n =>
        have hd : max a.dep b.dep + 1 ≤ n + 1 := hd
        unfold Rd.D at *
        walk_at "dl"
        rw [if_neg (fB_word f), fB_in, if_neg Bool.false_ne_true]
        refine ⟨a, rfl, ho.1, by omega, ?_⟩
        walk_at "dl"
        refine ⟨b, rfl, ho.2, by omega, ?_⟩
        walk_at "dl"
        exact hQ
    | g f k r =>
      cases n with
      | zero => exact absurd hd (Nat.not_succ_le_zero _)
      | succ n =>
        have hd : r.dep + 1 ≤ n + 1 := hd
        have hw := ho.2.1
        unfold Rd.D at *
        walk_at "dl"
        rw [if_neg (fG_word f), fG_in, if_pos rfl]
        refine ⟨r, rfl, ho.2.2, by omega, ?_⟩
        walk_at "dl"
        rw [if_neg (by omega)]
        exact hQ
end
end K54

set_option Elab.async false
set_option linter.all false
set_option autoImplicit false
set_option maxRecDepth 100000
set_option maxHeartbeats 1000000
namespace K54
open PySem PySem.Spec PyProof.Rows L2 DL
local macro_rules | `(tactic| walk_at "dl") => `(tactic| simp -dsimp only [↓wSeq, ↓wAsg, ↓wName, ↓wVar, ↓wC, ↓w2, ↓DL.wT, ↓wAnd, ↓wOr, ↓DL.wNot, ↓wAndV, ↓wOrV, ↓wNotV, ↓wIf, ↓fI, ↓fI0, ↓fB0, ↓scD, ↓fEqS, ↓fNeS, ↓fAddS, ↓fInC, ↓fNiC, ↓D.fv, ↓D.fvs, ↓seqD, ↓fInV, ↓D.isN, ↓fIsN, ↓fNotN, ↓wNilL, ↓wConsL, ↓wStarL, ↓wTup, ↓wLst, ↓fIx, ↓Sl.d, ↓wPeek, ↓wNoP, ↓wPart, ↓wSl, ↓fSlS, ↓fSlL, ↓fSlT, ↓wCat, ↓wCB, ↓wCN, ↓fLen, ↓fInt, ↓fAbs, ↓fMax2, ↓fMin2, ↓fStrI, ↓fList, ↓D.tyn, ↓fIsi, ↓wiLst, ↓wiTup, ↓wiStr, ↓wiRng1, ↓wiRng2, ↓wiEnu, ↓wiZip, ↓free, ↓nb_un, ↓nb_v, ↓nb_o, ↓wGTup, ↓wGNil, ↓wGCons, ↓wipeR, ↓DL.rest, ↓noOwn, ↓wTurn, ↓wLc, ↓wYes, ↓wNext, ↓wNever, ↓wDrop, ↓wRet, ↓wRetO, ↓wRetN, ↓wGive, ↓wSetO, ↓wAugI, ↓wPar, ↓known, ↓wSetIx, ↓wIfS, ↓wStep, ↓wFor, ↓dEnds, ↓merge, ↓wANil, ↓wAV, ↓wAL, ↓arS, ↓argS, ↓hasL, ↓ndL, ↓Sl.up, ↓putB, ↓wCall, ↓wCallO, ↓wCallV, ↓keyD, ↓fDGet, ↓fAny, ↓fAll, ↓wDct, ↓fKdIx, ↓fKdIn, ↓wJoin, ↓wSplit, ↓isL, ↓wAppend, ↓atI_lit, ↓ixN_lit, List.getElem?_cons_zero, List.getElem?_cons_succ, List.getElem?_nil, List.set_cons_zero, List.set_cons_succ, List.cons_append, List.nil_append, List.length_cons, List.length_nil, List.replicate_succ, List.replicate_zero, List.all_cons, List.all_nil, List.getD_cons_zero, List.getD_cons_succ, Option.some.injEq, Sl.v.injEq, D.fn.injEq, Option.bind_some, Option.isSome_some, Option.isSome_none, Option.map_none, Option.map_some, ne_eq, not_false_eq_true, reduceCtorEq, and_self, true_and, and_true, exists_eq_left', exists_eq_left, exists_eq_right, Bool.and_true, Bool.true_and, Bool.not_false, Bool.not_true, if_true, if_false, decide_eq_true_eq, Bool.false_eq_true, Nat.reduceAdd, Nat.reduceSub, Nat.reduceLeDiff, Nat.reduceLT, Int.reduceToNat, Int.toNat_natCast, decide_true, decide_false, kit_tuple_tuple, kit_tuple_list, kit_tuple_str, kit_tuple_int, kit_tuple_bool, kit_list_tuple, kit_list_list, kit_list_str, kit_list_int, kit_list_bool, kit_str_tuple, kit_str_list, kit_str_str, kit_str_int, kit_str_bool, kit_int_tuple, kit_int_list, kit_int_str, kit_int_int, kit_int_bool, kit_bool_tuple, kit_bool_list, kit_bool_str, kit_bool_int, kit_bool_bool, l40, l41, l42, l91, l93, l97, l98, lgt, llt, lco, lb9, la9, l0, SX.S_cat, SX.S_len, S_eq_iff, List.map_cons, List.map_nil, List.length_map, lenD_lst, lenD_tup, lenD_scr, List.set, ixD_lst, ixD_tup, ixD_scr])
section
variable {P : Program} {w : World} {K : PySem.W.Frag} {mg : Str → Option Value} {base : Heap}

def cst : Nat → Nat
  | 0 => 1
  | n + 1 => 50 + 2 * cst n
theorem cst_mono : ∀ {a b : Nat}, a ≤ b → cst a ≤ cst b := by
  intro a b h
  induction h with
  | refl => exact Nat.le_refl _
  | step _ ih => exact Nat.le_trans ih (by show cst _ ≤ 50 + 2 * cst _; omega)
theorem fB_at {r : Int} (h0 : 1 ≤ r) (h1 : r < 3) : atI [D.str "behind", D.str "ahead"] (r - 1) = some (.str (fB (decide (r = 1)))) := by
  have : r = 1 ∨ r = 2 := by omega
  rcases this with rfl | rfl <;> rfl
theorem fG_at {r : Int} (h0 : 3 ≤ r) (h1 : r < 5) : atI [D.str "givebehind", D.str "giveahead"] (r - 3) = some (.str (fG (decide (r = 3)))) := by
  have : r = 3 ∨ r = 4 := by omega
  rcases this with rfl | rfl <;> rfl
def conRead (n : Nat) : Con := fun args CQ _ => ∃ (N : Nat) (d : D) (m : Nat), args = [.b d, .v (.int m)] ∧ Good N d ∧ m ≤ n ∧ n ≤ 8 ∧ N + cst m ≤ 10 ^ 10 ∧ ∀ d' (r : Rd), Good (N + cst m) d' → r.ok → r.dep ≤ m → CQ (.v r.D) [.b d', .v (.int m)]
theorem b__law_reading {f fA fD fW : Addr} {fd : FuncData} (F : FunD K "_law_reading" "_law_reading" (defArgs s__law_reading) (defBody s__law_reading) (defScope s__law_reading) [] [] f fd) (hm : mg "_law_reading" = some (.ref f)) (c__law_dip : CalC P w K mg base 1 "_law_dip" fD conDip) (c__law_any_kind : CalC P w K mg base 6 "_law_any_kind" fA (conAny 4)) (c__law_width : CalC P w K mg base 9 "_law_width" fW (conWid 8)) : ∀ n : Nat, CalC P w K mg base (n + 9 + 1) "_law_reading" f (conRead n) := by
  refine calRec (c := 9) (calVac (ps := ["_law_well_here", "_law_deep"]) F hm (fun _ _ _ _ _ _ us hl => match us, hl with | [_, _], _ => rfl) fun args CQ CX h => h) fun n c__law_reading => ?_
  refine calD F hm sc__law_reading (fun args CQ CX h => ?_) (fun _ _ _ _ _ _ us hl => match us, hl with | [_, _], _ => rfl) (fun cdv A outer s H E hr => ⟨_, _, (svs_cons (sv_set 2 sc__law_reading.nd (ev_call c__law_dip hr (by omega) (by rfl) passC (ea_l 0 (ea_v ev_int ea_nil))))
      (svs_cons (sv_if (ew_or (et_eqS (ev 1) ev_int) (ew_or1 (et_eqS (ev 2) ev_int))).et
      (svs_one (sv_ret (ev_tup (el_cons ev_str el_nil)))) svs_nil)
      (svs_cons (sv_set 3 sc__law_reading.nd (ev_call c__law_reading hr (by omega) (by rfl) passC (ea_l 0 (ea_v (ev_sub (ev 1) ev_int) ea_nil))))
      (svs_cons (sv_if (et_lt (ev 2) ev_int)
      (svs_one (sv_ret (ev_tup (el_cons (ev_ix (EO.ev (eo_lst (el_cons ev_str (el_cons ev_str el_nil)))) (ev_sub (ev 2) ev_int)) (el_cons (ev 3) (el_cons (ev_call c__law_reading hr (by omega) (by rfl) passC (ea_l 0 (ea_v (ev_sub (ev_sub (ev 1) ev_int) (ev_call c__law_dip hr (by omega) (by rfl) passC (ea_l 0 (ea_v (ev 1) ea_nil)))) ea_nil))) el_nil)))))) svs_nil)
      (svs_cons (sv_if (et_lt (ev_call c__law_width hr (by omega) (by rfl) passC (ea_v (ev 3) ea_nil)) ev_int)
      (svs_one (sv_ret (ev 3))) svs_nil)
      (svs_one (sv_ret (ev_tup (el_cons (ev_ix (EO.ev (eo_lst (el_cons ev_str (el_cons ev_str el_nil)))) (ev_sub (ev 2) ev_int)) (el_cons (ev_call c__law_any_kind hr (by omega) (by rfl) passC (ea_l 0 (ea_v (ev_add ev_int (ev_call c__law_dip hr (by omega) (by rfl) passC (ea_l 0 (ea_v ev_int ea_nil)))) ea_nil))) (el_cons (ev 3) el_nil))))))))))), fun args CQ CX h => ?_⟩)
  · obtain ⟨N, d, m, rfl, _⟩ := h; rfl
  · obtain ⟨N, d, m, rfl, hG, hm, hn, hN, hQ⟩ := h
    have hc1 : 1 ≤ cst m := cst_mono (Nat.zero_le m)
    walk_at "dl"
    refine ⟨N, d, 5, rfl, hG, by omega, by decide, by decide, fun d1 r1 hG1 h10 h11 => ?_⟩
    walk_at "dl"
    cases m with
    | zero =>
      rw [if_pos (by simp)]
      exact hQ d1 .w (hG1.mono (by omega)) True.intro (Nat.le_refl _)
    | succ m =>
      have hc : cst (m + 1) = 50 + 2 * cst m := rfl
      rw [if_neg (by omega)]
      split
      · exact hQ d1 .w (hG1.mono (by omega)) True.intro (Nat.zero_le _)
      · cases n with
        | zero => omega
        | succ n =>
          refine ⟨N + 1, d1, m, by rw [show (((m + 1 : Nat) : Int) - 1) = (m : Int) from by omega], hG1, by omega, by omega, by omega, fun d2 r2 hG2 ho2 hd2 => ?_⟩
          walk_at "dl"
          split
          · rw [fB_at (by omega) (by omega)]
            refine ⟨_, rfl, ?_⟩
            try walk_at "dl"
            refine ⟨N + 1 + cst m, d2, (m + 1 : Nat), rfl, hG2, by omega, by omega, by omega, fun d3 r3 hG3 h30 h31 => ?_⟩
            walk_at "dl"
            have hcm : cst (((m : Int) + 1 - 1 - r3).toNat) ≤ cst m := cst_mono (by omega)
            refine ⟨N + 1 + cst m + 1, d3, ((m : Int) + 1 - 1 - r3).toNat, ?_, hG3, by omega, by omega, by omega, fun d4 r4 hG4 ho4 hd4 => ?_⟩
            · rw [Int.toNat_of_nonneg (by omega)]
              rfl
            walk_at "dl"
            exact hQ d4 (.n (decide (r1 = 1)) r2 r4) (hG4.mono (by omega)) ⟨ho2, ho4⟩ (by show max r2.dep r4.dep + 1 ≤ m + 1; omega)
          · refine ⟨r2, rfl, ho2, by omega, ?_⟩
            walk_at "dl"
            split
            · exact hQ d2 r2 (hG2.mono (by omega)) ho2 (by omega)
            · rw [fG_at (by omega) (by omega)]
              refine ⟨_, rfl, ?_⟩
              try walk_at "dl"
              refine ⟨N + 1 + cst m, d2, 4, rfl, hG2, by omega, by decide, by decide, fun d3 r3 hG3 h30 h31 => ?_⟩
              walk_at "dl"
              refine ⟨N + 1 + cst m + 1, d3, (1 + r3).toNat, ?_, hG3, by omega, by omega, by omega, by omega, fun d4 k4 hG4 h4 => ?_⟩
              · rw [Int.toNat_of_nonneg (by omega)]
              walk_at "dl"
              exact hQ d4 (.g (decide (r1 = 3)) k4 r2) (hG4.mono (by omega)) ⟨by omega, by omega, ho2⟩ (by show r2.dep + 1 ≤ m + 1; omega)
theorem sB_look (f : Bool) : lookD [Sum.inr (Str.ofString "behind"), Sum.inr (Str.ofString "ahead")] [D.str (S [32, 62, 32]), D.str (S [32, 60, 32])] (Sum.inr (fB f)) = some (.str (S (sB f))) := by cases f <;> rfl
theorem sG_at (f : Bool) : ixD (.str (fG f)) 4 = some (.str (S [sG f])) := by cases f <;> rfl
def conAtG {α : Type} (enc : α → D) (txt : α → List Nat) (Pp : α → List Nat → Prop) : Con := fun args CQ _ => ∃ (x : α) (l pre post : List Nat) (i : Int), args = [.v (.str (S l)), .v (.int i)] ∧ l = pre ++ (txt x ++ post) ∧ i = pre.length ∧ l.length ≤ 16777216 ∧ Pp x post ∧ CQ (.v (.tup [enc x, .int (i + (txt x).length)])) args
def conPair {α : Type} (enc : α → D) (txt : α → List Nat) (Pp : α → List Nat → Prop) (fR : Addr) : Con := fun args CQ _ => ∃ (f : Bool) (x y : α) (l pre post : List Nat) (i : Int), args = [.v (.str (S l)), .v (.int i), .v (.fn fR)] ∧ l = pre ++ (40 :: (txt x ++ (sB f ++ (txt y ++ (41 :: post))))) ∧ i = pre.length ∧ l.length ≤ 16777216 ∧
  Pp x (sB f ++ (txt y ++ (41 :: post))) ∧ Pp y (41 :: post) ∧ CQ (.v (.tup [.tup [.str (fB f), enc x, enc y], .int (i + 1 + (txt x).length + 3 + (txt y).length + 1)])) args
def conRSaid (n : Nat) : Con := fun args CQ _ => ∃ r : Rd, args = [.v r.D] ∧ r.ok ∧ r.dep ≤ n ∧ n ≤ 8 ∧ CQ (.v (.str (S r.s))) args
theorem b__law_reading_said {f fK : Addr} {fd : FuncData} (F : FunD K "_law_reading_said" "_law_reading_said" (defArgs s__law_reading_said) (defBody s__law_reading_said) (defScope s__law_reading_said) [] [] f fd) (hm : mg "_law_reading_said" = some (.ref f)) (c__law_kind_said : CalC P w K mg base 4 "_law_kind_said" fK (conSaid 3)) : ∀ n : Nat, CalC P w K mg base (n + 4 + 1) "_law_reading_said" f (conRSaid n) := by
  refine calRec (c := 4) (calVac (ps := ["_law_reading_here"]) F hm (fun _ _ _ _ _ _ us hl => match us, hl with | [_], _ => rfl) fun args CQ CX h => h) fun n c__law_reading_said => ?_
  refine calD F hm sc__law_reading_said (fun args CQ CX h => ?_) (fun _ _ _ _ _ _ us hl => match us, hl with | [_], _ => rfl) (fun cdv A outer s H E hr => ⟨_, _, (svs_cons (sv_set 1 sc__law_reading_said.nd (ev_ix (ev 0) ev_int))
      (svs_cons (sv_if (et_eqS (ev 1) ev_str)
      (svs_one (sv_ret ev_str)) svs_nil)
      (svs_cons (sv_if (et_inV (ev 1) (ev_tup (el_cons ev_str (el_cons ev_str el_nil))))
      (svs_one (sv_ret (ev_addS (ev_addS (ev_addS (ev_addS (ev_ix (ev 1) ev_int) ev_str) (ev_call c__law_kind_said hr (by omega) (by rfl) passC (ea_v (ev_ix (ev 0) ev_int) ea_nil))) ev_str) (ev_call c__law_reading_said hr (by omega) (by rfl) passC (ea_v (ev_ix (ev 0) ev_int) ea_nil))))) svs_nil)
      (svs_one (sv_ret (ev_addS (ev_addS (ev_addS (ev_addS ev_str (ev_call c__law_reading_said hr (by omega) (by rfl) passC (ea_v (ev_ix (ev 0) ev_int) ea_nil))) (ev_dget (hu_of hr) (EO.ev (eo_dct (eps_str ev_str (eps_str ev_str eps_nil)) (by decide) (by decide))) (ev 1))) (ev_call c__law_reading_said hr (by omega) (by rfl) passC (ea_v (ev_ix (ev 0) ev_int) ea_nil))) ev_str)))))), fun args CQ CX h => ?_⟩)
  · obtain ⟨k, rfl, _⟩ := h; rfl
  · obtain ⟨r, rfl, ho, hd, hn, hQ⟩ := h
    cases r with
    | w =>
      unfold Rd.D at *
      walk_at "dl"
      exact hQ
    | n f a b =>
      cases n with
      | zero => exact absurd hd (Nat.not_succ_le_zero _)
      | succ n =>
        have hd : max a.dep b.dep + 1 ≤ n + 1 := hd
        have la := Rd.len5 ho.1 (n := n) (by omega) (by omega)
        have lb := Rd.len5 ho.2 (n := n) (by omega) (by omega)
        unfold Rd.D at *
        walk_at "dl"
        rw [if_neg (fB_word f), fB_in, if_neg Bool.false_ne_true]
        refine ⟨a, rfl, ho.1, by omega, by omega, ?_⟩
        walk_at "dl"
        refine ⟨(line_of (by (try simp only [List.length_append, List.length_cons, List.length_nil, sB_len]); omega)), _, _, rfl, sB_look f, ?_⟩
        walk_at "dl"
        refine ⟨(line_of (by (try simp only [List.length_append, List.length_cons, List.length_nil, sB_len]); omega)), b, rfl, ho.2, by omega, by omega, ?_⟩
        walk_at "dl"
        rw [Rd.s_n] at hQ
        exact ⟨(line_of (by (try simp only [List.length_append, List.length_cons, List.length_nil, sB_len]); omega)), (line_of (by (try simp only [List.length_append, List.length_cons, List.length_nil, sB_len]); omega)), hQ⟩
    | g f k r =>
      cases n with
      | zero => exact absurd hd (Nat.not_succ_le_zero _)
      | succ n =>
        have hd : r.dep + 1 ≤ n + 1 := hd
        have la := Rd.len5 ho.2.2 (n := n) (by omega) (by omega)
        have hk := ho.1
        have lb := k.s_len
        have ld := k.dep_lt
        unfold Rd.D at *
        walk_at "dl"
        rw [if_neg (fG_word f), fG_in, if_pos rfl, sG_at]
        refine ⟨_, rfl, ?_⟩
        walk_at "dl"
        refine ⟨(line_of (by (try simp only [List.length_append, List.length_cons, List.length_nil, sB_len]); omega)), k, rfl, by omega, by omega, ?_⟩
        walk_at "dl"
        refine ⟨(line_of (by (try simp only [List.length_append, List.length_cons, List.length_nil, sB_len]); omega)), (line_of (by (try simp only [List.length_append, List.length_cons, List.length_nil, sB_len]); omega)), r, rfl, ho.2.2, by omega, by omega, ?_⟩
        walk_at "dl"
        rw [Rd.s_g] at hQ
        exact ⟨(line_of (by (try simp only [List.length_append, List.length_cons, List.length_nil, sB_len]); omega)), hQ⟩
theorem b_show_reading {f fK : Addr} {fd : FuncData} (F : FunD K "show_reading" "show_reading" (defArgs s_show_reading) (defBody s_show_reading) (defScope s_show_reading) [] [] f fd) (hm : mg "show_reading" = some (.ref f)) (c_show_kind : CalC P w K mg base 4 "show_kind" fK (conSaid 3)) : ∀ n : Nat, CalC P w K mg base (n + 4 + 1) "show_reading" f (conRSaid n) := by
  refine calRec (c := 4) (calVac (ps := ["reading"]) F hm (fun _ _ _ _ _ _ us hl => match us, hl with | [_], _ => rfl) fun args CQ CX h => h) fun n c_show_reading => ?_
  refine calD F hm sc_show_reading (fun args CQ CX h => ?_) (fun _ _ _ _ _ _ us hl => match us, hl with | [_], _ => rfl) (fun cdv A outer s H E hr => ⟨_, _, (svs_cons (sv_set 1 sc_show_reading.nd (ev_ix (ev 0) ev_int))
      (svs_cons (sv_if (et_eqS (ev 1) ev_str)
      (svs_one (sv_ret ev_str)) svs_nil)
      (svs_cons (sv_if (et_eqS (ev 1) ev_str)
      (svs_one (sv_ret (ev_addS (ev_addS (ev_addS (ev_addS ev_str (ev_call c_show_reading hr (by omega) (by rfl) passC (ea_v (ev_ix (ev 0) ev_int) ea_nil))) ev_str) (ev_call c_show_reading hr (by omega) (by rfl) passC (ea_v (ev_ix (ev 0) ev_int) ea_nil))) ev_str))) svs_nil)
      (svs_cons (sv_if (et_eqS (ev 1) ev_str)
      (svs_one (sv_ret (ev_addS (ev_addS (ev_addS (ev_addS ev_str (ev_call c_show_reading hr (by omega) (by rfl) passC (ea_v (ev_ix (ev 0) ev_int) ea_nil))) ev_str) (ev_call c_show_reading hr (by omega) (by rfl) passC (ea_v (ev_ix (ev 0) ev_int) ea_nil))) ev_str))) svs_nil)
      (svs_cons (sv_set 2 sc_show_reading.nd (ev_if (et_eqS (ev 1) ev_str) ev_str ev_str))
      (svs_one (sv_ret (ev_addS (ev_addS (ev_addS (ev_addS (ev 2) ev_str) (ev_call c_show_kind hr (by omega) (by rfl) passC (ea_v (ev_ix (ev 0) ev_int) ea_nil))) ev_str) (ev_call c_show_reading hr (by omega) (by rfl) passC (ea_v (ev_ix (ev 0) ev_int) ea_nil)))))))))), fun args CQ CX h => ?_⟩)
  · obtain ⟨k, rfl, _⟩ := h; rfl
  · obtain ⟨r, rfl, ho, hd, hn, hQ⟩ := h
    cases r with
    | w =>
      unfold Rd.D at *
      walk_at "dl"
      exact hQ
    | n f a b =>
      cases n with
      | zero => exact absurd hd (Nat.not_succ_le_zero _)
      | succ n =>
        have hd : max a.dep b.dep + 1 ≤ n + 1 := hd
        have la := Rd.len5 ho.1 (n := n) (by omega) (by omega)
        have lb := Rd.len5 ho.2 (n := n) (by omega) (by omega)
        unfold Rd.D at *
        walk_at "dl"
        rw [if_neg (fB_word f)]
        cases f with
        | true =>
          rw [if_pos (by decide)]
          refine ⟨a, rfl, ho.1, by omega, by omega, ?_⟩
          walk_at "dl"
          refine ⟨(line_of (by (try simp only [List.length_append, List.length_cons, List.length_nil, sB_len]); omega)), (line_of (by (try simp only [List.length_append, List.length_cons, List.length_nil, sB_len]); omega)), b, rfl, ho.2, by omega, by omega, ?_⟩
          walk_at "dl"
          rw [Rd.s_n] at hQ
          exact ⟨(line_of (by (try simp only [List.length_append, List.length_cons, List.length_nil, sB_len]); omega)), (line_of (by (try simp only [List.length_append, List.length_cons, List.length_nil, sB_len]); omega)), hQ⟩
        | false =>
          rw [if_neg (by decide), if_pos (by decide)]
          refine ⟨a, rfl, ho.1, by omega, by omega, ?_⟩
          walk_at "dl"
          refine ⟨(line_of (by (try simp only [List.length_append, List.length_cons, List.length_nil, sB_len]); omega)), (line_of (by (try simp only [List.length_append, List.length_cons, List.length_nil, sB_len]); omega)), b, rfl, ho.2, by omega, by omega, ?_⟩
          walk_at "dl"
          rw [Rd.s_n] at hQ
          exact ⟨(line_of (by (try simp only [List.length_append, List.length_cons, List.length_nil, sB_len]); omega)), (line_of (by (try simp only [List.length_append, List.length_cons, List.length_nil, sB_len]); omega)), hQ⟩
    | g f k r =>
      cases n with
      | zero => exact absurd hd (Nat.not_succ_le_zero _)
      | succ n =>
        have hd : r.dep + 1 ≤ n + 1 := hd
        have la := Rd.len5 ho.2.2 (n := n) (by omega) (by omega)
        have hk := ho.1
        have lb := k.s_len
        have ld := k.dep_lt
        have e1 : ¬ fG f = Str.ofString "behind" := by cases f <;> decide
        have e2 : ¬ fG f = Str.ofString "ahead" := by cases f <;> decide
        unfold Rd.D at *
        walk_at "dl"
        rw [if_neg (fG_word f), if_neg e1, if_neg e2]
        rw [Rd.s_g] at hQ
        cases f with
        | true =>
          rw [if_pos (by decide)]
          refine ⟨(line_of (by (try simp only [List.length_append, List.length_cons, List.length_nil, sB_len]); omega)), k, rfl, by omega, by omega, ?_⟩
          walk_at "dl"
          refine ⟨(line_of (by (try simp only [List.length_append, List.length_cons, List.length_nil, sB_len]); omega)), (line_of (by (try simp only [List.length_append, List.length_cons, List.length_nil, sB_len]); omega)), r, rfl, ho.2.2, by omega, by omega, ?_⟩
          walk_at "dl"
          exact ⟨(line_of (by (try simp only [List.length_append, List.length_cons, List.length_nil, sB_len]); omega)), hQ⟩
        | false =>
          rw [if_neg (by decide)]
          refine ⟨(line_of (by (try simp only [List.length_append, List.length_cons, List.length_nil, sB_len]); omega)), k, rfl, by omega, by omega, ?_⟩
          walk_at "dl"
          refine ⟨(line_of (by (try simp only [List.length_append, List.length_cons, List.length_nil, sB_len]); omega)), (line_of (by (try simp only [List.length_append, List.length_cons, List.length_nil, sB_len]); omega)), r, rfl, ho.2.2, by omega, by omega, ?_⟩
          walk_at "dl"
          exact ⟨(line_of (by (try simp only [List.length_append, List.length_cons, List.length_nil, sB_len]); omega)), hQ⟩
theorem b_pair_at {α : Type} {enc : α → D} {txt : α → List Nat} {Pp : α → List Nat → Prop} {f fR : Addr} {fd : FuncData} {k : Nat} (F : FunD K "pair_at" "pair_at" (defArgs s_pair_at) (defBody s_pair_at) (defScope s_pair_at) [] [] f fd) (hm : mg "pair_at" = some (.ref f)) (c_pair_at_reader : CalF P w K mg base k fR (conAtG enc txt Pp)) : CalC P w K mg base (k + 1) "pair_at" f (conPair enc txt Pp fR) := by
  refine calD F hm sc_pair_at (fun args CQ CX h => ?_) (fun _ _ _ _ _ _ us hl => match us, hl with | [_, _, _], _ => rfl) (fun cdv A outer s H E hr => ⟨_, _, (svs_cons (sv_set 3 sc_pair_at.nd (ev_callV 2 c_pair_at_reader hr (by omega) passC (ea_v (ev 0) (ea_v (ev_add (ev 1) ev_int) ea_nil))))
      (svs_cons (sv_if (et_isN (ev 3) ev_non)
      (svs_one (sv_ret ev_non)) svs_nil)
      (svs_cons (sv_set 4 sc_pair_at.nd (ev_slS (ev 0) (ep_some (ev_ix (ev 3) ev_int)) (ep_some (ev_add (ev_ix (ev 3) ev_int) ev_int))))
      (svs_cons (sv_if (et_niV (ev 4) (ev_tup (el_cons ev_str (el_cons ev_str el_nil))))
      (svs_one (sv_ret ev_non)) svs_nil)
      (svs_cons (sv_set 5 sc_pair_at.nd (ev_callV 2 c_pair_at_reader hr (by omega) passC (ea_v (ev 0) (ea_v (ev_add (ev_ix (ev 3) ev_int) ev_int) ea_nil))))
      (svs_cons (sv_if (ew_or (et_isN (ev 5) ev_non) (ew_or1 (et_neS (ev_slS (ev 0) (ep_some (ev_ix (ev 5) ev_int)) (ep_some (ev_add (ev_ix (ev 5) ev_int) ev_int))) ev_str))).et
      (svs_one (sv_ret ev_non)) svs_nil)
      (svs_one (sv_ret (ev_tup (el_cons (ev_tup (el_cons (ev_if (et_eqS (ev 4) ev_str) ev_str ev_str) (el_cons (ev_ix (ev 3) ev_int) (el_cons (ev_ix (ev 5) ev_int) el_nil)))) (el_cons (ev_add (ev_ix (ev 5) ev_int) ev_int) el_nil))))))))))), fun args CQ CX h => ?_⟩)
  · obtain ⟨b, x, y, l, pre, post, i, rfl, _⟩ := h; rfl
  · obtain ⟨b, x, y, l, pre, post, i, rfl, hl, hi, hz, p1, p2, hQ⟩ := h
    walk_at "dl"
    refine ⟨x, l, pre ++ [40], sB b ++ (txt y ++ (41 :: post)), _, rfl, by rw [hl]; simp, by simp; omega, hz, p1, ?_⟩
    walk_at "dl"
    have e1 : cutS (S l) (some (i + 1 + (txt x).length)) (some (i + 1 + (txt x).length + 3)) = S (sB b) := cut_at (mid := sB b) (pre := pre ++ (40 :: txt x)) (post := txt y ++ (41 :: post)) (by rw [hl]; simp) (by simp; omega) (by rw [sB_len]; rfl)
    have e2 : inV (.str (S (sB b))) [V.str (S [32, 62, 32]), V.str (S [32, 60, 32])] = true := by cases b <;> decide
    rw [e1, e2]
    refine ⟨line_of hz, ?_⟩
    rw [if_neg (by decide)]
    refine ⟨y, l, pre ++ (40 :: (txt x ++ sB b)), 41 :: post, _, rfl, by rw [hl]; simp, by simp [sB_len]; omega, hz, p2, ?_⟩
    walk_at "dl"
    have e3 : cutS (S l) (some (i + 1 + (txt x).length + 3 + (txt y).length)) (some (i + 1 + (txt x).length + 3 + (txt y).length + 1)) = S [41] := cut_at (mid := [41]) (pre := pre ++ (40 :: (txt x ++ (sB b ++ txt y)))) (post := post) (by rw [hl]; simp) (by simp [sB_len]; omega) rfl
    rw [e3]
    refine ⟨line_of hz, ?_⟩
    rw [if_neg (by simp)]
    cases b with
    | true =>
      rw [if_pos (by decide)]
      exact hQ
    | false =>
      rw [if_neg (by decide)]
      exact hQ
def PR : Nat → Rd → List Nat → Prop
  | 0 => fun _ _ => False
  | n + 1 => fun r _ => r.ok ∧ r.dep ≤ n
def conGive (n : Nat) : Con := fun args CQ _ => ∃ (f : Bool) (k : Kd) (r : Rd) (l pre post : List Nat) (i : Int), args = [.v (.str (S l)), .v (.int i)] ∧ l = pre ++ ((Rd.g f k r).s ++ post) ∧ i = pre.length ∧ l.length ≤ 16777216 ∧ k.dep ≤ 3 ∧ PR n r post ∧ CQ (.v (.tup [(Rd.g f k r).D, .int (i + (Rd.g f k r).s.length)])) args
theorem b_give_at {f fK fR : Addr} {fd : FuncData} {j : Nat} (F : FunD K "give_at" "give_at" (defArgs s_give_at) (defBody s_give_at) (defScope s_give_at) [] [] f fd) (hm : mg "give_at" = some (.ref f)) (c_kind_at : CalC P w K mg base 4 "kind_at" fK (conKindAt 3)) (n : Nat) (c_reading_at : CalC P w K mg base (j + 4) "reading_at" fR (conAtG Rd.D Rd.s (PR n))) : CalC P w K mg base (j + 5) "give_at" f (conGive n) := by
  refine calD F hm sc_give_at (fun args CQ CX h => ?_) (fun _ _ _ _ _ _ us hl => match us, hl with | [_, _], _ => rfl) (fun cdv A outer s H E hr => ⟨_, _, (svs_cons (sv_set 2 sc_give_at.nd (ev_call c_kind_at hr (by omega) (by rfl) passC (ea_v (ev 0) (ea_v (ev_add (ev 1) ev_int) ea_nil))))
      (svs_cons (sv_if (ew_or (et_isN (ev 2) ev_non) (ew_or1 (et_neS (ev_slS (ev 0) (ep_some (ev_ix (ev 2) ev_int)) (ep_some (ev_add (ev_ix (ev 2) ev_int) ev_int))) ev_str))).et
      (svs_one (sv_ret ev_non)) svs_nil)
      (svs_cons (sv_set 3 sc_give_at.nd (ev_call c_reading_at hr (by omega) (by rfl) passC (ea_v (ev 0) (ea_v (ev_add (ev_ix (ev 2) ev_int) ev_int) ea_nil))))
      (svs_cons (sv_if (et_isN (ev 3) ev_non)
      (svs_one (sv_ret ev_non)) svs_nil)
      (svs_cons (sv_set 4 sc_give_at.nd (ev_if (et_eqS (ev_ix (ev 0) (ev 1)) ev_str) ev_str ev_str))
      (svs_one (sv_ret (ev_tup (el_cons (ev_tup (el_cons (ev 4) (el_cons (ev_ix (ev 2) ev_int) (el_cons (ev_ix (ev 3) ev_int) el_nil)))) (el_cons (ev_ix (ev 3) ev_int) el_nil)))))))))), fun args CQ CX h => ?_⟩)
  · obtain ⟨b, k, r, l, pre, post, i, rfl, _⟩ := h; rfl
  · obtain ⟨b, k, r, l, pre, post, i, rfl, hl, hi, hz, hk, hr, hQ⟩ := h
    have hl : l = pre ++ (sG b :: 91 :: (k.s ++ (93 :: (r.s ++ post)))) := by rw [hl]; simp [Rd.s]
    have hlen : (Rd.g b k r).s.length = k.s.length + r.s.length + 3 := by simp [Rd.s]; omega
    walk_at "dl"
    refine ⟨k, l, pre ++ [sG b, 91], 93 :: (r.s ++ post), _, rfl, by rw [hl]; simp, by simp; omega, hz, hk, ?_⟩
    walk_at "dl"
    have e1 : cutS (S l) (some (i + 2 + k.s.length)) (some (i + 2 + k.s.length + 1)) = S [93] := cut_at (mid := [93]) (pre := pre ++ (sG b :: 91 :: k.s)) (post := r.s ++ post) (by rw [hl]; simp) (by simp; omega) rfl
    rw [e1]
    refine ⟨line_of hz, ?_⟩
    rw [if_neg (by simp)]
    refine ⟨r, l, pre ++ (sG b :: 91 :: (k.s ++ [93])), post, _, rfl, by rw [hl]; simp, by simp; omega, hz, hr, ?_⟩
    walk_at "dl"
    have e2 : ixD (.str (S l)) i = some (.str (S [sG b])) := at_S hl hi (line_of hz)
    have e3 : i + ((Rd.g b k r).s.length : Int) = i + 2 + k.s.length + 1 + r.s.length := by rw [hlen]; omega
    rw [e2]
    rw [e3] at hQ
    refine ⟨_, rfl, ?_⟩
    walk_at "dl"
    cases b with
    | true =>
      rw [if_pos (by decide)]
      exact hQ
    | false =>
      rw [if_neg (by decide)]
      exact hQ
theorem b_reading_at {f fK fP fG : Addr} {fdP fdG fd : FuncData} (F : FunD K "reading_at" "reading_at" (defArgs s_reading_at) (defBody s_reading_at) (defScope s_reading_at) [] [] f fd) (hm : mg "reading_at" = some (.ref f)) (FP : FunD K "pair_at" "pair_at" (defArgs s_pair_at) (defBody s_pair_at) (defScope s_pair_at) [] [] fP fdP) (hmP : mg "pair_at" = some (.ref fP)) (FG : FunD K "give_at" "give_at" (defArgs s_give_at) (defBody s_give_at) (defScope s_give_at) [] [] fG fdG) (hmG : mg "give_at" = some (.ref fG))
    (c_kind_at : CalC P w K mg base 4 "kind_at" fK (conKindAt 3)) : ∀ n : Nat, CalC P w K mg base (2 * n + 4) "reading_at" f (conAtG Rd.D Rd.s (PR n))
  | 0 => calVac (ps := ["text", "at"]) F hm (fun _ _ _ _ _ _ us hl => match us, hl with | [_, _], _ => rfl) fun args CQ CX ⟨_, _, _, _, _, _, _, _, _, h, _⟩ => h
  | n + 1 => by
    have c_reading_at := b_reading_at F hm FP hmP FG hmG c_kind_at n
    have c_pair_at := b_pair_at (enc := Rd.D) (txt := Rd.s) (Pp := PR n) FP hmP c_reading_at.toF
    have c_give_at := b_give_at FG hmG c_kind_at n c_reading_at
    refine calD F hm sc_reading_at (fun args CQ CX h => ?_) (fun _ _ _ _ _ _ us hl => match us, hl with | [_, _], _ => rfl) (fun cdv A outer s H E hr => ⟨_, _, (svs_cons (sv_set 2 sc_reading_at.nd (ev_slS (ev 0) (ep_some (ev 1)) (ep_some (ev_add (ev 1) ev_int))))
      (svs_cons (sv_if (et_eqS (ev 2) ev_str)
      (svs_one (sv_ret (ev_tup (el_cons (ev_tup (el_cons ev_str el_nil)) (el_cons (ev_add (ev 1) ev_int) el_nil))))) svs_nil)
      (svs_cons (sv_if (et_eqS (ev 2) ev_str)
      (svs_one (sv_ret (ev_call c_pair_at hr (by omega) (by rfl) passC (ea_v (ev 0) (ea_v (ev 1) (ea_v (ev_globF (by rfl) c_reading_at.hm) ea_nil)))))) svs_nil)
      (svs_one (sv_ret (ev_if (et_inV (ev_slS (ev 0) (ep_some (ev 1)) (ep_some (ev_add (ev 1) ev_int))) (ev_tup (el_cons ev_str (el_cons ev_str el_nil)))) (ev_call c_give_at hr (by omega) (by rfl) passC (ea_v (ev 0) (ea_v (ev 1) ea_nil))) ev_non)))))), fun args CQ CX h => ?_⟩)
    · obtain ⟨r, l, pre, post, i, rfl, _⟩ := h; rfl
    · obtain ⟨r, l, pre, post, i, rfl, hl, hi, hz, hp, hQ⟩ := h
      obtain ⟨ho, hd⟩ := (show r.ok ∧ r.dep ≤ n from hp)
      cases r with
      | w =>
        walk_at "dl"
        have e1 : cutS (S l) (some i) (some (i + 1)) = S [42] := cut_at (mid := [42]) hl hi rfl
        rw [e1]
        refine ⟨line_of hz, ?_⟩
        rw [if_pos (by decide)]
        exact hQ
      | n b x y =>
        cases n with
        | zero => exact absurd hd (Nat.not_succ_le_zero _)
        | succ n =>
          have hd : max x.dep y.dep + 1 ≤ n + 1 := hd
          have hl : l = pre ++ (40 :: (x.s ++ (sB b ++ (y.s ++ (41 :: post))))) := by rw [hl]; simp [Rd.s]
          have hlen : (Rd.n b x y).s.length = x.s.length + y.s.length + 5 := by simp [Rd.s, sB_len]; omega
          walk_at "dl"
          have e1 : cutS (S l) (some i) (some (i + 1)) = S [40] := cut_at (mid := [40]) hl hi rfl
          rw [e1]
          refine ⟨line_of hz, ?_⟩
          rw [if_neg (by decide), if_pos (by decide)]
          refine ⟨b, x, y, l, pre, post, i, rfl, hl, hi, hz, ⟨ho.1, by omega⟩, ⟨ho.2, by omega⟩, ?_⟩
          walk_at "dl"
          have e3 : i + ((Rd.n b x y).s.length : Int) = i + 1 + x.s.length + 3 + y.s.length + 1 := by rw [hlen]; omega
          rw [e3] at hQ
          exact hQ
      | g b k r =>
        cases n with
        | zero => exact absurd hd (Nat.not_succ_le_zero _)
        | succ n =>
          have hd : r.dep + 1 ≤ n + 1 := hd
          have hk := ho.1
          have ld := k.dep_lt
          have hl' : l = pre ++ ([sG b] ++ (91 :: (k.s ++ (93 :: (r.s ++ post))))) := by rw [hl]; simp [Rd.s]
          have hl2 : l = pre ++ ([sG b, 91] ++ (k.s ++ (93 :: (r.s ++ post)))) := by rw [hl]; simp [Rd.s]
          walk_at "dl"
          have e1 : cutS (S l) (some i) (some (i + 1)) = S [sG b] := cut_at (mid := [sG b]) hl' hi rfl
          have e2 : cutS (S l) (some i) (some (i + 2)) = S [sG b, 91] := cut_at (mid := [sG b, 91]) hl2 hi rfl
          have e3 : inV (.str (S [sG b, 91])) [V.str (S [98, 91]), V.str (S [97, 91])] = true := by cases b <;> decide
          rw [e1, e2, e3]
          refine ⟨line_of hz, ?_⟩
          rw [if_neg (by cases b <;> decide), if_neg (by cases b <;> decide)]
          refine ⟨line_of hz, ?_⟩
          rw [if_pos rfl]
          refine ⟨b, k, r, l, pre, post, i, rfl, hl, hi, hz, by omega, ⟨ho.2.2, by omega⟩, ?_⟩
          walk_at "dl"
          exact hQ
def conReadR (n : Nat) : Con := fun args CQ _ => ∃ r : Rd, args = [.v (.str (S r.s))] ∧ r.ok ∧ r.dep ≤ n ∧ n ≤ 8 ∧ CQ (.v r.D) args
theorem b_read_reading {f fR fW fX : Addr} {fd : FuncData} (n : Nat) (F : FunD K "read_reading" "read_reading" (defArgs s_read_reading) (defBody s_read_reading) (defScope s_read_reading) [] [] f fd) (hm : mg "read_reading" = some (.ref f)) (c_reading_at : CalC P w K mg base (2 * (n + 1) + 4) "reading_at" fR (conAtG Rd.D Rd.s (PR (n + 1)))) (c_whole : CalC P w K mg base 1 "whole" fW conWhole) (c_widths_right : CalC P w K mg base (n + 1) "widths_right" fX (conWid n)) : CalC P w K mg base (2 * (n + 1) + 5) "read_reading" f (conReadR n) := by
  refine calD F hm sc_read_reading (fun args CQ CX h => ?_) (fun _ _ _ _ _ _ us hl => match us, hl with | [_], _ => rfl) (fun cdv A outer s H E hr => ⟨_, _, (svs_cons (sv_set 1 sc_read_reading.nd (ev_call c_whole hr (by omega) (by rfl) passC (ea_v (ev_call c_reading_at hr (by omega) (by rfl) passC (ea_v (ev 0) (ea_v ev_int ea_nil))) (ea_v (ev 0) ea_nil))))
      (svs_cons (sv_if (et_isN (ev_call c_widths_right hr (by omega) (by rfl) passC (ea_v (ev 1) ea_nil)) ev_non)
      (svs_one sv_never) svs_nil)
      (svs_one (sv_ret (ev 1))))), fun args CQ CX h => ?_⟩)
  · obtain ⟨k, rfl, _⟩ := h; rfl
  · obtain ⟨r, rfl, ho, hd, hn, hQ⟩ := h
    have la := Rd.len5 ho hd hn
    walk_at "dl"
    refine ⟨r, r.s, [], [], 0, rfl, by simp, rfl, by omega, ⟨ho, hd⟩, ?_⟩
    walk_at "dl"
    refine ⟨r.D, r.s, by rw [Int.zero_add], by omega, ?_⟩
    walk_at "dl"
    refine ⟨r, rfl, ho, hd, ?_⟩
    walk_at "dl"
    exact hQ
end
end K54

set_option Elab.async false
set_option linter.all false
set_option autoImplicit false
set_option maxRecDepth 100000
set_option maxHeartbeats 1000000
namespace K54
open PySem PySem.Spec PyProof.Rows L2 DL
local macro_rules | `(tactic| walk_at "dl") => `(tactic| simp -dsimp only [↓wSeq, ↓wAsg, ↓wName, ↓wVar, ↓wC, ↓w2, ↓DL.wT, ↓wAnd, ↓wOr, ↓DL.wNot, ↓wAndV, ↓wOrV, ↓wNotV, ↓wIf, ↓fI, ↓fI0, ↓fB0, ↓scD, ↓fEqS, ↓fNeS, ↓fAddS, ↓fInC, ↓fNiC, ↓D.fv, ↓D.fvs, ↓seqD, ↓fInV, ↓D.isN, ↓fIsN, ↓fNotN, ↓wNilL, ↓wConsL, ↓wStarL, ↓wTup, ↓wLst, ↓fIx, ↓Sl.d, ↓wPeek, ↓wNoP, ↓wPart, ↓wSl, ↓fSlS, ↓fSlL, ↓fSlT, ↓wCat, ↓wCB, ↓wCN, ↓fLen, ↓fInt, ↓fAbs, ↓fMax2, ↓fMin2, ↓fStrI, ↓fList, ↓D.tyn, ↓fIsi, ↓wiLst, ↓wiTup, ↓wiStr, ↓wiRng1, ↓wiRng2, ↓wiEnu, ↓wiZip, ↓free, ↓nb_un, ↓nb_v, ↓nb_o, ↓wGTup, ↓wGNil, ↓wGCons, ↓wipeR, ↓DL.rest, ↓noOwn, ↓wTurn, ↓wLc, ↓wYes, ↓wNext, ↓wNever, ↓wDrop, ↓wRet, ↓wRetO, ↓wRetN, ↓wGive, ↓wSetO, ↓wAugI, ↓wPar, ↓known, ↓wSetIx, ↓wIfS, ↓wStep, ↓wFor, ↓dEnds, ↓merge, ↓wANil, ↓wAV, ↓wAL, ↓arS, ↓argS, ↓hasL, ↓ndL, ↓Sl.up, ↓putB, ↓wCall, ↓wCallO, ↓wCallV, ↓keyD, ↓fDGet, ↓fAny, ↓fAll, ↓wDct, ↓fKdIx, ↓fKdIn, ↓wJoin, ↓wSplit, ↓isL, ↓wAppend, ↓atI_lit, ↓ixN_lit, List.getElem?_cons_zero, List.getElem?_cons_succ, List.getElem?_nil, List.set_cons_zero, List.set_cons_succ, List.cons_append, List.nil_append, List.length_cons, List.length_nil, List.replicate_succ, List.replicate_zero, List.all_cons, List.all_nil, List.getD_cons_zero, List.getD_cons_succ, Option.some.injEq, Sl.v.injEq, D.fn.injEq, Option.bind_some, Option.isSome_some, Option.isSome_none, Option.map_none, Option.map_some, ne_eq, not_false_eq_true, reduceCtorEq, and_self, true_and, and_true, exists_eq_left', exists_eq_left, exists_eq_right, Bool.and_true, Bool.true_and, Bool.not_false, Bool.not_true, if_true, if_false, decide_eq_true_eq, Bool.false_eq_true, Nat.reduceAdd, Nat.reduceSub, Nat.reduceLeDiff, Nat.reduceLT, Int.reduceToNat, Int.toNat_natCast, decide_true, decide_false, kit_tuple_tuple, kit_tuple_list, kit_tuple_str, kit_tuple_int, kit_tuple_bool, kit_list_tuple, kit_list_list, kit_list_str, kit_list_int, kit_list_bool, kit_str_tuple, kit_str_list, kit_str_str, kit_str_int, kit_str_bool, kit_int_tuple, kit_int_list, kit_int_str, kit_int_int, kit_int_bool, kit_bool_tuple, kit_bool_list, kit_bool_str, kit_bool_int, kit_bool_bool, l40, l41, l42, l91, l93, l97, l98, lgt, llt, lco, lb9, la9, l0, SX.S_cat, SX.S_len, S_eq_iff, List.map_cons, List.map_nil, List.length_map, lenD_lst, lenD_tup, lenD_scr, List.set, ixD_lst, ixD_tup, ixD_scr])
section
variable {P : Program} {w : World} {K : PySem.W.Frag} {mg : Str → Option Value} {base : Heap}

theorem sc__law_word : FnScope ["_law_well_here", "_law_menu", "_law_turn"] ["_law_well_here"] (defScope s__law_word) := ⟨rfl, rfl, rfl, by decide +kernel, rfl, by decide +kernel, by decide +kernel⟩
theorem sc__law_tree : FnScope ["_law_well_here", "_law_many", "_law_cut"] ["_law_well_here", "_law_many"] (defScope s__law_tree) := ⟨rfl, rfl, rfl, by decide +kernel, rfl, by decide +kernel, by decide +kernel⟩
theorem sc__law_tree_said : FnScope ["_law_tree_here"] ["_law_tree_here"] (defScope s__law_tree_said) := ⟨rfl, rfl, rfl, by decide +kernel, rfl, by decide +kernel, by decide +kernel⟩
theorem sc_show_tree : FnScope ["tree", "between"] ["tree"] (defScope s_show_tree) := ⟨rfl, rfl, rfl, by decide +kernel, rfl, by decide +kernel, by decide +kernel⟩
theorem sc_read_name : FnScope ["text", "sign"] ["text"] (defScope s_read_name) := ⟨rfl, rfl, rfl, by decide +kernel, rfl, by decide +kernel, by decide +kernel⟩
theorem sc_tree_at : FnScope ["text", "at", "end", "word"] ["text", "at"] (defScope s_tree_at) := ⟨rfl, rfl, rfl, by decide +kernel, rfl, by decide +kernel, by decide +kernel⟩
theorem sc_read_tree : FnScope ["text"] ["text"] (defScope s_read_tree) := ⟨rfl, rfl, rfl, by decide +kernel, rfl, by decide +kernel, by decide +kernel⟩
/-- a word: its letters -/
abbrev Wd := List (Fin 26)
def Wd.s (w : Wd) : List Nat := w.map fun c => 97 + c.val
def Wd.ok (w : Wd) : Prop := w ≠ [] ∧ w.length ≤ 8
inductive Tr where
  | leaf (w : Wd)
  | n (f : Bool) (a b : Tr)
def Tr.D : Tr → D
  | .leaf w => .tup [.str "leaf", .str (S w.s)]
  | .n f a b => .tup [.str (fB f), a.D, b.D]
def Tr.s : Tr → List Nat
  | .leaf w => w.s
  | .n f a b => 40 :: (a.s ++ (sB f ++ (b.s ++ [41])))
def Tr.size : Tr → Nat
  | .leaf _ => 1
  | .n _ a b => a.size + b.size
def Tr.dep : Tr → Nat
  | .leaf _ => 0
  | .n _ a b => max a.dep b.dep + 1
def Tr.ok : Tr → Prop
  | .leaf w => w.ok
  | .n _ a b => a.ok ∧ b.ok
theorem Tr.size_pos : ∀ t : Tr, 1 ≤ t.size
  | .leaf _ => Nat.le_refl _
  | .n _ a b => Nat.le_trans a.size_pos (Nat.le_add_right _ _)
theorem Tr.dep_lt : ∀ t : Tr, t.dep < t.size
  | .leaf _ => Nat.lt_succ_self 0
  | .n _ a b => by
    have h1 := a.dep_lt; have h2 := b.dep_lt; have h3 := a.size_pos; have h4 := b.size_pos
    show max a.dep b.dep + 1 < a.size + b.size
    omega
theorem Wd.s_len (w : Wd) : w.s.length = w.length := List.length_map ..
theorem Tr.s_n (f : Bool) (a b : Tr) : (Tr.n f a b).s = [40] ++ a.s ++ sB f ++ b.s ++ [41] := by simp [Tr.s]
theorem Tr.len_le : ∀ {t : Tr}, t.ok → t.s.length + 5 ≤ 13 * t.size
  | .leaf w, h => by
    have := h.2
    show w.s.length + 5 ≤ 13 * 1
    rw [Wd.s_len]; omega
  | .n f a b, h => by
    have h1 := Tr.len_le h.1; have h2 := Tr.len_le h.2
    rw [Tr.s_n]
    simp only [List.length_append, List.length_cons, List.length_nil, sB_len]
    show _ ≤ 13 * (a.size + b.size)
    omega
theorem fB_leaf (f : Bool) : ¬ fB f = Str.ofString "leaf" := by cases f <;> decide
def conWord : Con := fun args CQ _ => ∃ (N : Nat) (d : D), args = [.b d] ∧ Good N d ∧ N < 10 ^ 11 ∧ ∀ d' (w : Wd), Good (N + 12) d' → w.ok → CQ (.v (.str (S w.s))) [.b d']
theorem b__law_word {f fD : Addr} {fd : FuncData} (F : FunD K "_law_word" "_law_word" (defArgs s__law_word) (defBody s__law_word) (defScope s__law_word) [] [] f fd) (hm : mg "_law_word" = some (.ref f)) (c__law_dip : CalC P w K mg base 1 "_law_dip" fD conDip) (m_range : mg "range" = none) : CalC P w K mg base 2 "_law_word" f conWord := by
  refine calD F hm sc__law_word (fun args CQ CX h => ?_) (fun _ _ _ _ _ _ us hl => match us, hl with | [_], _ => rfl) (fun cdv A outer s H E hr => ⟨_, _, (svs_cons (sv_setO 1 sc__law_word.nd (eo_cat (EO.ev (eo_lst (el_cons ev_str (el_cons ev_str (el_cons ev_str (el_cons ev_str el_nil)))))) (EO.ev (eo_lst (el_cons (ev_join ev_str (EO.ev (eo_lc rfl sc__law_word.nd (own := [("_law_turn", 2)]) (ei_rng1 (by rfl) m_range ev_int) (by kernel_rfl) (by decide) (fun _ _ _ _ _ => (eg_name 2 sc__law_word.nd)) (fun _ _ _ _ _ => ets_nil) (fun _ _ _ _ _ => (ev_ix (K := K) ev_str (ev_call (K := K) c__law_dip hr (by omega) (by rfl) passL (ea_l 0 (ea_v ev_int ea_nil)))))))) el_nil)))))
      (svs_one (sv_ret (ev_if (et_eqS (ev_call c__law_dip hr (by omega) (by rfl) passC (ea_l 0 (ea_v ev_int ea_nil))) ev_int) (ev_ix (ev 1) (ev_call c__law_dip hr (by omega) (by rfl) passC (ea_l 0 (ea_v ev_int ea_nil)))) (ev_slS (ev_ix (ev 1) ev_int) ep_none (ep_some (ev_add ev_int (ev_call c__law_dip hr (by omega) (by rfl) passC (ea_l 0 (ea_v ev_int ea_nil)))))))))), fun args CQ CX h => ?_⟩)
  · obtain ⟨N, d, rfl, _⟩ := h; rfl
  · obtain ⟨N, d, rfl, hG, hN, hQ⟩ := h
    walk_at "dl"
    refine ⟨by decide, by decide, by rw [rngD_length]; decide, items_by (fun i acc ρ => ∃ (d' : D) (ws : Wd), ρ = [.b d', .un, .un] ∧ Good (N + i) d' ∧ ws.length = i ∧ acc = ws.map fun c => .str (S [97 + c.val])) ⟨d, [], rfl, hG, rfl, rfl⟩ (fun i e acc ρ K' hd h ky kn => ?_) fun acc ρ h => ?_⟩
    · obtain ⟨d', ws, rfl, hG', hl, rfl⟩ := h
      obtain ⟨rfl, hi⟩ := rng_get hd
      walk_at "dl"
      refine ⟨N + i, d', 26, rfl, hG', by omega, by decide, by decide, fun d2 r hG2 h0 h1 => ?_⟩
      walk_at "dl"
      rw [abc_at h0 h1]
      exact ⟨_, rfl, ky _ _ ⟨d2, ws ++ [⟨r.toNat, by omega⟩], rfl, hG2, by rw [List.length_append, hl]; rfl, by rw [List.map_append]; rfl⟩⟩
    · obtain ⟨d', ws, rfl, hG', hl, rfl⟩ := h
      rw [rngD_length] at hG' hl
      walk_at "dl"
      refine ⟨_, _, rfl, strsD_of (fun c : Fin 26 => S [97 + c.val]) ws, ?_, ?_⟩
      · have : ∀ xs : Wd, ((xs.map fun c => S [97 + c.val]).map (·.length)).sum = xs.length := by
          intro xs
          induction xs with
          | nil => rfl
          | cons x xs ih => rw [List.map_cons, List.map_cons, List.sum_cons, ih, SX.S_len, List.length_cons, List.length_cons]; simp; omega
        rw [this, hl, List.length_map]
        simp
      have ej : Txt.join (Str.ofString "") (ws.map fun c => S [97 + c.val]) = S (Wd.s ws) := (join_of [] (fun c : Fin 26 => [97 + c.val]) ws).trans (congrArg S (joinL_nil (fun c : Fin 26 => 97 + c.val) ws))
      rw [ej]
      refine ⟨N + 8, d', 6, rfl, hG', by omega, by decide, by decide, fun d2 r2 hG2 h20 h21 => ?_⟩
      walk_at "dl"
      split
      · refine ⟨N + 8 + 1, d2, 4, rfl, hG2, by omega, by decide, by decide, fun d3 r3 hG3 h30 h31 => ?_⟩
        walk_at "dl"
        have h4 : r3 = 0 ∨ r3 = 1 ∨ r3 = 2 ∨ r3 = 3 := by omega
        rcases h4 with rfl | rfl | rfl | rfl
        · exact ⟨_, rfl, hQ d3 [13, 14, 13, 4] (hG3.mono (by omega)) ⟨by decide, by decide⟩⟩
        · exact ⟨_, rfl, hQ d3 [19, 14] (hG3.mono (by omega)) ⟨by decide, by decide⟩⟩
        · exact ⟨_, rfl, hQ d3 [1] (hG3.mono (by omega)) ⟨by decide, by decide⟩⟩
        · exact ⟨_, rfl, hQ d3 [0] (hG3.mono (by omega)) ⟨by decide, by decide⟩⟩
      · refine ⟨N + 8 + 1, d2, 8, rfl, hG2, by omega, by decide, by decide, fun d3 r3 hG3 h30 h31 => ?_⟩
        walk_at "dl"
        have hwl : (Wd.s ws).length = 8 := (Wd.s_len ws).trans hl
        have ec : cutS (S (Wd.s ws)) none (some (1 + r3)) = S (Wd.s (ws.take (1 + r3).toNat)) := by
          rw [cut_to (k := (1 + r3).toNat) (by omega) (by omega)]
          exact congrArg S (List.map_take ..).symm
        rw [ec]
        refine ⟨line_of (by omega), hQ d3 _ (hG3.mono (by omega)) ⟨fun e => ?_, ?_⟩⟩
        · have := congrArg List.length e
          rw [List.length_take, hl, List.length_nil] at this
          omega
        · rw [List.length_take, hl]; omega
def cT (m : Nat) : Nat := 20 * m
def conTree (n : Nat) : Con := fun args CQ _ => ∃ (N : Nat) (d : D) (m : Nat), args = [.b d, .v (.int m)] ∧ Good N d ∧ 1 ≤ m ∧ m ≤ n ∧ m ≤ 1000 ∧ N + 20 * m ≤ 10 ^ 10 ∧ ∀ d' (t : Tr), Good (N + (20 * m - 5)) d' → t.ok → t.size ≤ m → CQ (.v t.D) [.b d', .v (.int m)]
theorem b__law_tree {f fD fW : Addr} {fd : FuncData} (F : FunD K "_law_tree" "_law_tree" (defArgs s__law_tree) (defBody s__law_tree) (defScope s__law_tree) [] [] f fd) (hm : mg "_law_tree" = some (.ref f)) (c__law_dip : CalC P w K mg base 1 "_law_dip" fD conDip) (c__law_word : CalC P w K mg base 2 "_law_word" fW conWord) : ∀ n : Nat, CalC P w K mg base (n + 2) "_law_tree" f (conTree n)
  | 0 => calVac (ps := ["_law_well_here", "_law_many"]) F hm (fun _ _ _ _ _ _ us hl => match us, hl with | [_, _], _ => rfl) fun args CQ CX h => by
    obtain ⟨N, d, m, _, _, h1, h2, _⟩ := h
    omega
  | n + 1 => by
    have c__law_tree := b__law_tree F hm c__law_dip c__law_word n
    refine calD F hm sc__law_tree (fun args CQ CX h => ?_) (fun _ _ _ _ _ _ us hl => match us, hl with | [_, _], _ => rfl) (fun cdv A outer s H E hr => ⟨_, _, (svs_cons (sv_if (et_eqS (ev 1) ev_int)
      (svs_one (sv_ret (ev_tup (el_cons ev_str (el_cons (ev_call c__law_word hr (by omega) (by rfl) passC (ea_l 0 ea_nil)) el_nil))))) svs_nil)
      (svs_cons (sv_set 2 sc__law_tree.nd (ev_add ev_int (ev_call c__law_dip hr (by omega) (by rfl) passC (ea_l 0 (ea_v (ev_sub (ev 1) ev_int) ea_nil)))))
      (svs_one (sv_ret (ev_tup (el_cons (ev_ix (EO.ev (eo_lst (el_cons ev_str (el_cons ev_str el_nil)))) (ev_call c__law_dip hr (by omega) (by rfl) passC (ea_l 0 (ea_v ev_int ea_nil)))) (el_cons (ev_call c__law_tree hr (by omega) (by rfl) passC (ea_l 0 (ea_v (ev 2) ea_nil))) (el_cons (ev_call c__law_tree hr (by omega) (by rfl) passC (ea_l 0 (ea_v (ev_sub (ev 1) (ev 2)) ea_nil))) el_nil)))))))), fun args CQ CX h => ?_⟩)
    · obtain ⟨N, d, m, rfl, _⟩ := h; rfl
    · obtain ⟨N, d, m, rfl, hG, hm1, hmn, hm2, hN, hQ⟩ := h
      walk_at "dl"
      split
      · refine ⟨N, d, rfl, hG, by omega, fun d1 w1 hG1 ho1 => ?_⟩
        walk_at "dl"
        exact hQ d1 (.leaf w1) (hG1.mono (by omega)) ho1 (by show 1 ≤ m; omega)
      · refine ⟨N, d, (m : Int) - 1, rfl, hG, by omega, by omega, by omega, fun d1 r1 hG1 h10 h11 => ?_⟩
        walk_at "dl"
        refine ⟨N + 1, d1, 2, rfl, hG1, by omega, by decide, by decide, fun d2 r2 hG2 h20 h21 => ?_⟩
        walk_at "dl"
        have e2 := fB_at (r := r2 + 1) (by omega) (by omega)
        rw [show r2 + 1 - 1 = r2 from by omega] at e2
        rw [e2]
        refine ⟨_, rfl, ?_⟩
        try walk_at "dl"
        refine ⟨N + 1 + 1, d2, (1 + r1).toNat, ?_, hG2, by omega, by omega, by omega, by omega, fun d3 t3 hG3 ho3 h3 => ?_⟩
        · rw [Int.toNat_of_nonneg (by omega)]
        walk_at "dl"
        refine ⟨_, d3, ((m : Int) - (1 + r1)).toNat, ?_, hG3, by omega, by omega, by omega, by omega, fun d4 t4 hG4 ho4 h4 => ?_⟩
        · rw [Int.toNat_of_nonneg (by omega)]
        walk_at "dl"
        exact hQ d4 (.n (decide (r2 + 1 = 1)) t3 t4) (hG4.mono (by omega)) ⟨ho3, ho4⟩ (by show t3.size + t4.size ≤ m; omega)
def conTSaid (n : Nat) : Con := fun args CQ _ => ∃ t : Tr, args = [.v t.D] ∧ t.ok ∧ t.dep ≤ n ∧ t.size ≤ 1000 ∧ CQ (.v (.str (S t.s))) args
theorem b__law_tree_said {f : Addr} {fd : FuncData} (F : FunD K "_law_tree_said" "_law_tree_said" (defArgs s__law_tree_said) (defBody s__law_tree_said) (defScope s__law_tree_said) [] [] f fd) (hm : mg "_law_tree_said" = some (.ref f)) : ∀ n : Nat, CalC P w K mg base (n + 1) "_law_tree_said" f (conTSaid n) := by
  refine calRec (c := 0) (calVac (ps := ["_law_tree_here"]) F hm (fun _ _ _ _ _ _ us hl => match us, hl with | [_], _ => rfl) fun args CQ CX h => h) fun n c__law_tree_said => ?_
  refine calD F hm sc__law_tree_said (fun args CQ CX h => ?_) (fun _ _ _ _ _ _ us hl => match us, hl with | [_], _ => rfl) (fun cdv A outer s H E hr => ⟨_, _, (svs_cons (sv_if (et_eqS (ev_ix (ev 0) ev_int) ev_str)
      (svs_one (sv_ret (ev_ix (ev 0) ev_int))) svs_nil)
      (svs_one (sv_ret (ev_addS (ev_addS (ev_addS (ev_addS ev_str (ev_call c__law_tree_said hr (by omega) (by rfl) passC (ea_v (ev_ix (ev 0) ev_int) ea_nil))) (ev_dget (hu_of hr) (EO.ev (eo_dct (eps_str ev_str (eps_str ev_str eps_nil)) (by decide) (by decide))) (ev_ix (ev 0) ev_int))) (ev_call c__law_tree_said hr (by omega) (by rfl) passC (ea_v (ev_ix (ev 0) ev_int) ea_nil))) ev_str)))), fun args CQ CX h => ?_⟩)
  · obtain ⟨k, rfl, _⟩ := h; rfl
  · obtain ⟨r, rfl, ho, hd, hs, hQ⟩ := h
    cases r with
    | leaf w =>
      unfold Tr.D at *
      walk_at "dl"
      exact hQ
    | n f a b =>
      cases n with
      | zero => exact absurd hd (Nat.not_succ_le_zero _)
      | succ n =>
        have hd : max a.dep b.dep + 1 ≤ n + 1 := hd
        have hs : a.size + b.size ≤ 1000 := hs
        have la := Tr.len_le ho.1
        have lb := Tr.len_le ho.2
        unfold Tr.D at *
        walk_at "dl"
        rw [if_neg (fB_leaf f)]
        refine ⟨a, rfl, ho.1, by omega, by omega, ?_⟩
        walk_at "dl"
        refine ⟨(line_of (by (try simp only [List.length_append, List.length_cons, List.length_nil, sB_len]); omega)), _, _, rfl, sB_look f, ?_⟩
        walk_at "dl"
        refine ⟨(line_of (by (try simp only [List.length_append, List.length_cons, List.length_nil, sB_len]); omega)), b, rfl, ho.2, by omega, by omega, ?_⟩
        walk_at "dl"
        rw [Tr.s_n] at hQ
        exact ⟨(line_of (by (try simp only [List.length_append, List.length_cons, List.length_nil, sB_len]); omega)), (line_of (by (try simp only [List.length_append, List.length_cons, List.length_nil, sB_len]); omega)), hQ⟩
theorem b_show_tree {f : Addr} {fd : FuncData} (F : FunD K "show_tree" "show_tree" (defArgs s_show_tree) (defBody s_show_tree) (defScope s_show_tree) [] [] f fd) (hm : mg "show_tree" = some (.ref f)) : ∀ n : Nat, CalC P w K mg base (n + 1) "show_tree" f (conTSaid n) := by
  refine calRec (c := 0) (calVac (ps := ["tree"]) F hm (fun _ _ _ _ _ _ us hl => match us, hl with | [_], _ => rfl) fun args CQ CX h => h) fun n c_show_tree => ?_
  refine calD F hm sc_show_tree (fun args CQ CX h => ?_) (fun _ _ _ _ _ _ us hl => match us, hl with | [_], _ => rfl) (fun cdv A outer s H E hr => ⟨_, _, (svs_cons (sv_if (et_eqS (ev_ix (ev 0) ev_int) ev_str)
      (svs_one (sv_ret (ev_ix (ev 0) ev_int))) svs_nil)
      (svs_cons (sv_set 1 sc_show_tree.nd (ev_if (et_eqS (ev_ix (ev 0) ev_int) ev_str) ev_str ev_str))
      (svs_one (sv_ret (ev_addS (ev_addS (ev_addS (ev_addS ev_str (ev_call c_show_tree hr (by omega) (by rfl) passC (ea_v (ev_ix (ev 0) ev_int) ea_nil))) (ev 1)) (ev_call c_show_tree hr (by omega) (by rfl) passC (ea_v (ev_ix (ev 0) ev_int) ea_nil))) ev_str))))), fun args CQ CX h => ?_⟩)
  · obtain ⟨k, rfl, _⟩ := h; rfl
  · obtain ⟨r, rfl, ho, hd, hs, hQ⟩ := h
    cases r with
    | leaf w =>
      unfold Tr.D at *
      walk_at "dl"
      exact hQ
    | n f a b =>
      cases n with
      | zero => exact absurd hd (Nat.not_succ_le_zero _)
      | succ n =>
        have hd : max a.dep b.dep + 1 ≤ n + 1 := hd
        have hs : a.size + b.size ≤ 1000 := hs
        have la := Tr.len_le ho.1
        have lb := Tr.len_le ho.2
        rw [Tr.s_n] at hQ
        unfold Tr.D at *
        walk_at "dl"
        rw [if_neg (fB_leaf f)]
        cases f with
        | true =>
          rw [if_pos (by decide)]
          refine ⟨a, rfl, ho.1, by omega, by omega, ?_⟩
          walk_at "dl"
          refine ⟨(line_of (by (try simp only [List.length_append, List.length_cons, List.length_nil, sB_len]); omega)), (line_of (by (try simp only [List.length_append, List.length_cons, List.length_nil, sB_len]); omega)), b, rfl, ho.2, by omega, by omega, ?_⟩
          walk_at "dl"
          exact ⟨(line_of (by (try simp only [List.length_append, List.length_cons, List.length_nil, sB_len]); omega)), (line_of (by (try simp only [List.length_append, List.length_cons, List.length_nil, sB_len]); omega)), hQ⟩
        | false =>
          rw [if_neg (by decide)]
          refine ⟨a, rfl, ho.1, by omega, by omega, ?_⟩
          walk_at "dl"
          refine ⟨(line_of (by (try simp only [List.length_append, List.length_cons, List.length_nil, sB_len]); omega)), (line_of (by (try simp only [List.length_append, List.length_cons, List.length_nil, sB_len]); omega)), b, rfl, ho.2, by omega, by omega, ?_⟩
          walk_at "dl"
          exact ⟨(line_of (by (try simp only [List.length_append, List.length_cons, List.length_nil, sB_len]); omega)), (line_of (by (try simp only [List.length_append, List.length_cons, List.length_nil, sB_len]); omega)), hQ⟩
def conName : Con := fun args CQ _ => ∃ w : Wd, args = [.v (.str (S w.s))] ∧ w.ok ∧ CQ (.v (.str (S w.s))) args
theorem b_read_name {f : Addr} {fd : FuncData} (F : FunD K "read_name" "read_name" (defArgs s_read_name) (defBody s_read_name) (defScope s_read_name) [] [] f fd) (hm : mg "read_name" = some (.ref f)) (m_LETTERS : ∃ t, mg "LETTERS" = some (.str LET t)) (m_MOST_LETTERS : ∃ t, mg "MOST_LETTERS" = some (.int 8 t)) (m_len : mg "len" = none) (m_all : mg "all" = none) : CalC P w K mg base 1 "read_name" f conName := by
  refine calD F hm sc_read_name (fun args CQ CX h => ?_) (fun _ _ _ _ _ _ us hl => match us, hl with | [_], _ => rfl) (fun cdv A outer s H E hr => ⟨_, _, (svs_cons (sv_if (ew_or (et_eqS (ev 0) ev_str) (ew_or (et_gt (ev_len m_len (ev 0)) (ev_globI (by rfl) m_MOST_LETTERS)) (ew_or1 (et_not (et_val (ev_all rfl m_all (EO.ev (eo_lc rfl sc_read_name.nd (own := [("sign", 1)]) (ei_str (ev 0)) (by kernel_rfl) (by decide) (fun _ _ _ _ _ => (eg_name 1 sc_read_name.nd)) (fun _ _ _ _ _ => ets_nil) (fun _ _ _ _ _ => (ev_inC (ev 1) (ev_globS (by rfl) m_LETTERS))))))))))).et
      (svs_one (sv_ret ev_non)) svs_nil)
      (svs_one (sv_ret (ev 0)))), fun args CQ CX h => ?_⟩)
  · obtain ⟨k, rfl, _⟩ := h; rfl
  · obtain ⟨ww, rfl, ho, hQ⟩ := h
    have hl := ww.s_len
    have hne : ¬ ww.s = [] := fun e => ho.1 (by have := congrArg List.length e; rw [hl] at this; exact List.eq_nil_of_length_eq_zero this)
    have h8 := ho.2
    have hs : sgnD (S ww.s) = ww.map fun c => .str (S [97 + c.val]) := by
      show (ww.map fun c : Fin 26 => 97 + c.val).map (fun c => D.str ⟨#[c]⟩) = _
      rw [List.map_map]
      rfl
    walk_at "dl"
    rw [if_neg hne, hs]
    refine ⟨_, lenD_S (by omega), ?_⟩
    rw [if_neg (by omega)]
    refine ⟨by rw [List.length_map]; omega, items_map (fun _ => .bl true) (fun c K' hc hK => ?_) ?_⟩
    · walk_at "dl"
      refine ⟨_, rfl, ?_⟩
      rw [decide_eq_true (let_in c)]
      exact hK
    · walk_at "dl"
      refine ⟨_, blsD_of (fun _ => true) ww, ?_⟩
      have e : (ww.map fun _ => true).all id = true := by simp
      rw [e]
      walk_at "dl"
      exact hQ
def stopT (post : List Nat) : Prop := post = [] ∨ ∃ c q, post = c :: q ∧ ¬ c ∈ LET.cps.toList
def PT : Nat → Tr → List Nat → Prop
  | 0 => fun _ _ => False
  | n + 1 => fun t post => t.ok ∧ t.dep ≤ n ∧ stopT post
theorem out41 : ¬ 41 ∈ LET.cps.toList := by decide +kernel
theorem out32 : ¬ 32 ∈ LET.cps.toList := by decide +kernel
theorem b_tree_at {f fP fN : Addr} {fdP fd : FuncData} (F : FunD K "tree_at" "tree_at" (defArgs s_tree_at) (defBody s_tree_at) (defScope s_tree_at) [] [] f fd) (hm : mg "tree_at" = some (.ref f)) (FP : FunD K "pair_at" "pair_at" (defArgs s_pair_at) (defBody s_pair_at) (defScope s_pair_at) [] [] fP fdP) (hmP : mg "pair_at" = some (.ref fP)) (c_read_name : CalC P w K mg base 1 "read_name" fN conName) (m_len : mg "len" = none)
    (m_LETTERS : ∃ t, mg "LETTERS" = some (.str LET t)) : ∀ n : Nat, CalC P w K mg base (2 * n + 1) "tree_at" f (conAtG Tr.D Tr.s (PT n))
  | 0 => calVac (ps := ["text", "at"]) F hm (fun _ _ _ _ _ _ us hl => match us, hl with | [_, _], _ => rfl) fun args CQ CX ⟨_, _, _, _, _, _, _, _, _, h, _⟩ => h
  | n + 1 => by
    have c_tree_at := b_tree_at F hm FP hmP c_read_name m_len m_LETTERS n
    have c_pair_at := b_pair_at (enc := Tr.D) (txt := Tr.s) (Pp := PT n) FP hmP c_tree_at.toF
    refine calD F hm sc_tree_at (fun args CQ CX h => ?_) (fun _ _ _ _ _ _ us hl => match us, hl with | [_, _], _ => rfl) (fun cdv A outer s H E hr => ⟨_, _, (svs_cons (sv_if (et_eqS (ev_slS (ev 0) (ep_some (ev 1)) (ep_some (ev_add (ev 1) ev_int))) ev_str)
      (svs_one (sv_ret (ev_call c_pair_at hr (by omega) (by rfl) passC (ea_v (ev 0) (ea_v (ev 1) (ea_v (ev_globF (by rfl) c_tree_at.hm) ea_nil)))))) svs_nil)
      (svs_cons (sv_set 2 sc_tree_at.nd (ev 1))
      (svs_cons (sv_while ownsC (ew_and (et_lt (ev 2) (ev_len m_len (ev 0))) (ew_and1 (et_inC (ev_ix (ev 0) (ev 2)) (ev_globS (by rfl) m_LETTERS)))).et (svs_one (sv_augI 2 ip_add sc_tree_at.nd ev_int)))
      (svs_cons (sv_set 3 sc_tree_at.nd (ev_call c_read_name hr (by omega) (by rfl) passC (ea_v (ev_slS (ev 0) (ep_some (ev 1)) (ep_some (ev 2))) ea_nil)))
      (svs_one (sv_ret (ev_if (et_isN (ev 3) ev_non) ev_non (ev_tup (el_cons (ev_tup (el_cons ev_str (el_cons (ev 3) el_nil))) (el_cons (ev 2) el_nil)))))))))), fun args CQ CX h => ?_⟩)
    · obtain ⟨r, l, pre, post, i, rfl, _⟩ := h; rfl
    · obtain ⟨t, l, pre, post, i, rfl, hl, hi, hz, hp, hQ⟩ := h
      obtain ⟨ho, hd, hst⟩ := (show t.ok ∧ t.dep ≤ n ∧ stopT post from hp)
      cases t with
      | n b x y =>
        cases n with
        | zero => exact absurd hd (Nat.not_succ_le_zero _)
        | succ n =>
          have hd : max x.dep y.dep + 1 ≤ n + 1 := hd
          have hl : l = pre ++ (40 :: (x.s ++ (sB b ++ (y.s ++ (41 :: post))))) := by rw [hl]; simp [Tr.s]
          have hlen : (Tr.n b x y).s.length = x.s.length + y.s.length + 5 := by simp [Tr.s, sB_len]; omega
          walk_at "dl"
          have e1 : cutS (S l) (some i) (some (i + 1)) = S [40] := cut_at (mid := [40]) hl hi rfl
          rw [e1]
          refine ⟨line_of hz, ?_⟩
          rw [if_pos (by decide)]
          refine ⟨b, x, y, l, pre, post, i, rfl, hl, hi, hz, ⟨ho.1, by omega, .inr ?_⟩, ⟨ho.2, by omega, .inr ⟨41, post, rfl, out41⟩⟩, ?_⟩
          · cases b
            · exact ⟨32, _, rfl, out32⟩
            · exact ⟨32, _, rfl, out32⟩
          walk_at "dl"
          have e3 : i + ((Tr.n b x y).s.length : Int) = i + 1 + x.s.length + 3 + y.s.length + 1 := by rw [hlen]; omega
          rw [e3] at hQ
          exact hQ
      | leaf ww =>
        have hwl := ww.s_len
        have hl : l = pre ++ (ww.s ++ post) := hl
        have hc : ∃ c w', ww = c :: w' := by
          cases ww with
          | nil => exact absurd rfl ho.1
          | cons c w' => exact ⟨c, w', rfl⟩
        obtain ⟨c0, w0, e0⟩ := hc
        walk_at "dl"
        have e1 : cutS (S l) (some i) (some (i + 1)) = S [97 + c0.val] := cut_at (mid := [97 + c0.val]) (post := Wd.s w0 ++ post) (by rw [hl, e0]; rfl) hi rfl
        rw [e1]
        refine ⟨line_of hz, ?_⟩
        have ne0 : ¬ S [97 + c0.val] = S [40] := fun e => by
          have := SX.S_inj e
          simp at this
          omega
        split
        · rename_i h
          exact absurd (of_decide_eq_true h) ne0
        · skip
          refine wh_by (fun m ρ => ∃ k : Nat, k + m = ww.length ∧ ρ = [.v (.str (S l)), .v (.int i), .v (.int (i + k)), .un]) ww.length ⟨0, by omega, by simp⟩ fun m ρ K' hP hK => ?_
          obtain ⟨k, hk, rfl⟩ := hP
          walk_at "dl"
          refine ⟨_, lenD_S hz, ?_⟩
          have hll : l.length = pre.length + (ww.length + post.length) := by rw [hl, List.length_append, List.length_append, hwl]
          cases m with
          | zero =>
            obtain rfl : k = ww.length := by omega
            have ec : cutS (S l) (some i) (some (i + ww.length)) = S ww.s := cut_at (mid := ww.s) hl hi (by rw [hwl])
            rw [ec]
            have fin : ∀ {A B : Prop}, (CQ (.v (.tup [.tup [.str "leaf", .str (S ww.s)], .int (i + ww.length)])) [.v (.str (S l)), .v (.int i)] → A) → A := fun h => h (by
              have : (Tr.leaf ww).s.length = ww.length := hwl
              rw [this] at hQ
              exact hQ)
            split
            · rename_i hlt
              have hpost : ∃ c q, post = c :: q ∧ ¬ c ∈ LET.cps.toList := by
                rcases hst with e | e
                · rw [e, List.length_nil] at hll; omega
                · exact e
              obtain ⟨c, q, rfl, hcn⟩ := hpost
              have e4 : ixD (.str (S l)) (i + ww.length) = some (.str (S [c])) := at_S (pre := pre ++ ww.s) (post := q) (by rw [hl, List.append_assoc]) (by rw [List.length_append, hwl]; omega) (line_of hz)
              rw [e4]
              refine ⟨_, rfl, c, rfl, ?_⟩
              rw [if_neg hcn]
              refine ⟨line_of hz, ww, rfl, ho, ?_⟩
              walk_at "dl"
              exact fin (A := _) (B := True) id
            · refine ⟨line_of hz, ww, rfl, ho, ?_⟩
              walk_at "dl"
              exact fin (A := _) (B := True) id
          | succ m =>
            have hkl : k < ww.length := by omega
            rw [if_pos (by omega)]
            have hks : k < ww.s.length := by omega
            have e5 : ww.s = ww.s.take k ++ ((97 + ww[k].val) :: ww.s.drop (k + 1)) := by
              have h1 := List.take_append_drop k ww.s
              rw [List.drop_eq_getElem_cons hks] at h1
              have h2 : ww.s[k] = 97 + ww[k].val := List.getElem_map ..
              rw [h2] at h1
              exact h1.symm
            have e4 : ixD (.str (S l)) (i + k) = some (.str (S [97 + ww[k].val])) := at_S (pre := pre ++ ww.s.take k) (post := ww.s.drop (k + 1) ++ post) (by
              rw [List.append_assoc, ← List.cons_append, ← List.append_assoc (ww.s.take k), ← e5]
              exact hl) (by rw [List.length_append, List.length_take]; omega) (line_of hz)
            rw [e4]
            refine ⟨_, rfl, _, rfl, ?_⟩
            rw [if_pos (let_in _)]
            exact hK m _ (Nat.lt_succ_self m) ⟨k + 1, by omega, by rw [show ((k + 1 : Nat) : Int) = (k : Int) + 1 from by omega, Int.add_assoc]⟩
def conReadT (n : Nat) : Con := fun args CQ _ => ∃ t : Tr, args = [.v (.str (S t.s))] ∧ t.ok ∧ t.dep ≤ n ∧ t.size ≤ 1000 ∧ CQ (.v t.D) args
theorem b_read_tree {f fR fW : Addr} {fd : FuncData} (n : Nat) (F : FunD K "read_tree" "read_tree" (defArgs s_read_tree) (defBody s_read_tree) (defScope s_read_tree) [] [] f fd) (hm : mg "read_tree" = some (.ref f)) (c_tree_at : CalC P w K mg base (2 * (n + 1) + 1) "tree_at" fR (conAtG Tr.D Tr.s (PT (n + 1)))) (c_whole : CalC P w K mg base 1 "whole" fW conWhole) : CalC P w K mg base (2 * (n + 1) + 2) "read_tree" f (conReadT n) := by
  refine calD F hm sc_read_tree (fun args CQ CX h => ?_) (fun _ _ _ _ _ _ us hl => match us, hl with | [_], _ => rfl) (fun cdv A outer s H E hr => ⟨_, _, (svs_one (sv_ret (ev_call c_whole hr (by omega) (by rfl) passC (ea_v (ev_call c_tree_at hr (by omega) (by rfl) passC (ea_v (ev 0) (ea_v ev_int ea_nil))) (ea_v (ev 0) ea_nil))))), fun args CQ CX h => ?_⟩)
  · obtain ⟨k, rfl, _⟩ := h; rfl
  · obtain ⟨t, rfl, ho, hd, hs, hQ⟩ := h
    have la := Tr.len_le ho
    walk_at "dl"
    refine ⟨t, t.s, [], [], 0, rfl, by simp, rfl, by omega, ⟨ho, hd, .inl rfl⟩, ?_⟩
    walk_at "dl"
    refine ⟨t.D, t.s, by rw [Int.zero_add], by omega, ?_⟩
    walk_at "dl"
    exact hQ
end
end K54

set_option Elab.async false
set_option linter.all false
set_option autoImplicit false
set_option maxRecDepth 100000
set_option maxHeartbeats 1000000
namespace K54
open PySem PySem.Spec PyProof.Rows L2 DL
local macro_rules | `(tactic| walk_at "dl") => `(tactic| simp -dsimp only [↓wSeq, ↓wAsg, ↓wName, ↓wVar, ↓wC, ↓w2, ↓DL.wT, ↓wAnd, ↓wOr, ↓DL.wNot, ↓wAndV, ↓wOrV, ↓wNotV, ↓wIf, ↓fI, ↓fI0, ↓fB0, ↓scD, ↓fEqS, ↓fNeS, ↓fAddS, ↓fInC, ↓fNiC, ↓D.fv, ↓D.fvs, ↓seqD, ↓fInV, ↓D.isN, ↓fIsN, ↓fNotN, ↓wNilL, ↓wConsL, ↓wStarL, ↓wTup, ↓wLst, ↓fIx, ↓Sl.d, ↓wPeek, ↓wNoP, ↓wPart, ↓wSl, ↓fSlS, ↓fSlL, ↓fSlT, ↓wCat, ↓wCB, ↓wCN, ↓fLen, ↓fInt, ↓fAbs, ↓fMax2, ↓fMin2, ↓fStrI, ↓fList, ↓D.tyn, ↓fIsi, ↓wiLst, ↓wiTup, ↓wiStr, ↓wiRng1, ↓wiRng2, ↓wiEnu, ↓wiZip, ↓free, ↓nb_un, ↓nb_v, ↓nb_o, ↓wGTup, ↓wGNil, ↓wGCons, ↓wipeR, ↓DL.rest, ↓noOwn, ↓wTurn, ↓wLc, ↓wYes, ↓wNext, ↓wNever, ↓wDrop, ↓wRet, ↓wRetO, ↓wRetN, ↓wGive, ↓wSetO, ↓wAugI, ↓wPar, ↓known, ↓wSetIx, ↓wIfS, ↓wStep, ↓wFor, ↓dEnds, ↓merge, ↓wANil, ↓wAV, ↓wAL, ↓arS, ↓argS, ↓hasL, ↓ndL, ↓Sl.up, ↓putB, ↓wCall, ↓wCallO, ↓wCallV, ↓keyD, ↓fDGet, ↓fAny, ↓fAll, ↓wDct, ↓fKdIx, ↓fKdIn, ↓wJoin, ↓wSplit, ↓isL, ↓wAppend, ↓atI_lit, ↓ixN_lit, List.getElem?_cons_zero, List.getElem?_cons_succ, List.getElem?_nil, List.set_cons_zero, List.set_cons_succ, List.cons_append, List.nil_append, List.length_cons, List.length_nil, List.replicate_succ, List.replicate_zero, List.all_cons, List.all_nil, List.getD_cons_zero, List.getD_cons_succ, Option.some.injEq, Sl.v.injEq, D.fn.injEq, Option.bind_some, Option.isSome_some, Option.isSome_none, Option.map_none, Option.map_some, ne_eq, not_false_eq_true, reduceCtorEq, and_self, true_and, and_true, exists_eq_left', exists_eq_left, exists_eq_right, Bool.and_true, Bool.true_and, Bool.not_false, Bool.not_true, if_true, if_false, decide_eq_true_eq, Bool.false_eq_true, Nat.reduceAdd, Nat.reduceSub, Nat.reduceLeDiff, Nat.reduceLT, Int.reduceToNat, Int.toNat_natCast, decide_true, decide_false, kit_tuple_tuple, kit_tuple_list, kit_tuple_str, kit_tuple_int, kit_tuple_bool, kit_list_tuple, kit_list_list, kit_list_str, kit_list_int, kit_list_bool, kit_str_tuple, kit_str_list, kit_str_str, kit_str_int, kit_str_bool, kit_int_tuple, kit_int_list, kit_int_str, kit_int_int, kit_int_bool, kit_bool_tuple, kit_bool_list, kit_bool_str, kit_bool_int, kit_bool_bool, l40, l41, l42, l91, l93, l97, l98, lgt, llt, lco, lb9, la9, l0, SX.S_cat, SX.S_len, S_eq_iff, List.map_cons, List.map_nil, List.length_map, lenD_lst, lenD_tup, lenD_scr, List.set, ixD_lst, ixD_tup, ixD_scr])
section
variable {P : Program} {w : World} {K : PySem.W.Frag} {mg : Str → Option Value} {base : Heap}

theorem sc__law_same : FnScope ["_law_told", "_law_due", "_law_kind", "_law_spot"] ["_law_told", "_law_due"] (defScope s__law_same) := ⟨rfl, rfl, rfl, by decide +kernel, rfl, by decide +kernel, by decide +kernel⟩
theorem sc__law_kinds_right : FnScope ["_law_well_here", "_law_kind", "_law_line", "_law_turn", "_law_said", "_law_handed", "_law_longer", "_law_back"] ["_law_well_here"] (defScope s__law_kinds_right) := ⟨rfl, rfl, rfl, by decide +kernel, rfl, by decide +kernel, by decide +kernel⟩
theorem sc__law_others_right : FnScope ["_law_well_here", "_law_reading_here", "_law_tree_here", "_law_said"] ["_law_well_here"] (defScope s__law_others_right) := ⟨rfl, rfl, rfl, by decide +kernel, rfl, by decide +kernel, by decide +kernel⟩
theorem sc_law : FnScope ["_law_script", "_law_spot", "_law_well_here", "_law_turn"] ["_law_script"] (defScope s_law) := ⟨rfl, rfl, rfl, by decide +kernel, rfl, by decide +kernel, by decide +kernel⟩
inductive Nice : Nat → D → Prop
  | str (n : Nat) (s : Str) : Nice n (.str s)
  | int (n : Nat) (i : Int) : Nice n (.int i)
  | tup (n : Nat) (ds : List D) : ds.length ≤ 1000 → (∀ d ∈ ds, Nice n d) → Nice (n + 1) (.tup ds)
  | lst (n : Nat) (ds : List D) : ds.length ≤ 1000 → (∀ d ∈ ds, Nice n d) → Nice (n + 1) (.lst ds)
theorem Nice.mono {n : Nat} {d : D} (h : Nice n d) : ∀ {m : Nat}, n ≤ m → Nice m d := by
  induction h with
  | str n s => exact fun _ => .str _ s
  | int n i => exact fun _ => .int _ i
  | tup n ds hl _ ih =>
    intro m hm
    obtain ⟨m, rfl⟩ : ∃ k, m = k + 1 := ⟨m - 1, by omega⟩
    exact .tup m ds hl fun d hd => ih d hd (by omega)
  | lst n ds hl _ ih =>
    intro m hm
    obtain ⟨m, rfl⟩ : ∃ k, m = k + 1 := ⟨m - 1, by omega⟩
    exact .lst m ds hl fun d hd => ih d hd (by omega)
theorem nice3 {n : Nat} {a b c : D} (ha : Nice n a) (hb : Nice n b) (hc : Nice n c) : Nice (n + 1) (.tup [a, b, c]) := .tup n _ (by simp) fun d hd => by
  rcases List.mem_cons.mp hd with rfl | hd
  · exact ha
  rcases List.mem_cons.mp hd with rfl | hd
  · exact hb
  rcases List.mem_cons.mp hd with rfl | hd
  · exact hc
  cases hd
theorem nice2 {n : Nat} {a b : D} (ha : Nice n a) (hb : Nice n b) : Nice (n + 1) (.tup [a, b]) := .tup n _ (by simp) fun d hd => by
  rcases List.mem_cons.mp hd with rfl | hd
  · exact ha
  rcases List.mem_cons.mp hd with rfl | hd
  · exact hb
  cases hd
theorem Kd.nice : ∀ k : Kd, Nice (k.dep + 1) k.D
  | .p c => nice2 (.str _ _) (.str _ _)
  | .n f a b => nice3 (.str _ _) (a.nice.mono (by show a.dep + 1 ≤ max a.dep b.dep + 1; omega)) (b.nice.mono (by show b.dep + 1 ≤ max a.dep b.dep + 1; omega))
theorem Rd.nice : ∀ {r : Rd}, r.ok → Nice (r.dep + 5) r.D
  | .w, _ => .tup _ _ (by simp) fun d hd => by
    rcases List.mem_cons.mp hd with rfl | hd
    · exact .str _ _
    cases hd
  | .n f a b, h => nice3 (.str _ _) ((Rd.nice h.1).mono (by show a.dep + 5 ≤ max a.dep b.dep + 1 + 4; omega)) ((Rd.nice h.2).mono (by show b.dep + 5 ≤ max a.dep b.dep + 1 + 4; omega))
  | .g f k r, h => nice3 (.str _ _) (k.nice.mono (by have := k.dep_lt; have := h.1; show k.dep + 1 ≤ r.dep + 1 + 4; omega)) ((Rd.nice h.2.2).mono (by show r.dep + 5 ≤ r.dep + 1 + 4; omega))
theorem Tr.nice : ∀ t : Tr, Nice (t.dep + 1) t.D
  | .leaf w => nice2 (.str _ _) (.str _ _)
  | .n f a b => nice3 (.str _ _) (a.nice.mono (by show a.dep + 1 ≤ max a.dep b.dep + 1; omega)) (b.nice.mono (by show b.dep + 1 ≤ max a.dep b.dep + 1; omega))
def conSame (n : Nat) : Con := fun args CQ _ => ∃ d : D, args = [.v d, .v d] ∧ Nice n d ∧ CQ (.v (.bl true)) args
theorem b__law_same {f : Addr} {fd : FuncData} (F : FunD K "_law_same" "_law_same" (defArgs s__law_same) (defBody s__law_same) (defScope s__law_same) [] [] f fd) (hm : mg "_law_same" = some (.ref f)) (m_isinstance : mg "isinstance" = none) (m_tuple : mg "tuple" = none) (m_list : mg "list" = none) (m_str : mg "str" = none) (m_int : mg "int" = none) (m_bool : mg "bool" = none) (m_len : mg "len" = none) (m_range : mg "range" = none) : ∀ n : Nat, CalC P w K mg base (n + 1) "_law_same" f (conSame n) := by
  refine calRec (c := 0) (calVac (ps := ["_law_told", "_law_due"]) F hm (fun _ _ _ _ _ _ us hl => match us, hl with | [_, _], _ => rfl) fun args CQ CX h => h) fun n c__law_same => ?_
  refine calD F hm sc__law_same (fun args CQ CX h => ?_) (fun _ _ _ _ _ _ us hl => match us, hl with | [_, _], _ => rfl) (fun cdv A outer s H E hr => ⟨_, _, (svs_cons (sv_if (ew_or (et_val (ev_isi m_isinstance (ev 1) (ev_tyn m_tuple bt_tuple))) (ew_or1 (et_val (ev_isi m_isinstance (ev 1) (ev_tyn m_list bt_list))))).et
      (svs_cons (sv_set 2 sc__law_same.nd (ev_if (et_val (ev_isi m_isinstance (ev 1) (ev_tyn m_tuple bt_tuple))) (ev_isi m_isinstance (ev 0) (ev_tyn m_tuple bt_tuple)) (ev_isi m_isinstance (ev 0) (ev_tyn m_list bt_list))))
      (svs_cons (sv_if (ew_or (et_not (et_val (ev 2))) (ew_or1 (et_neS (ev_len m_len (ev 0)) (ev_len m_len (ev 1))))).et
      (svs_one (sv_ret ev_bl)) svs_nil)
      (svs_cons (sv_for ownsC rfl (ei_rng1 (by rfl) m_range (ev_len m_len (ev 1))) (eg_name 3 sc__law_same.nd)
      (svs_one (sv_if (et_not (et_val (ev_call c__law_same hr (by omega) (by rfl) passC (ea_v (ev_ix (ev 0) (ev 3)) (ea_v (ev_ix (ev 1) (ev 3)) ea_nil)))))
      (svs_one (sv_ret ev_bl)) svs_nil)))
      (svs_one (sv_ret ev_bl))))) svs_nil)
      (svs_cons (sv_if (et_val (ev_isi m_isinstance (ev 1) (ev_tyn m_str bt_str)))
      (svs_one (sv_ret (ev_and (ev_isi m_isinstance (ev 0) (ev_tyn m_str bt_str)) (ev_one (ev_eqS (ev 0) (ev 1)))))) svs_nil)
      (svs_one (sv_ret (ev_and (ev_isi m_isinstance (ev 0) (ev_tyn m_int bt_int)) (ev_and (ev_not (ev_isi m_isinstance (ev 0) (ev_tyn m_bool bt_bool))) (ev_one (ev_eqS (ev 0) (ev 1))))))))), fun args CQ CX h => ?_⟩)
  · obtain ⟨d, rfl, _⟩ := h; rfl
  · obtain ⟨d, rfl, hn, hQ⟩ := h
    cases hn with
    | str n s =>
      walk_at "dl"
      exact hQ
    | int n i =>
      walk_at "dl"
      exact hQ
    | tup n ds hl hd =>
      walk_at "dl"
      refine ⟨by omega, by omega, each_by (fun i ρ => ∃ s3 : Sl, ρ = [.v (.tup ds), .v (.tup ds), .v (.bl true), s3] ∧ s3.nb = true) ⟨.un, rfl, rfl⟩ (fun i e ρ K' hd' h hK => ?_) fun ρ h => ?_⟩
      · obtain ⟨s3, rfl, n3⟩ := h
        obtain ⟨rfl, hi⟩ := rng_get hd'
        have e4 : atI ds (i : Int) = some ds[i] := by rw [atI_n, List.getElem?_eq_getElem hi]
        walk_at "dl"
        rw [e4]
        refine ⟨n3, _, rfl, _, rfl, ds[i], rfl, hd _ (List.getElem_mem _), ?_⟩
        walk_at "dl"
        exact hK _ ⟨.v _, rfl, rfl⟩
      · obtain ⟨s3, rfl, n3⟩ := h
        walk_at "dl"
        exact hQ
    | lst n ds hl hd =>
      walk_at "dl"
      refine ⟨by omega, by omega, each_by (fun i ρ => ∃ s3 : Sl, ρ = [.v (.lst ds), .v (.lst ds), .v (.bl true), s3] ∧ s3.nb = true) ⟨.un, rfl, rfl⟩ (fun i e ρ K' hd' h hK => ?_) fun ρ h => ?_⟩
      · obtain ⟨s3, rfl, n3⟩ := h
        obtain ⟨rfl, hi⟩ := rng_get hd'
        have e4 : atI ds (i : Int) = some ds[i] := by rw [atI_n, List.getElem?_eq_getElem hi]
        walk_at "dl"
        rw [e4]
        refine ⟨n3, _, rfl, _, rfl, ds[i], rfl, hd _ (List.getElem_mem _), ?_⟩
        walk_at "dl"
        exact hK _ ⟨.v _, rfl, rfl⟩
      · obtain ⟨s3, rfl, n3⟩ := h
        walk_at "dl"
        exact hQ
def conKR : Con := fun args CQ _ => ∃ (N : Nat) (d : D), args = [.b d] ∧ Good N d ∧ N ≤ 10 ^ 8 ∧ ∀ d', Good (N + 10 ^ 4) d' → CQ (.v (.bl true)) [.b d']
theorem b__law_kinds_right {f f1 f2 f3 f4 f5 f6 f7 f8 f9 fS : Addr} {fd : FuncData} (F : FunD K "_law_kinds_right" "_law_kinds_right" (defArgs s__law_kinds_right) (defBody s__law_kinds_right) (defScope s__law_kinds_right) [] [] f fd) (hm : mg "_law_kinds_right" = some (.ref f)) (c__law_dip : CalC P w K mg base 1 "_law_dip" f1 conDip) (c__law_any_kind : CalC P w K mg base 9 "_law_any_kind" f2 (conAny 7)) (c__law_kind_said : CalC P w K mg base 100 "_law_kind_said" f3 (conSaid 99))
    (c_show_kind : CalC P w K mg base 100 "show_kind" f4 (conSaid 99)) (k_show_kind : CalK P w K mg base 100 "show_kind" f4 ["kind"] (conSaid 99)) (c__law_row_said : CalC P w K mg base 101 "_law_row_said" f5 (conRow 99)) (c_show_row : CalC P w K mg base 101 "show_row" f6 (conRow 99)) (k_show_row : CalK P w K mg base 101 "show_row" f6 ["row"] (conRow 99))
    (c_read_kind : CalC P w K mg base 101 "read_kind" f7 (conReadKind 99)) (k_read_kind : CalK P w K mg base 101 "read_kind" f7 ["text"] (conReadKind 99)) (c_read_row : CalC P w K mg base 102 "read_row" f8 (conRowOf 99)) (k_read_row : CalK P w K mg base 102 "read_row" f8 ["text"] (conRowOf 99))
    (c__law_chain : CalC P w K mg base 4 "_law_chain" f9 conChain) (c__law_same : CalC P w K mg base 110 "_law_same" fS (conSame 109)) (m_range : mg "range" = none) (m_list : mg "list" = none) : CalC P w K mg base 111 "_law_kinds_right" f conKR := by
  refine calD F hm sc__law_kinds_right (fun args CQ CX h => ?_) (fun _ _ _ _ _ _ us hl => match us, hl with | [_], _ => rfl) (fun cdv A outer s H E hr => ⟨_, _, (svs_cons (sv_set 1 sc__law_kinds_right.nd (ev_call c__law_any_kind hr (by omega) (by rfl) passC (ea_l 0 (ea_v (ev_add ev_int (ev_call c__law_dip hr (by omega) (by rfl) passC (ea_l 0 (ea_v ev_int ea_nil)))) ea_nil))))
      (svs_cons (sv_setLc 2 rfl sc__law_kinds_right.nd (own := [("_law_turn", 3)]) (ei_rng1 (by rfl) m_range (ev_add ev_int (ev_call c__law_dip hr (by omega) (by rfl) passC (ea_l 0 (ea_v ev_int ea_nil))))) (by kernel_rfl) (by decide) (fun _ _ _ _ _ => (eg_name 3 sc__law_kinds_right.nd)) (fun _ _ _ _ _ => ets_nil) (fun _ _ _ _ _ => (ev_call (K := K) c__law_any_kind hr (by omega) (by rfl) passL (ea_l 0 (ea_v (ev_add ev_int (ev_call (K := K) c__law_dip hr (by omega) (by rfl) passL (ea_l 0 (ea_v ev_int ea_nil)))) ea_nil)))))
      (svs_cons (sv_pars 4 5 sc__law_kinds_right.nd (ev_call c__law_kind_said hr (by omega) (by rfl) passC (ea_v (ev 1) ea_nil)) (EO.ev (eo_list m_list (ev 2))))
      (svs_cons (sv_if (ew_or (et_not (et_val (ev_call c__law_same hr (by omega) (by rfl) passC (ea_v (ev_call c_show_kind hr (by omega) (by rfl) passC (ea_v (ev 1) ea_nil)) (ea_v (ev 4) ea_nil))))) (ew_or1 (et_not (et_val (ev_call c__law_same hr (by omega) (by rfl) passC (ea_v (ev_callK k_show_kind hr (by omega) (by rfl) passC (ek_v (ev 1) ek_nil)) (ea_v (ev 4) ea_nil))))))).et
      (svs_one (sv_ret ev_bl)) svs_nil)
      (svs_cons (sv_if (ew_or (et_not (et_val (ev_call c__law_same hr (by omega) (by rfl) passC (ea_v (ev_call c_read_kind hr (by omega) (by rfl) passC (ea_v (ev 4) ea_nil)) (ea_v (ev 1) ea_nil))))) (ew_or1 (et_not (et_val (ev_call c__law_same hr (by omega) (by rfl) passC (ea_v (ev_callK k_read_kind hr (by omega) (by rfl) passC (ek_v (ev 4) ek_nil)) (ea_v (ev 1) ea_nil))))))).et
      (svs_one (sv_ret ev_bl)) svs_nil)
      (svs_cons (sv_set 4 sc__law_kinds_right.nd (ev_call c__law_row_said hr (by omega) (by rfl) passC (ea_v (ev 2) ea_nil)))
      (svs_cons (sv_if (ew_or (et_not (et_val (ev_call c__law_same hr (by omega) (by rfl) passC (ea_v (ev_call c_show_row hr (by omega) (by rfl) passC (ea_v (ev 5) ea_nil)) (ea_v (ev 4) ea_nil))))) (ew_or (et_not (et_val (ev_call c__law_same hr (by omega) (by rfl) passC (ea_v (ev_callK k_show_row hr (by omega) (by rfl) passC (ek_v (ev 5) ek_nil)) (ea_v (ev 4) ea_nil))))) (ew_or1 (et_not (et_val (ev_call c__law_same hr (by omega) (by rfl) passC (ea_v (ev 5) (ea_v (ev 2) ea_nil)))))))).et
      (svs_one (sv_ret ev_bl)) svs_nil)
      (svs_cons (sv_if (ew_or (et_not (et_val (ev_call c__law_same hr (by omega) (by rfl) passC (ea_v (ev_call c_read_row hr (by omega) (by rfl) passC (ea_v (ev 4) ea_nil)) (ea_v (ev 2) ea_nil))))) (ew_or1 (et_not (et_val (ev_call c__law_same hr (by omega) (by rfl) passC (ea_v (ev_callK k_read_row hr (by omega) (by rfl) passC (ek_v (ev 4) ek_nil)) (ea_v (ev 2) ea_nil))))))).et
      (svs_one (sv_ret ev_bl)) svs_nil)
      (svs_cons (sv_set 6 sc__law_kinds_right.nd (ev_call c__law_chain hr (by omega) (by rfl) passC (ea_l 0 ea_nil)))
      (svs_cons (sv_set 7 sc__law_kinds_right.nd (ev_call c_read_kind hr (by omega) (by rfl) passC (ea_v (ev_call c__law_kind_said hr (by omega) (by rfl) passC (ea_v (ev 6) ea_nil)) ea_nil)))
      (svs_one (sv_ret (ev_and (ev_call c__law_same hr (by omega) (by rfl) passC (ea_v (ev 7) (ea_v (ev 6) ea_nil))) (ev_one (ev_call c__law_same hr (by omega) (by rfl) passC (ea_v (ev_call c_show_kind hr (by omega) (by rfl) passC (ea_v (ev 7) ea_nil)) (ea_v (ev_call c__law_kind_said hr (by omega) (by rfl) passC (ea_v (ev 6) ea_nil)) ea_nil))))))))))))))))), fun args CQ CX h => ?_⟩)
  · obtain ⟨N, d, rfl, _⟩ := h; rfl
  · obtain ⟨N, d, rfl, hG, hN, hQ⟩ := h
    walk_at "dl"
    refine ⟨N, d, 7, rfl, hG, by omega, by decide, by decide, fun d1 r1 hG1 h10 h11 => ?_⟩
    walk_at "dl"
    refine ⟨N + 1, d1, (1 + r1).toNat, ?_, hG1, by omega, by omega, by omega, by omega, fun d2 k hG2 hk => ?_⟩
    · rw [Int.toNat_of_nonneg (by omega)]
    have hk : k.size ≤ 7 := by omega
    have hkd := k.dep_lt
    walk_at "dl"
    refine ⟨_, d2, 10, rfl, hG2, by omega, by decide, by decide, fun d3 r3 hG3 h30 h31 => ?_⟩
    walk_at "dl"
    have hm1 : 8 * (1 + r1).toNat ≤ 56 := by omega
    refine ⟨by omega, by omega, by rw [rngD_length]; omega, items_by (fun i acc ρ => ∃ (d' : D) (ks : List Kd), ρ = [.b d', .v k.D, .un, .un, .un, .un, .un, .un] ∧ Good (N + 60 + 40 * i) d' ∧ ks.length = i ∧ acc = ks.map Kd.D ∧ ∀ q ∈ ks, q.dep ≤ 99 ∧ q.size ≤ 1000) ⟨d3, [], rfl, hG3.mono (by omega), rfl, rfl, fun _ h => by cases h⟩ (fun i e acc ρ K' hd h ky kn => ?_) fun acc ρ h => ?_⟩
    · obtain ⟨d', ks, rfl, hG', hl, rfl, hks⟩ := h
      obtain ⟨rfl, hi⟩ := rng_get hd
      walk_at "dl"
      refine ⟨_, d', 4, rfl, hG', by omega, by decide, by decide, fun d4 r4 hG4 h40 h41 => ?_⟩
      walk_at "dl"
      refine ⟨_, d4, (1 + r4).toNat, ?_, hG4, by omega, by omega, by omega, by omega, fun d5 k5 hG5 hk5 => ?_⟩
      · rw [Int.toNat_of_nonneg (by omega)]
      have hk5d := k5.dep_lt
      walk_at "dl"
      refine ky _ _ ⟨d5, ks ++ [k5], rfl, hG5.mono (by omega), by rw [List.length_append, hl]; rfl, by rw [List.map_append]; rfl, fun q hq => ?_⟩
      rcases List.mem_append.mp hq with hq | hq
      · exact hks q hq
      · obtain rfl : q = k5 := by simpa using hq
        exact ⟨by omega, by omega⟩
    · obtain ⟨d', ks, rfl, hG', hl, rfl, hks⟩ := h
      rw [rngD_length] at hG' hl
      have hl100 : ks.length ≤ 100 := by omega
      have hne : ks ≠ [] := fun e => by rw [e, List.length_nil] at hl; omega
      have hnice : Nice 109 (.lst (ks.map Kd.D)) := .lst 108 _ (by rw [List.length_map]; omega) fun d hd => by
        obtain ⟨q, hq, rfl⟩ := List.mem_map.mp hd
        exact q.nice.mono (by have := (hks q hq).1; omega)
      have hkn : Nice 109 k.D := k.nice.mono (by omega)
      walk_at "dl"
      refine ⟨k, rfl, by omega, by omega, ?_⟩
      walk_at "dl"
      refine ⟨k, rfl, by omega, by omega, ?_⟩
      walk_at "dl"
      refine ⟨_, rfl, .str _ _, ?_⟩
      walk_at "dl"
      refine ⟨k, rfl, by omega, by omega, ?_⟩
      walk_at "dl"
      refine ⟨_, rfl, .str _ _, ?_⟩
      walk_at "dl"
      refine ⟨k, rfl, by omega, by omega, ?_⟩
      walk_at "dl"
      refine ⟨_, rfl, hkn, ?_⟩
      walk_at "dl"
      refine ⟨k, rfl, by omega, by omega, ?_⟩
      walk_at "dl"
      refine ⟨_, rfl, hkn, ?_⟩
      walk_at "dl"
      refine ⟨ks, rfl, hks, hl100, ?_⟩
      walk_at "dl"
      refine ⟨ks, rfl, hks, hl100, ?_⟩
      walk_at "dl"
      refine ⟨_, rfl, .str _ _, ?_⟩
      walk_at "dl"
      refine ⟨ks, rfl, hks, hl100, ?_⟩
      walk_at "dl"
      refine ⟨_, rfl, .str _ _, ?_⟩
      walk_at "dl"
      refine ⟨_, rfl, hnice, ?_⟩
      walk_at "dl"
      refine ⟨ks, rfl, hne, hks, hl100, ?_⟩
      walk_at "dl"
      refine ⟨_, rfl, hnice, ?_⟩
      walk_at "dl"
      refine ⟨ks, rfl, hne, hks, hl100, ?_⟩
      walk_at "dl"
      refine ⟨_, rfl, hnice, ?_⟩
      walk_at "dl"
      refine ⟨_, d', rfl, hG', by omega, fun d6 k6 hG6 hk6 => ?_⟩
      have hk6d := k6.dep_lt
      walk_at "dl"
      refine ⟨k6, rfl, by omega, by omega, ?_⟩
      walk_at "dl"
      refine ⟨k6, rfl, by omega, by omega, ?_⟩
      walk_at "dl"
      refine ⟨_, rfl, k6.nice.mono (by omega), ?_⟩
      walk_at "dl"
      refine ⟨k6, rfl, by omega, by omega, ?_⟩
      walk_at "dl"
      refine ⟨k6, rfl, by omega, by omega, ?_⟩
      walk_at "dl"
      refine ⟨_, rfl, .str _ _, ?_⟩
      walk_at "dl"
      exact hQ d6 (hG6.mono (by omega))
theorem b__law_others_right {f f1 f2 f3 f4 f5 f6 f7 f8 f9 fS : Addr} {fd : FuncData} (F : FunD K "_law_others_right" "_law_others_right" (defArgs s__law_others_right) (defBody s__law_others_right) (defScope s__law_others_right) [] [] f fd) (hm : mg "_law_others_right" = some (.ref f)) (c__law_dip : CalC P w K mg base 1 "_law_dip" f1 conDip) (c__law_reading : CalC P w K mg base 15 "_law_reading" f2 (conRead 5)) (c__law_tree : CalC P w K mg base 16 "_law_tree" f3 (conTree 14))
    (c__law_reading_said : CalC P w K mg base 10 "_law_reading_said" f4 (conRSaid 5)) (c_show_reading : CalC P w K mg base 10 "show_reading" f5 (conRSaid 5)) (k_show_reading : CalK P w K mg base 10 "show_reading" f5 ["reading"] (conRSaid 5)) (c_read_reading : CalC P w K mg base 17 "read_reading" f6 (conReadR 5)) (k_read_reading : CalK P w K mg base 17 "read_reading" f6 ["text"] (conReadR 5))
    (c__law_tree_said : CalC P w K mg base 14 "_law_tree_said" f7 (conTSaid 13)) (c_show_tree : CalC P w K mg base 14 "show_tree" f8 (conTSaid 13)) (k_show_tree : CalK P w K mg base 14 "show_tree" f8 ["tree"] (conTSaid 13)) (c_read_tree : CalC P w K mg base 30 "read_tree" f9 (conReadT 13)) (k_read_tree : CalK P w K mg base 30 "read_tree" f9 ["text"] (conReadT 13))
    (c__law_same : CalC P w K mg base 110 "_law_same" fS (conSame 109)) : CalC P w K mg base 111 "_law_others_right" f conKR := by
  refine calD F hm sc__law_others_right (fun args CQ CX h => ?_) (fun _ _ _ _ _ _ us hl => match us, hl with | [_], _ => rfl) (fun cdv A outer s H E hr => ⟨_, _, (svs_cons (sv_pars 1 2 sc__law_others_right.nd (ev_call c__law_reading hr (by omega) (by rfl) passC (ea_l 0 (ea_v ev_int ea_nil))) (ev_call c__law_tree hr (by omega) (by rfl) passC (ea_l 0 (ea_v (ev_add ev_int (ev_call c__law_dip hr (by omega) (by rfl) passC (ea_l 0 (ea_v ev_int ea_nil)))) ea_nil))))
      (svs_cons (sv_set 3 sc__law_others_right.nd (ev_call c__law_reading_said hr (by omega) (by rfl) passC (ea_v (ev 1) ea_nil)))
      (svs_cons (sv_if (ew_or (et_not (et_val (ev_call c__law_same hr (by omega) (by rfl) passC (ea_v (ev_call c_show_reading hr (by omega) (by rfl) passC (ea_v (ev 1) ea_nil)) (ea_v (ev 3) ea_nil))))) (ew_or1 (et_not (et_val (ev_call c__law_same hr (by omega) (by rfl) passC (ea_v (ev_callK k_show_reading hr (by omega) (by rfl) passC (ek_v (ev 1) ek_nil)) (ea_v (ev 3) ea_nil))))))).et
      (svs_one (sv_ret ev_bl)) svs_nil)
      (svs_cons (sv_if (ew_or (et_not (et_val (ev_call c__law_same hr (by omega) (by rfl) passC (ea_v (ev_call c_read_reading hr (by omega) (by rfl) passC (ea_v (ev 3) ea_nil)) (ea_v (ev 1) ea_nil))))) (ew_or1 (et_not (et_val (ev_call c__law_same hr (by omega) (by rfl) passC (ea_v (ev_callK k_read_reading hr (by omega) (by rfl) passC (ek_v (ev 3) ek_nil)) (ea_v (ev 1) ea_nil))))))).et
      (svs_one (sv_ret ev_bl)) svs_nil)
      (svs_cons (sv_set 3 sc__law_others_right.nd (ev_call c__law_tree_said hr (by omega) (by rfl) passC (ea_v (ev 2) ea_nil)))
      (svs_cons (sv_if (ew_or (et_not (et_val (ev_call c__law_same hr (by omega) (by rfl) passC (ea_v (ev_call c_show_tree hr (by omega) (by rfl) passC (ea_v (ev 2) ea_nil)) (ea_v (ev 3) ea_nil))))) (ew_or1 (et_not (et_val (ev_call c__law_same hr (by omega) (by rfl) passC (ea_v (ev_callK k_show_tree hr (by omega) (by rfl) passC (ek_v (ev 2) ek_nil)) (ea_v (ev 3) ea_nil))))))).et
      (svs_one (sv_ret ev_bl)) svs_nil)
      (svs_one (sv_ret (ev_and (ev_call c__law_same hr (by omega) (by rfl) passC (ea_v (ev_call c_read_tree hr (by omega) (by rfl) passC (ea_v (ev 3) ea_nil)) (ea_v (ev 2) ea_nil))) (ev_one (ev_call c__law_same hr (by omega) (by rfl) passC (ea_v (ev_callK k_read_tree hr (by omega) (by rfl) passC (ek_v (ev 3) ek_nil)) (ea_v (ev 2) ea_nil))))))))))))), fun args CQ CX h => ?_⟩)
  · obtain ⟨N, d, rfl, _⟩ := h; rfl
  · obtain ⟨N, d, rfl, hG, hN, hQ⟩ := h
    have hc : cst 5 = 1582 := rfl
    walk_at "dl"
    refine ⟨N, d, 5, rfl, hG, by omega, by omega, by omega, fun d1 r hG1 ho hd => ?_⟩
    have hr5 := Rd.nice ho
    walk_at "dl"
    refine ⟨_, d1, 14, rfl, hG1, by omega, by decide, by decide, fun d2 r2 hG2 h20 h21 => ?_⟩
    walk_at "dl"
    refine ⟨_, d2, (1 + r2).toNat, ?_, hG2, by omega, by omega, by omega, by omega, fun d3 t hG3 hot ht => ?_⟩
    · rw [Int.toNat_of_nonneg (by omega)]
    have htd := t.dep_lt
    have htn : Nice 109 t.D := t.nice.mono (by omega)
    have hrn : Nice 109 r.D := hr5.mono (by omega)
    walk_at "dl"
    refine ⟨r, rfl, ho, hd, by omega, ?_⟩
    walk_at "dl"
    refine ⟨r, rfl, ho, hd, by omega, ?_⟩
    walk_at "dl"
    refine ⟨_, rfl, .str _ _, ?_⟩
    walk_at "dl"
    refine ⟨r, rfl, ho, hd, by omega, ?_⟩
    walk_at "dl"
    refine ⟨_, rfl, .str _ _, ?_⟩
    walk_at "dl"
    refine ⟨r, rfl, ho, hd, by omega, ?_⟩
    walk_at "dl"
    refine ⟨_, rfl, hrn, ?_⟩
    walk_at "dl"
    refine ⟨r, rfl, ho, hd, by omega, ?_⟩
    walk_at "dl"
    refine ⟨_, rfl, hrn, ?_⟩
    walk_at "dl"
    refine ⟨t, rfl, hot, by omega, by omega, ?_⟩
    walk_at "dl"
    refine ⟨t, rfl, hot, by omega, by omega, ?_⟩
    walk_at "dl"
    refine ⟨_, rfl, .str _ _, ?_⟩
    walk_at "dl"
    refine ⟨t, rfl, hot, by omega, by omega, ?_⟩
    walk_at "dl"
    refine ⟨_, rfl, .str _ _, ?_⟩
    walk_at "dl"
    refine ⟨t, rfl, hot, by omega, by omega, ?_⟩
    walk_at "dl"
    refine ⟨_, rfl, htn, ?_⟩
    walk_at "dl"
    refine ⟨t, rfl, hot, by omega, by omega, ?_⟩
    walk_at "dl"
    refine ⟨_, rfl, htn, ?_⟩
    walk_at "dl"
    exact hQ d3 (hG3.mono (by omega))
def conLaw : Con := fun args CQ _ => ∃ ns : List Int, args = [.v (.scr ns)] ∧ ns.length ≤ 63 ∧ CQ (.v (.bl true)) [.v (.scr ns)]
theorem b_law {f f1 f2 f3 : Addr} {fd : FuncData} (F : FunD K "law" "law" (defArgs s_law) (defBody s_law) (defScope s_law) [] [] f fd) (hm : mg "law" = some (.ref f)) (c__law_well : CalC P w K mg base 1 "_law_well" f1 conWell) (c__law_kinds_right : CalC P w K mg base 111 "_law_kinds_right" f2 conKR) (c__law_others_right : CalC P w K mg base 111 "_law_others_right" f3 conKR)
    (m_range : mg "range" = none) (m_max : mg "max" = none) (m_min : mg "min" = none) (m_len : mg "len" = none) : CalC P w K mg base 112 "law" f conLaw := by
  refine calD F hm sc_law (fun args CQ CX h => ?_) (fun _ _ _ _ _ _ us hl => match us, hl with | [_], _ => rfl) (fun cdv A outer s H E hr => ⟨_, _, (svs_cons (sv_for ownsC rfl (ei_rng1 (by rfl) m_range (ev_max2 rfl m_max ev_int (ev_min2 rfl m_min ev_int (ev_len m_len (ev 0))))) (eg_name 1 sc_law.nd)
      (svs_cons (sv_setO 2 sc_law.nd (eo_call c__law_well hr (by omega) (by rfl) passC (ea_v (ev 0) (ea_v (ev 1) ea_nil))))
      (svs_one (sv_for ownsC rfl (ei_rng1 (by rfl) m_range ev_int) (eg_name 3 sc_law.nd)
      (svs_one (sv_if (ew_or (et_not (et_val (ev_call c__law_kinds_right hr (by omega) (by rfl) passC (ea_l 2 ea_nil)))) (ew_or1 (et_not (et_val (ev_call c__law_others_right hr (by omega) (by rfl) passC (ea_l 2 ea_nil)))))).et
      (svs_one (sv_ret ev_bl)) svs_nil))))))
      (svs_one (sv_ret ev_bl))), fun args CQ CX h => ?_⟩)
  · obtain ⟨N, rfl, _⟩ := h; rfl
  · obtain ⟨ns, rfl, hl, hQ⟩ := h
    walk_at "dl"
    have hb : ∀ z : Int, z ≤ 63 → (if (if z < 8 then z else 8) > 2 then (if z < 8 then z else 8) else 2) ≤ 8 ∧ 2 ≤ (if (if z < 8 then z else 8) > 2 then (if z < 8 then z else 8) else 2) := fun z hz => by
      split <;> split <;> omega
    have hb := hb (ns.length : Int) (by omega)
    refine ⟨by omega, by omega, each_by (fun i ρ => ∃ s1 s2 s3 : Sl, ρ = [.v (.scr ns), s1, s2, s3] ∧ s1.nb = true ∧ s2.nb = true ∧ s3.nb = true) ⟨.un, .un, .un, rfl, rfl, rfl, rfl⟩ (fun i e ρ K' hd h hK => ?_) fun ρ h => ?_⟩
    · obtain ⟨s1, s2, s3, rfl, n1, n2, n3⟩ := h
      obtain ⟨rfl, hi⟩ := rng_get hd
      walk_at "dl"
      refine ⟨n1, ns, i, rfl, by omega, fun d1 hG1 => ?_⟩
      walk_at "dl"
      refine ⟨n2, by decide, by decide, each_by (fun j ρ => ∃ (d' : D) (s3 : Sl), ρ = [.v (.scr ns), .v (.int i), .o d', s3] ∧ s3.nb = true ∧ Good (20000 * j) d') ⟨d1, s3, rfl, n3, hG1⟩ (fun j e ρ K'' hd h hK' => ?_) fun ρ h => ?_⟩
      · obtain ⟨d', s3, rfl, n3, hG'⟩ := h
        obtain ⟨rfl, hj⟩ := rng_get hd
        have hj : j < 3 := hj
        walk_at "dl"
        refine ⟨n3, _, d', rfl, hG', by omega, fun d2 hG2 => ?_⟩
        walk_at "dl"
        refine ⟨_, d2, rfl, hG2, by omega, fun d3 hG3 => ?_⟩
        walk_at "dl"
        exact hK' _ ⟨d3, .v _, rfl, rfl, hG3.mono (by omega)⟩
      · obtain ⟨d', s3, rfl, n3, hG'⟩ := h
        walk_at "dl"
        exact hK _ ⟨.v _, .o _, s3, rfl, rfl, rfl, n3⟩
    · obtain ⟨s1, s2, s3, rfl, n1, n2, n3⟩ := h
      walk_at "dl"
      exact hQ
end
end K54

set_option Elab.async false
set_option linter.all false
set_option autoImplicit false
set_option maxRecDepth 100000
set_option maxHeartbeats 1000000
namespace K54
open PySem PySem.Spec PyProof.Rows L2 DL
local macro_rules | `(tactic| walk_at "dl") => `(tactic| simp -dsimp only [↓wSeq, ↓wAsg, ↓wName, ↓wVar, ↓wC, ↓w2, ↓DL.wT, ↓wAnd, ↓wOr, ↓DL.wNot, ↓wAndV, ↓wOrV, ↓wNotV, ↓wIf, ↓fI, ↓fI0, ↓fB0, ↓scD, ↓fEqS, ↓fNeS, ↓fAddS, ↓fInC, ↓fNiC, ↓D.fv, ↓D.fvs, ↓seqD, ↓fInV, ↓D.isN, ↓fIsN, ↓fNotN, ↓wNilL, ↓wConsL, ↓wStarL, ↓wTup, ↓wLst, ↓fIx, ↓Sl.d, ↓wPeek, ↓wNoP, ↓wPart, ↓wSl, ↓fSlS, ↓fSlL, ↓fSlT, ↓wCat, ↓wCB, ↓wCN, ↓fLen, ↓fInt, ↓fAbs, ↓fMax2, ↓fMin2, ↓fStrI, ↓fList, ↓D.tyn, ↓fIsi, ↓wiLst, ↓wiTup, ↓wiStr, ↓wiRng1, ↓wiRng2, ↓wiEnu, ↓wiZip, ↓free, ↓nb_un, ↓nb_v, ↓nb_o, ↓wGTup, ↓wGNil, ↓wGCons, ↓wipeR, ↓DL.rest, ↓noOwn, ↓wTurn, ↓wLc, ↓wYes, ↓wNext, ↓wNever, ↓wDrop, ↓wRet, ↓wRetO, ↓wRetN, ↓wGive, ↓wSetO, ↓wAugI, ↓wPar, ↓known, ↓wSetIx, ↓wIfS, ↓wStep, ↓wFor, ↓dEnds, ↓merge, ↓wANil, ↓wAV, ↓wAL, ↓arS, ↓argS, ↓hasL, ↓ndL, ↓Sl.up, ↓putB, ↓wCall, ↓wCallO, ↓wCallV, ↓keyD, ↓fDGet, ↓fAny, ↓fAll, ↓wDct, ↓fKdIx, ↓fKdIn, ↓wJoin, ↓wSplit, ↓isL, ↓wAppend, ↓atI_lit, ↓ixN_lit, List.getElem?_cons_zero, List.getElem?_cons_succ, List.getElem?_nil, List.set_cons_zero, List.set_cons_succ, List.cons_append, List.nil_append, List.length_cons, List.length_nil, List.replicate_succ, List.replicate_zero, List.all_cons, List.all_nil, List.getD_cons_zero, List.getD_cons_succ, Option.some.injEq, Sl.v.injEq, D.fn.injEq, Option.bind_some, Option.isSome_some, Option.isSome_none, Option.map_none, Option.map_some, ne_eq, not_false_eq_true, reduceCtorEq, and_self, true_and, and_true, exists_eq_left', exists_eq_left, exists_eq_right, Bool.and_true, Bool.true_and, Bool.not_false, Bool.not_true, if_true, if_false, decide_eq_true_eq, Bool.false_eq_true, Nat.reduceAdd, Nat.reduceSub, Nat.reduceLeDiff, Nat.reduceLT, Int.reduceToNat, Int.toNat_natCast, decide_true, decide_false, kit_tuple_tuple, kit_tuple_list, kit_tuple_str, kit_tuple_int, kit_tuple_bool, kit_list_tuple, kit_list_list, kit_list_str, kit_list_int, kit_list_bool, kit_str_tuple, kit_str_list, kit_str_str, kit_str_int, kit_str_bool, kit_int_tuple, kit_int_list, kit_int_str, kit_int_int, kit_int_bool, kit_bool_tuple, kit_bool_list, kit_bool_str, kit_bool_int, kit_bool_bool, l40, l41, l42, l91, l93, l97, l98, lgt, llt, lco, lb9, la9, l0, SX.S_cat, SX.S_len, S_eq_iff, List.map_cons, List.map_nil, List.length_map, lenD_lst, lenD_tup, lenD_scr, List.set, ixD_lst, ixD_tup, ixD_scr])
section
variable {P : Program} {w : World} {K : PySem.W.Frag} {mg : Str → Option Value} {base : Heap}
end
theorem ends {w : World} {K : PySem.W.Frag} {h : Heap} {mg : Str → Option Value} {f : Addr} (X : K.In h) (G : h.Ns mainGlobals mg) (hfa : mg ("law" : Str) = some (.ref f)) (c : He.SaysX fa fn ts [] ex w h K) :
    ∃ (K : PySem.W.Frag) (fd : FuncData) (sp : Sp), K.In h ∧ (∀ (s : Shared) (u : Value), BindsTo s fd ⟨[u], []⟩ [("_law_script", u)]) ∧
        (∀ (H : Hp) (a : Addr) (ns : List Int), ns.length ≤ 63 → Only H → SqL K H a (ns.map V.int) → sp [.ref a] H (fun v _ => v = .bl true) fun _ _ _ => False) ∧
        ∀ base : Heap, K.In base → base.Ns mainGlobals mg → FnOk PySem.Challenge.rw_waitwords_k54_whole_texts_there_and_back.prog w K mg base CX0 112 f fd ["_law_script"] sp := by
  obtain ⟨fd_show_kind, F_show_kind⟩ := c.t.d.def_ 1 (d := d1) rfl
  have F_show_kind : FunD K "show_kind" "show_kind" (defArgs s_show_kind) (defBody s_show_kind) (defScope s_show_kind) [] [] (He.ga K "show_kind") fd_show_kind := F_show_kind
  obtain ⟨fd_show_row, F_show_row⟩ := c.t.d.def_ 2 (d := d2) rfl
  have F_show_row : FunD K "show_row" "show_row" (defArgs s_show_row) (defBody s_show_row) (defScope s_show_row) [] [] (He.ga K "show_row") fd_show_row := F_show_row
  obtain ⟨fd_show_reading, F_show_reading⟩ := c.t.d.def_ 3 (d := d3) rfl
  have F_show_reading : FunD K "show_reading" "show_reading" (defArgs s_show_reading) (defBody s_show_reading) (defScope s_show_reading) [] [] (He.ga K "show_reading") fd_show_reading := F_show_reading
  obtain ⟨fd_show_tree, F_show_tree⟩ := c.t.d.def_ 4 (d := d4) rfl
  have F_show_tree : FunD K "show_tree" "show_tree" (defArgs s_show_tree) (defBody s_show_tree) (defScope s_show_tree) [] [] (He.ga K "show_tree") fd_show_tree := F_show_tree
  obtain ⟨fd_read_name, F_read_name⟩ := c.t.d.def_ 5 (d := d5) rfl
  have F_read_name : FunD K "read_name" "read_name" (defArgs s_read_name) (defBody s_read_name) (defScope s_read_name) [] [] (He.ga K "read_name") fd_read_name := F_read_name
  obtain ⟨fd_kind_at, F_kind_at⟩ := c.t.d.def_ 6 (d := d6) rfl
  have F_kind_at : FunD K "kind_at" "kind_at" (defArgs s_kind_at) (defBody s_kind_at) (defScope s_kind_at) [] [] (He.ga K "kind_at") fd_kind_at := F_kind_at
  obtain ⟨fd_pair_at, F_pair_at⟩ := c.t.d.def_ 7 (d := d7) rfl
  have F_pair_at : FunD K "pair_at" "pair_at" (defArgs s_pair_at) (defBody s_pair_at) (defScope s_pair_at) [] [] (He.ga K "pair_at") fd_pair_at := F_pair_at
  obtain ⟨fd_give_at, F_give_at⟩ := c.t.d.def_ 8 (d := d8) rfl
  have F_give_at : FunD K "give_at" "give_at" (defArgs s_give_at) (defBody s_give_at) (defScope s_give_at) [] [] (He.ga K "give_at") fd_give_at := F_give_at
  obtain ⟨fd_reading_at, F_reading_at⟩ := c.t.d.def_ 9 (d := d9) rfl
  have F_reading_at : FunD K "reading_at" "reading_at" (defArgs s_reading_at) (defBody s_reading_at) (defScope s_reading_at) [] [] (He.ga K "reading_at") fd_reading_at := F_reading_at
  obtain ⟨fd_widths_right, F_widths_right⟩ := c.t.d.def_ 10 (d := d10) rfl
  have F_widths_right : FunD K "widths_right" "widths_right" (defArgs s_widths_right) (defBody s_widths_right) (defScope s_widths_right) [] [] (He.ga K "widths_right") fd_widths_right := F_widths_right
  obtain ⟨fd_tree_at, F_tree_at⟩ := c.t.d.def_ 11 (d := d11) rfl
  have F_tree_at : FunD K "tree_at" "tree_at" (defArgs s_tree_at) (defBody s_tree_at) (defScope s_tree_at) [] [] (He.ga K "tree_at") fd_tree_at := F_tree_at
  obtain ⟨fd_whole, F_whole⟩ := c.t.d.def_ 12 (d := d12) rfl
  have F_whole : FunD K "whole" "whole" (defArgs s_whole) (defBody s_whole) (defScope s_whole) [] [] (He.ga K "whole") fd_whole := F_whole
  obtain ⟨fd_row_of, F_row_of⟩ := c.t.d.def_ 13 (d := d13) rfl
  have F_row_of : FunD K "row_of" "row_of" (defArgs s_row_of) (defBody s_row_of) (defScope s_row_of) [] [] (He.ga K "row_of") fd_row_of := F_row_of
  obtain ⟨fd_read_kind, F_read_kind⟩ := c.t.d.def_ 14 (d := d14) rfl
  have F_read_kind : FunD K "read_kind" "read_kind" (defArgs s_read_kind) (defBody s_read_kind) (defScope s_read_kind) [] [] (He.ga K "read_kind") fd_read_kind := F_read_kind
  obtain ⟨fd_read_row, F_read_row⟩ := c.t.d.def_ 15 (d := d15) rfl
  have F_read_row : FunD K "read_row" "read_row" (defArgs s_read_row) (defBody s_read_row) (defScope s_read_row) [] [] (He.ga K "read_row") fd_read_row := F_read_row
  obtain ⟨fd_read_reading, F_read_reading⟩ := c.t.d.def_ 16 (d := d16) rfl
  have F_read_reading : FunD K "read_reading" "read_reading" (defArgs s_read_reading) (defBody s_read_reading) (defScope s_read_reading) [] [] (He.ga K "read_reading") fd_read_reading := F_read_reading
  obtain ⟨fd_read_tree, F_read_tree⟩ := c.t.d.def_ 17 (d := d17) rfl
  have F_read_tree : FunD K "read_tree" "read_tree" (defArgs s_read_tree) (defBody s_read_tree) (defScope s_read_tree) [] [] (He.ga K "read_tree") fd_read_tree := F_read_tree
  obtain ⟨fd__law_well, F__law_well⟩ := c.t.d.def_ 18 (d := d18) rfl
  have F__law_well : FunD K "_law_well" "_law_well" (defArgs s__law_well) (defBody s__law_well) (defScope s__law_well) [] [] (He.ga K "_law_well") fd__law_well := F__law_well
  obtain ⟨fd__law_dip, F__law_dip⟩ := c.t.d.def_ 19 (d := d19) rfl
  have F__law_dip : FunD K "_law_dip" "_law_dip" (defArgs s__law_dip) (defBody s__law_dip) (defScope s__law_dip) [] [] (He.ga K "_law_dip") fd__law_dip := F__law_dip
  obtain ⟨fd__law_any_kind, F__law_any_kind⟩ := c.t.d.def_ 20 (d := d20) rfl
  have F__law_any_kind : FunD K "_law_any_kind" "_law_any_kind" (defArgs s__law_any_kind) (defBody s__law_any_kind) (defScope s__law_any_kind) [] [] (He.ga K "_law_any_kind") fd__law_any_kind := F__law_any_kind
  obtain ⟨fd__law_kind_said, F__law_kind_said⟩ := c.t.d.def_ 21 (d := d21) rfl
  have F__law_kind_said : FunD K "_law_kind_said" "_law_kind_said" (defArgs s__law_kind_said) (defBody s__law_kind_said) (defScope s__law_kind_said) [] [] (He.ga K "_law_kind_said") fd__law_kind_said := F__law_kind_said
  obtain ⟨fd__law_row_said, F__law_row_said⟩ := c.t.d.def_ 22 (d := d22) rfl
  have F__law_row_said : FunD K "_law_row_said" "_law_row_said" (defArgs s__law_row_said) (defBody s__law_row_said) (defScope s__law_row_said) [] [] (He.ga K "_law_row_said") fd__law_row_said := F__law_row_said
  obtain ⟨fd__law_width, F__law_width⟩ := c.t.d.def_ 23 (d := d23) rfl
  have F__law_width : FunD K "_law_width" "_law_width" (defArgs s__law_width) (defBody s__law_width) (defScope s__law_width) [] [] (He.ga K "_law_width") fd__law_width := F__law_width
  obtain ⟨fd__law_reading, F__law_reading⟩ := c.t.d.def_ 24 (d := d24) rfl
  have F__law_reading : FunD K "_law_reading" "_law_reading" (defArgs s__law_reading) (defBody s__law_reading) (defScope s__law_reading) [] [] (He.ga K "_law_reading") fd__law_reading := F__law_reading
  obtain ⟨fd__law_reading_said, F__law_reading_said⟩ := c.t.d.def_ 25 (d := d25) rfl
  have F__law_reading_said : FunD K "_law_reading_said" "_law_reading_said" (defArgs s__law_reading_said) (defBody s__law_reading_said) (defScope s__law_reading_said) [] [] (He.ga K "_law_reading_said") fd__law_reading_said := F__law_reading_said
  obtain ⟨fd__law_word, F__law_word⟩ := c.t.d.def_ 28 (d := d28) rfl
  have F__law_word : FunD K "_law_word" "_law_word" (defArgs s__law_word) (defBody s__law_word) (defScope s__law_word) [] [] (He.ga K "_law_word") fd__law_word := F__law_word
  obtain ⟨fd__law_tree, F__law_tree⟩ := c.t.d.def_ 29 (d := d29) rfl
  have F__law_tree : FunD K "_law_tree" "_law_tree" (defArgs s__law_tree) (defBody s__law_tree) (defScope s__law_tree) [] [] (He.ga K "_law_tree") fd__law_tree := F__law_tree
  obtain ⟨fd__law_tree_said, F__law_tree_said⟩ := c.t.d.def_ 30 (d := d30) rfl
  have F__law_tree_said : FunD K "_law_tree_said" "_law_tree_said" (defArgs s__law_tree_said) (defBody s__law_tree_said) (defScope s__law_tree_said) [] [] (He.ga K "_law_tree_said") fd__law_tree_said := F__law_tree_said
  obtain ⟨fd__law_same, F__law_same⟩ := c.t.d.def_ 33 (d := d33) rfl
  have F__law_same : FunD K "_law_same" "_law_same" (defArgs s__law_same) (defBody s__law_same) (defScope s__law_same) [] [] (He.ga K "_law_same") fd__law_same := F__law_same
  obtain ⟨fd__law_chain, F__law_chain⟩ := c.t.d.def_ 34 (d := d34) rfl
  have F__law_chain : FunD K "_law_chain" "_law_chain" (defArgs s__law_chain) (defBody s__law_chain) (defScope s__law_chain) [] [] (He.ga K "_law_chain") fd__law_chain := F__law_chain
  obtain ⟨fd__law_kinds_right, F__law_kinds_right⟩ := c.t.d.def_ 35 (d := d35) rfl
  have F__law_kinds_right : FunD K "_law_kinds_right" "_law_kinds_right" (defArgs s__law_kinds_right) (defBody s__law_kinds_right) (defScope s__law_kinds_right) [] [] (He.ga K "_law_kinds_right") fd__law_kinds_right := F__law_kinds_right
  obtain ⟨fd__law_others_right, F__law_others_right⟩ := c.t.d.def_ 36 (d := d36) rfl
  have F__law_others_right : FunD K "_law_others_right" "_law_others_right" (defArgs s__law_others_right) (defBody s__law_others_right) (defScope s__law_others_right) [] [] (He.ga K "_law_others_right") fd__law_others_right := F__law_others_right
  obtain ⟨fd_law, F_law⟩ := c.t.d.def_ 37 (d := d37) rfl
  have F_law : FunD K "law" "law" (defArgs s_law) (defBody s_law) (defScope s_law) [] [] (He.ga K "law") fd_law := F_law
  have m_show_kind : mg "show_kind" = some (.ref (He.ga K "show_kind")) := He.glo_ok X G (c.t.d.fact 2 (f := .glo "show_kind") rfl)
  have m_show_row : mg "show_row" = some (.ref (He.ga K "show_row")) := He.glo_ok X G (c.t.d.fact 3 (f := .glo "show_row") rfl)
  have m_show_reading : mg "show_reading" = some (.ref (He.ga K "show_reading")) := He.glo_ok X G (c.t.d.fact 4 (f := .glo "show_reading") rfl)
  have m_show_tree : mg "show_tree" = some (.ref (He.ga K "show_tree")) := He.glo_ok X G (c.t.d.fact 5 (f := .glo "show_tree") rfl)
  have m_LETTERS : ∃ t, mg "LETTERS" = some (.str "abcdefghijklmnopqrstuvwxyz" t) := He.str_ok X G (c.t.d.fact 6 (f := .str "LETTERS" "abcdefghijklmnopqrstuvwxyz") rfl)
  have m_MOST_LETTERS : ∃ t, mg "MOST_LETTERS" = some (.int 8 t) := He.int_ok X G (c.t.d.fact 7 (f := .int "MOST_LETTERS" 8) rfl)
  have m_BETWEEN : mg "BETWEEN" = some (.ref (He.ga K "BETWEEN")) := He.glo_ok X G (c.t.d.fact 8 (f := .glo "BETWEEN") rfl)
  have m_read_name : mg "read_name" = some (.ref (He.ga K "read_name")) := He.glo_ok X G (c.t.d.fact 9 (f := .glo "read_name") rfl)
  have m_kind_at : mg "kind_at" = some (.ref (He.ga K "kind_at")) := He.glo_ok X G (c.t.d.fact 10 (f := .glo "kind_at") rfl)
  have m_pair_at : mg "pair_at" = some (.ref (He.ga K "pair_at")) := He.glo_ok X G (c.t.d.fact 11 (f := .glo "pair_at") rfl)
  have m_give_at : mg "give_at" = some (.ref (He.ga K "give_at")) := He.glo_ok X G (c.t.d.fact 12 (f := .glo "give_at") rfl)
  have m_reading_at : mg "reading_at" = some (.ref (He.ga K "reading_at")) := He.glo_ok X G (c.t.d.fact 13 (f := .glo "reading_at") rfl)
  have m_widths_right : mg "widths_right" = some (.ref (He.ga K "widths_right")) := He.glo_ok X G (c.t.d.fact 14 (f := .glo "widths_right") rfl)
  have m_tree_at : mg "tree_at" = some (.ref (He.ga K "tree_at")) := He.glo_ok X G (c.t.d.fact 15 (f := .glo "tree_at") rfl)
  have m_whole : mg "whole" = some (.ref (He.ga K "whole")) := He.glo_ok X G (c.t.d.fact 16 (f := .glo "whole") rfl)
  have m_row_of : mg "row_of" = some (.ref (He.ga K "row_of")) := He.glo_ok X G (c.t.d.fact 17 (f := .glo "row_of") rfl)
  have m_read_kind : mg "read_kind" = some (.ref (He.ga K "read_kind")) := He.glo_ok X G (c.t.d.fact 18 (f := .glo "read_kind") rfl)
  have m_read_row : mg "read_row" = some (.ref (He.ga K "read_row")) := He.glo_ok X G (c.t.d.fact 19 (f := .glo "read_row") rfl)
  have m_read_reading : mg "read_reading" = some (.ref (He.ga K "read_reading")) := He.glo_ok X G (c.t.d.fact 20 (f := .glo "read_reading") rfl)
  have m_read_tree : mg "read_tree" = some (.ref (He.ga K "read_tree")) := He.glo_ok X G (c.t.d.fact 21 (f := .glo "read_tree") rfl)
  have m__law_well : mg "_law_well" = some (.ref (He.ga K "_law_well")) := He.glo_ok X G (c.t.d.fact 22 (f := .glo "_law_well") rfl)
  have m__law_dip : mg "_law_dip" = some (.ref (He.ga K "_law_dip")) := He.glo_ok X G (c.t.d.fact 23 (f := .glo "_law_dip") rfl)
  have m__law_any_kind : mg "_law_any_kind" = some (.ref (He.ga K "_law_any_kind")) := He.glo_ok X G (c.t.d.fact 24 (f := .glo "_law_any_kind") rfl)
  have m__law_kind_said : mg "_law_kind_said" = some (.ref (He.ga K "_law_kind_said")) := He.glo_ok X G (c.t.d.fact 25 (f := .glo "_law_kind_said") rfl)
  have m__law_row_said : mg "_law_row_said" = some (.ref (He.ga K "_law_row_said")) := He.glo_ok X G (c.t.d.fact 26 (f := .glo "_law_row_said") rfl)
  have m__law_width : mg "_law_width" = some (.ref (He.ga K "_law_width")) := He.glo_ok X G (c.t.d.fact 27 (f := .glo "_law_width") rfl)
  have m__law_reading : mg "_law_reading" = some (.ref (He.ga K "_law_reading")) := He.glo_ok X G (c.t.d.fact 28 (f := .glo "_law_reading") rfl)
  have m__law_reading_said : mg "_law_reading_said" = some (.ref (He.ga K "_law_reading_said")) := He.glo_ok X G (c.t.d.fact 29 (f := .glo "_law_reading_said") rfl)
  have m__law_word : mg "_law_word" = some (.ref (He.ga K "_law_word")) := He.glo_ok X G (c.t.d.fact 32 (f := .glo "_law_word") rfl)
  have m__law_tree : mg "_law_tree" = some (.ref (He.ga K "_law_tree")) := He.glo_ok X G (c.t.d.fact 33 (f := .glo "_law_tree") rfl)
  have m__law_tree_said : mg "_law_tree_said" = some (.ref (He.ga K "_law_tree_said")) := He.glo_ok X G (c.t.d.fact 34 (f := .glo "_law_tree_said") rfl)
  have m__law_same : mg "_law_same" = some (.ref (He.ga K "_law_same")) := He.glo_ok X G (c.t.d.fact 37 (f := .glo "_law_same") rfl)
  have m__law_chain : mg "_law_chain" = some (.ref (He.ga K "_law_chain")) := He.glo_ok X G (c.t.d.fact 38 (f := .glo "_law_chain") rfl)
  have m__law_kinds_right : mg "_law_kinds_right" = some (.ref (He.ga K "_law_kinds_right")) := He.glo_ok X G (c.t.d.fact 39 (f := .glo "_law_kinds_right") rfl)
  have m__law_others_right : mg "_law_others_right" = some (.ref (He.ga K "_law_others_right")) := He.glo_ok X G (c.t.d.fact 40 (f := .glo "_law_others_right") rfl)
  have m_law : mg "law" = some (.ref (He.ga K "law")) := He.glo_ok X G (c.t.d.fact 41 (f := .glo "law") rfl)
  have m_ValueError : mg "ValueError" = none := He.free_ok X G (c.t.d.fact 42 (f := .free "ValueError") rfl)
  have m_abs : mg "abs" = none := He.free_ok X G (c.t.d.fact 43 (f := .free "abs") rfl)
  have m_all : mg "all" = none := He.free_ok X G (c.t.d.fact 44 (f := .free "all") rfl)
  have m_any : mg "any" = none := He.free_ok X G (c.t.d.fact 45 (f := .free "any") rfl)
  have m_bool : mg "bool" = none := He.free_ok X G (c.t.d.fact 46 (f := .free "bool") rfl)
  have m_int : mg "int" = none := He.free_ok X G (c.t.d.fact 47 (f := .free "int") rfl)
  have m_isinstance : mg "isinstance" = none := He.free_ok X G (c.t.d.fact 48 (f := .free "isinstance") rfl)
  have m_len : mg "len" = none := He.free_ok X G (c.t.d.fact 49 (f := .free "len") rfl)
  have m_list : mg "list" = none := He.free_ok X G (c.t.d.fact 50 (f := .free "list") rfl)
  have m_max : mg "max" = none := He.free_ok X G (c.t.d.fact 51 (f := .free "max") rfl)
  have m_min : mg "min" = none := He.free_ok X G (c.t.d.fact 52 (f := .free "min") rfl)
  have m_range : mg "range" = none := He.free_ok X G (c.t.d.fact 53 (f := .free "range") rfl)
  have m_str : mg "str" = none := He.free_ok X G (c.t.d.fact 54 (f := .free "str") rfl)
  have m_tuple : mg "tuple" = none := He.free_ok X G (c.t.d.fact 55 (f := .free "tuple") rfl)
  have m_zip : mg "zip" = none := He.free_ok X G (c.t.d.fact 56 (f := .free "zip") rfl)
  have T_BETWEEN : TabS K w (He.ga K "BETWEEN") [("/", "behind"), ("\\", "ahead"), (".", "with")] := tabS_of (tab := [("/", "behind"), ("\\", "ahead"), (".", "with")]) (tabW c.t 0 (t := (fun K => He.ga K "BETWEEN", ["/", "\\", "."])) rfl) (by first | exact c.more | exact (Bool.and_eq_true_iff.mp c.more).1)
  have e := hfa.symm.trans m_law
  cases e
  have b := FunD.bindsA (ps := ["_law_script"]) F_law fun _ _ _ _ _ _ us hl => match us, hl with | [_], _ => rfl
  refine ⟨K, fd_law, fun vs H Q _ => spC K conLaw vs H Q E0, X, fun s u => b s [u] rfl, fun H a ns hl _ hS => law_sp hS fun CQ CX hq => ⟨ns, rfl, hl, hq⟩, fun base _ _ => ?_⟩
  have c_dip := b__law_dip (P := PySem.Challenge.rw_waitwords_k54_whole_texts_there_and_back.prog) (w := w) (base := base) F__law_dip m__law_dip m_int
  have c_well := b__law_well (P := PySem.Challenge.rw_waitwords_k54_whole_texts_there_and_back.prog) (w := w) (base := base) F__law_well m__law_well m_int m_len m_abs m_max
  have c_any := b__law_any_kind F__law_any_kind m__law_any_kind c_dip
  have c_ksaid := b__law_kind_said (P := PySem.Challenge.rw_waitwords_k54_whole_texts_there_and_back.prog) (w := w) (base := base) F__law_kind_said m__law_kind_said
  have c_kshow := b_show_kind (P := PySem.Challenge.rw_waitwords_k54_whole_texts_there_and_back.prog) (w := w) (base := base) F_show_kind m_show_kind
  have c_rsaid := b__law_row_said 99 F__law_row_said m__law_row_said (c_ksaid 99)
  have c_rshow := b_show_row 99 F_show_row m_show_row (c_kshow 99)
  have c_chain := b__law_chain F__law_chain m__law_chain c_dip (c_any 1) m_range
  have c_kat := b_kind_at (P := PySem.Challenge.rw_waitwords_k54_whole_texts_there_and_back.prog) (w := w) (base := base) F_kind_at m_kind_at m_LETTERS m_BETWEEN T_BETWEEN
  have c_whole := b_whole (P := PySem.Challenge.rw_waitwords_k54_whole_texts_there_and_back.prog) (w := w) (base := base) F_whole m_whole m_len
  have c_rk := b_read_kind 99 F_read_kind m_read_kind (c_kat 99) c_whole
  have c_ro := b_row_of 99 F_row_of m_row_of (c_kat 99) m_len m_any m_zip
  have c_rr := b_read_row 99 F_read_row m_read_row c_ro
  have c_same := b__law_same (P := PySem.Challenge.rw_waitwords_k54_whole_texts_there_and_back.prog) (w := w) (base := base) F__law_same m__law_same m_isinstance m_tuple m_list m_str m_int m_bool m_len m_range 109
  have c_wid := b__law_width (P := PySem.Challenge.rw_waitwords_k54_whole_texts_there_and_back.prog) (w := w) (base := base) F__law_width m__law_width 8
  have c_widr := b_widths_right (P := PySem.Challenge.rw_waitwords_k54_whole_texts_there_and_back.prog) (w := w) (base := base) F_widths_right m_widths_right 5
  have c_read := b__law_reading F__law_reading m__law_reading c_dip (c_any 4) c_wid 5
  have c_resaid := b__law_reading_said F__law_reading_said m__law_reading_said (c_ksaid 3) 5
  have c_reshow := b_show_reading F_show_reading m_show_reading (c_kshow 3) 5
  have c_reat := b_reading_at F_reading_at m_reading_at F_pair_at m_pair_at F_give_at m_give_at (c_kat 3) 6
  have c_reread := b_read_reading 5 F_read_reading m_read_reading c_reat c_whole c_widr
  have c_word := b__law_word F__law_word m__law_word c_dip m_range
  have c_tree := b__law_tree F__law_tree m__law_tree c_dip c_word 14
  have c_tsaid := b__law_tree_said (P := PySem.Challenge.rw_waitwords_k54_whole_texts_there_and_back.prog) (w := w) (base := base) F__law_tree_said m__law_tree_said 13
  have c_tshow := b_show_tree (P := PySem.Challenge.rw_waitwords_k54_whole_texts_there_and_back.prog) (w := w) (base := base) F_show_tree m_show_tree 13
  have c_name := b_read_name (P := PySem.Challenge.rw_waitwords_k54_whole_texts_there_and_back.prog) (w := w) (base := base) F_read_name m_read_name m_LETTERS m_MOST_LETTERS m_len m_all
  have c_tat := b_tree_at F_tree_at m_tree_at F_pair_at m_pair_at c_name m_len m_LETTERS 14
  have c_tread := b_read_tree 13 F_read_tree m_read_tree c_tat c_whole
  have c_kr := b__law_kinds_right F__law_kinds_right m__law_kinds_right c_dip (c_any 7) (c_ksaid 99) (c_kshow 99) ((c_kshow 99).toK F_show_kind (fun _ _ _ _ _ _ ws hl => match ws, hl with | [_], _ => rfl)) c_rsaid c_rshow (c_rshow.toK F_show_row (fun _ _ _ _ _ _ ws hl => match ws, hl with | [_], _ => rfl)) c_rk (c_rk.toK F_read_kind (fun _ _ _ _ _ _ ws hl => match ws, hl with | [_], _ => rfl)) c_rr (c_rr.toK F_read_row (fun _ _ _ _ _ _ ws hl => match ws, hl with | [_], _ => rfl)) c_chain c_same m_range m_list
  have c_or := b__law_others_right F__law_others_right m__law_others_right c_dip c_read c_tree c_resaid c_reshow (c_reshow.toK F_show_reading (fun _ _ _ _ _ _ ws hl => match ws, hl with | [_], _ => rfl)) c_reread (c_reread.toK F_read_reading (fun _ _ _ _ _ _ ws hl => match ws, hl with | [_], _ => rfl)) c_tsaid c_tshow (c_tshow.toK F_show_tree (fun _ _ _ _ _ _ ws hl => match ws, hl with | [_], _ => rfl)) c_tread (c_tread.toK F_read_tree (fun _ _ _ _ _ _ ws hl => match ws, hl with | [_], _ => rfl)) c_same
  have c_law := b_law F_law m_law c_well c_kr c_or m_range m_max m_min m_len
  exact FnOk_noX (c_law.toFn (ps := ["_law_script"]) F_law)
end K54
open PySem PySem.W PySem.Calls PyProof.Rows
theorem PySem.Challenge.cw_waitwords_k54_whole_texts_there_and_back_holds : PySem.Challenge.rw_waitwords_k54_whole_texts_there_and_back.Holds := by
  w_on; o_law
  refine HandSHeadRun.head_any (r := OpenLaw.row PySem.Challenge.rw_waitwords_k54_whole_texts_there_and_back) (q := K54.qv) (H := K54.hk) (ob := K54.ob) (M := 20000) (loose := K54.loose) (d := HandSHeadRun.topDef (OpenLaw.row PySem.Challenge.rw_waitwords_k54_whole_texts_there_and_back).prog 45) (kwd := []) K54.ob_eq
    (by kernel_rfl) (fun s => by kernel_rfl) K54.run (by kernel_rfl) (by kernel_rfl) (by kernel_rfl) (by rfl) (by first | assumption | decide +kernel) (by decide +kernel) ⟨rfl, rfl, rfl, rfl, rfl, by decide +kernel⟩ ?hw ?hc
  case hw => w_witness2
  case hc =>
    refine L2.walk_ofE (l := PySem.Challenge.rw_waitwords_k54_whole_texts_there_and_back) (n := 63) (k := 112) (x := "_law_script") (CX := L2.CX0) rfl (by decide) (by kernel_rfl) ⟨rfl, by decide, by decide⟩ ?F (fun _ _ _ _ z => z)
    intro w mg fa h Y G hmg0
    obtain ⟨K, KX, c⟩ := Y
    have hmg : mg ("law" : PySem.Str) = some (.ref fa) := by
      have e : (HandSHeadRun.topDef (OpenLaw.row PySem.Challenge.rw_waitwords_k54_whole_texts_there_and_back).prog 45).name = ("law" : PySem.Str) := by kernel_rfl
      rw [← e]
      exact hmg0
    exact K54.ends KX G hmg c


