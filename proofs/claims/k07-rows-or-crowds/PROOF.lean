import PyProof.Rows.All
import Wide.All
import OpenK.AllK
import Wide.FinOn
import HandS.ForMost
import HandS.Zip
import HandS.SortInts
import HandS.SortKw
import KE.GoesEnum
import KE.GoesZip
import HandS.TupAny
import HandS.TupMul
import HandS.Style
import HandS.Conv
import HandS.Small
import HandS.Deep
import KE.SortData
import PyProof.ReprReads
import HandS.More
import HandS.TupLen
import HandS.WordsDict
import HandS.RaiseMore
import HandS.Words
import HandS.Ends
import HandS.Head3
import HandS.IsInst
import PyProof.ReprRoads
import HandS.Iter
import HandS.ListItems
import HandS.Dict
import KE.KItemsList
import PyProof.ListRange
import KE.KIndexOf
import KE.DataFind
import HandS.DictComp
import KE.KDictKeyed
import HandS.Star
import PyProof.Rows.ReprOcc
import KE.KIntText
import PySem.Challenge.RW_seenorstruck_k07_rows_or_crowds
set_option Elab.async false
set_option linter.all false
set_option maxRecDepth 100000
set_option maxHeartbeats 4000000
/-! Plain data over the abstract heap: a value as data, a store of mutable objects by labels. -/
namespace DS
open PySem PySem.Spec PyProof.Rows L2

/-- plain data; lst: a list that nobody changes any more; nod: an empty dict that nobody changes; ref k: the mutable object with the label k -/
inductive D where
  | non
  | bl (b : Bool)
  | int (i : Int)
  | str (s : Str)
  | tup (xs : List D)
  | lst (xs : List D)
  | arg (xs : List D)
  | ref (k : Nat)
  | rep (x : Str)
  | nod
  | tud (xs : List D)

/-- a mutable object; dil: a dict that is locked while one walks over it -/
inductive Ob where
  | dead
  | lst (xs : List D)
  | dic (kvs : List (Key × D))
  | dit (kvs : List (List Key × D))
  | dil (kvs : List (Key × D))

/-- the labels' addresses; r: addresses that are being filled (a comprehension's list) and are no data yet -/
structure Lbl where
  l : List (Option Addr)
  r : List Addr
abbrev Sto := List Ob
abbrev Loc := List (Option D)

def NoLbl (m : Lbl) (p : Addr) : Prop := (∀ k : Nat, m.l[k]? ≠ some (some p)) ∧ p ∉ m.r
/-- a list that nobody changes: tracked and no label's, or the module's own -/
def LstAt (K : PySem.W.Frag) (m : Lbl) (H : Hp) (p : Addr) (vs : List V) : Prop :=
  (Rd H p (.lst vs) ∧ NoLbl m p) ∨
    ∃ (o : Obj) (its : Array Value) (n : Nat), K.lookup p = some o ∧ o.cls = .type "list" ∧ o.dict = none ∧ o.data = .seq its n ∧ its.size ≤ sizeLine ∧ Vals vs its.toList
theorem LstAt.sq {K : PySem.W.Frag} {m : Lbl} {H : Hp} {p : Addr} {vs : List V} (h : LstAt K m H p vs) : SqL K H p vs := h.imp (fun q => q.1) fun q => q

mutual
def Rep (K : PySem.W.Frag) (m : Lbl) (H : Hp) : D → V → Prop
  | .non, v => v = .non
  | .bl b, v => v = .bl b
  | .int i, v => v = .int i
  | .str s, v => v = .str s
  | .tup ds, v => ∃ p vs, v = .ref p ∧ H p = some (.tup vs) ∧ NoLbl m p ∧ Reps K m H ds vs
  | .lst ds, v => ∃ p vs, v = .ref p ∧ H p = some (.lst vs) ∧ NoLbl m p ∧ Reps K m H ds vs
  | .arg ds, v => ∃ p vs, v = .ref p ∧ LstAt K m H p vs ∧ Reps K m H ds vs
  | .ref k, v => k < m.l.length ∧ ∀ p, m.l[k]? = some (some p) → v = .ref p
  | .rep x, v => v = .str x
  | .nod, v => ∃ p, v = .ref p ∧ H p = some (.dK []) ∧ NoLbl m p
  | .tud ds, v => ∃ p vs o, v = .ref p ∧ H p = some (.frz o (.tup vs)) ∧ o.dict = none ∧ NoLbl m p ∧ Reps K m H ds vs
def Reps (K : PySem.W.Frag) (m : Lbl) (H : Hp) : List D → List V → Prop
  | [], vs => vs = []
  | d :: ds, vs => ∃ v r, vs = v :: r ∧ Rep K m H d v ∧ Reps K m H ds r
end

/-- how labels and heap go on -/
structure Ext (m m' : Lbl) (H H' : Hp) : Prop where
  keep : ∀ a o, H a = some o → NoLbl m a → H' a = some o
  stay : ∀ a, H' a = none → H a = none
  new : ∀ (k : Nat) a, m'.l[k]? = some (some a) → m.l[k]? = some (some a) ∨ H a = none
  old : ∀ k : Nat, k < m.l.length → m'.l[k]? = m.l[k]? ∨ m'.l[k]? = some none
  len : m.l.length ≤ m'.l.length
  res : m'.r = m.r
  fix : ∀ a, a ∈ m.r → H' a = H a
  frz : ∀ a o u, H a = some (.frz o u) → H' a = some (.frz o u)

theorem Ext.refl (m : Lbl) (H : Hp) : Ext m m H H :=
  ⟨fun _ _ e _ => e, fun _ e => e, fun _ _ e => .inl e, fun _ _ => .inl rfl, Nat.le_refl _, rfl, fun _ _ => rfl, fun _ _ _ e => e⟩

theorem Ext.noLbl {m m' : Lbl} {H H' : Hp} (x : Ext m m' H H') {p : Addr} {o : HO} (h : NoLbl m p) (hp : H p = some o) : NoLbl m' p := by
  refine ⟨fun k e => ?_, by rw [x.res]; exact h.2⟩
  rcases x.new k p e with q | q
  · exact h.1 k q
  · rw [hp] at q; cases q

theorem Ext.trans {m m1 m2 : Lbl} {H H1 H2 : Hp} (x : Ext m m1 H H1) (y : Ext m1 m2 H1 H2) : Ext m m2 H H2 where
  keep := fun a o e n => y.keep a o (x.keep a o e n) (x.noLbl n e)
  stay := fun a e => x.stay a (y.stay a e)
  new := fun k a e => by
    rcases y.new k a e with q | q
    · exact x.new k a q
    · exact .inr (x.stay a q)
  old := fun k hk => by
    rcases y.old k (Nat.lt_of_lt_of_le hk x.len) with q | q
    · rcases x.old k hk with z | z
      · exact .inl (q.trans z)
      · exact .inr (q.trans z)
    · exact .inr q
  len := Nat.le_trans x.len y.len
  res := y.res.trans x.res
  fix := fun a h => (y.fix a (by rw [x.res]; exact h)).trans (x.fix a h)
  frz := fun a o u e => y.frz a o u (x.frz a o u e)

theorem rd_ext {m m' : Lbl} {H H' : Hp} (x : Ext m m' H H') {p : Addr} {u : HO} (n : NoLbl m p) (h : Rd H p u) : Rd H' p u := by
  rcases h with h | ⟨o, h⟩
  · exact .inl (x.keep _ _ h n)
  · exact .inr ⟨o, x.keep _ _ h n⟩


theorem rd_some {H : Hp} {p : Addr} {u : HO} (h : Rd H p u) : ∃ o, H p = some o := by
  rcases h with h | ⟨o, h⟩
  · exact ⟨_, h⟩
  · exact ⟨_, h⟩
theorem LstAt.ext {K : PySem.W.Frag} {m m' : Lbl} {H H' : Hp} (x : Ext m m' H H') {p : Addr} {vs : List V} (h : LstAt K m H p vs) : LstAt K m' H' p vs := by
  rcases h with ⟨h, n⟩ | h
  · obtain ⟨o, e⟩ := rd_some h
    exact .inl ⟨rd_ext x n h, x.noLbl n e⟩
  · exact .inr h

mutual
theorem Rep.ext {K : PySem.W.Frag} {m m' : Lbl} {H H' : Hp} (x : Ext m m' H H') : ∀ (d : D) (v : V), Rep K m H d v → Rep K m' H' d v
  | .non, _, h => by unfold Rep at h ⊢; exact h
  | .bl _, _, h => by unfold Rep at h ⊢; exact h
  | .int _, _, h => by unfold Rep at h ⊢; exact h
  | .str _, _, h => by unfold Rep at h ⊢; exact h
  | .rep _, _, h => by unfold Rep at h ⊢; exact h
  | .tup ds, v, h => by
    unfold Rep at h ⊢
    obtain ⟨p, vs, e, hp, n, r⟩ := h
    exact ⟨p, vs, e, x.keep _ _ hp n, x.noLbl n hp, Reps.ext x ds vs r⟩
  | .tud ds, v, h => by
    unfold Rep at h ⊢
    obtain ⟨p, vs, od, e, hp, hd, n, r⟩ := h
    exact ⟨p, vs, od, e, x.keep _ _ hp n, hd, x.noLbl n hp, Reps.ext x ds vs r⟩
  | .lst ds, v, h => by
    unfold Rep at h ⊢
    obtain ⟨p, vs, e, hp, n, r⟩ := h
    exact ⟨p, vs, e, x.keep _ _ hp n, x.noLbl n hp, Reps.ext x ds vs r⟩
  | .arg ds, v, h => by
    unfold Rep at h ⊢
    obtain ⟨p, vs, e, hp, r⟩ := h
    exact ⟨p, vs, e, hp.ext x, Reps.ext x ds vs r⟩
  | .ref k, v, h => by
    unfold Rep at h ⊢
    obtain ⟨hk, h⟩ := h
    refine ⟨Nat.lt_of_lt_of_le hk x.len, fun p e => ?_⟩
    rcases x.old k hk with q | q
    · exact h p (q ▸ e)
    · rw [q] at e; cases e
  | .nod, v, h => by
    unfold Rep at h ⊢
    obtain ⟨p, e, hp, n⟩ := h
    exact ⟨p, e, x.keep _ _ hp n, x.noLbl n hp⟩
theorem Reps.ext {K : PySem.W.Frag} {m m' : Lbl} {H H' : Hp} (x : Ext m m' H H') : ∀ (ds : List D) (vs : List V), Reps K m H ds vs → Reps K m' H' ds vs
  | [], _, h => by unfold Reps at h ⊢; exact h
  | d :: ds, vs, h => by
    unfold Reps at h ⊢
    obtain ⟨v, r, e, h1, h2⟩ := h
    exact ⟨v, r, e, Rep.ext x d v h1, Reps.ext x ds r h2⟩
end

section
variable {K : PySem.W.Frag} {m m' : Lbl} {H H' : Hp}
theorem Reps.nil : Reps K m H [] [] := by unfold Reps; rfl
theorem Reps.cons {d : D} {ds : List D} {v : V} {vs : List V} (h : Rep K m H d v) (r : Reps K m H ds vs) : Reps K m H (d :: ds) (v :: vs) := by unfold Reps; exact ⟨v, vs, rfl, h, r⟩
theorem Reps.of_nil {vs : List V} (h : Reps K m H [] vs) : vs = [] := by unfold Reps at h; exact h
theorem Reps.of_cons {d : D} {ds : List D} {vs : List V} (h : Reps K m H (d :: ds) vs) : ∃ v r, vs = v :: r ∧ Rep K m H d v ∧ Reps K m H ds r := by unfold Reps at h; exact h
theorem Reps.length : ∀ {ds : List D} {vs : List V}, Reps K m H ds vs → vs.length = ds.length
  | [], _, h => by rw [h.of_nil]; rfl
  | d :: ds, _, h => by
    obtain ⟨v, r, rfl, _, q⟩ := h.of_cons
    simp [q.length]
theorem Reps.get : ∀ {ds : List D} {vs : List V} {i : Nat} {d : D}, Reps K m H ds vs → ds[i]? = some d → ∃ v, vs[i]? = some v ∧ Rep K m H d v
  | [], _, _, _, _, e => by simp at e
  | x :: ds, _, i, d, h, e => by
    obtain ⟨v, r, rfl, h1, h2⟩ := h.of_cons
    cases i with
    | zero => simp at e; subst e; exact ⟨v, rfl, h1⟩
    | succ i => exact Reps.get (i := i) h2 (by simpa using e)
theorem Reps.getV : ∀ {ds : List D} {vs : List V} {i : Nat} {v : V}, Reps K m H ds vs → vs[i]? = some v → ∃ d, ds[i]? = some d ∧ Rep K m H d v
  | [], _, _, _, h, e => by rw [h.of_nil] at e; simp at e
  | x :: ds, _, i, u, h, e => by
    obtain ⟨v, r, rfl, h1, h2⟩ := h.of_cons
    cases i with
    | zero => simp at e; subst e; exact ⟨x, rfl, h1⟩
    | succ i => exact Reps.getV (i := i) h2 (by simpa using e)
theorem Reps.append : ∀ {ds es : List D} {vs us : List V}, Reps K m H ds vs → Reps K m H es us → Reps K m H (ds ++ es) (vs ++ us)
  | [], _, _, _, h, q => by rw [h.of_nil]; exact q
  | d :: ds, es, _, us, h, q => by
    obtain ⟨v, r, rfl, h1, h2⟩ := h.of_cons
    exact Reps.cons h1 (Reps.append h2 q)
theorem Reps.take : ∀ {ds : List D} {vs : List V} (n : Nat), Reps K m H ds vs → Reps K m H (ds.take n) (vs.take n)
  | _, _, 0, _ => by simp; exact Reps.nil
  | [], _, n + 1, h => by rw [h.of_nil]; simp; exact Reps.nil
  | d :: ds, _, n + 1, h => by
    obtain ⟨v, r, rfl, h1, h2⟩ := h.of_cons
    exact Reps.cons h1 (Reps.take n h2)
theorem Reps.drop : ∀ {ds : List D} {vs : List V} (n : Nat), Reps K m H ds vs → Reps K m H (ds.drop n) (vs.drop n)
  | _, _, 0, h => h
  | [], _, n + 1, h => by rw [h.of_nil]; simp; exact Reps.nil
  | d :: ds, _, n + 1, h => by
    obtain ⟨v, r, rfl, h1, h2⟩ := h.of_cons
    exact Reps.drop n h2
theorem Reps.set : ∀ {ds : List D} {vs : List V} (n : Nat) {d : D} {v : V}, Rep K m H d v → Reps K m H ds vs → Reps K m H (ds.set n d) (vs.set n v)
  | [], _, n, _, _, _, h => by rw [h.of_nil]; simp; exact Reps.nil
  | x :: ds, _, 0, _, _, q, h => by
    obtain ⟨u, r, rfl, h1, h2⟩ := h.of_cons
    exact Reps.cons q h2
  | x :: ds, _, n + 1, _, _, q, h => by
    obtain ⟨u, r, rfl, h1, h2⟩ := h.of_cons
    exact Reps.cons h1 (Reps.set n q h2)
theorem Reps.reverse : ∀ {ds : List D} {vs : List V}, Reps K m H ds vs → Reps K m H ds.reverse vs.reverse
  | [], _, h => by rw [h.of_nil]; exact Reps.nil
  | d :: ds, _, h => by
    obtain ⟨v, r, rfl, h1, h2⟩ := h.of_cons
    rw [List.reverse_cons, List.reverse_cons]
    exact Reps.append (Reps.reverse h2) (Reps.cons h1 Reps.nil)

/-- the pairs of a dict: keys as they stand, values as data -/
def RepKs {κ : Type} (K : PySem.W.Frag) (m : Lbl) (H : Hp) : List (κ × D) → List (κ × V) → Prop
  | [], vs => vs = []
  | d :: ds, vs => ∃ v r, vs = (d.1, v) :: r ∧ Rep K m H d.2 v ∧ RepKs K m H ds r
theorem RepKs.ext {κ : Type} (x : Ext m m' H H') : ∀ {ds : List (κ × D)} {vs : List (κ × V)}, RepKs K m H ds vs → RepKs K m' H' ds vs
  | [], _, h => h
  | d :: ds, _, h => by
    obtain ⟨v, r, e, h1, h2⟩ := h
    exact ⟨v, r, e, Rep.ext x _ _ h1, RepKs.ext x h2⟩

/-- what stands at the address of a label -/
def ObAt (K : PySem.W.Frag) (m : Lbl) (H : Hp) (k : Nat) : Ob → Prop
  | .dead => m.l[k]? = some none
  | .lst xs => ∃ a vs, m.l[k]? = some (some a) ∧ H a = some (.lst vs) ∧ Reps K m H xs vs
  | .dic kvs => ∃ a vs, m.l[k]? = some (some a) ∧ H a = some (.dK vs) ∧ RepKs K m H kvs vs
  | .dit kvs => ∃ a vs, m.l[k]? = some (some a) ∧ H a = some (.dT vs) ∧ RepKs K m H kvs vs
  | .dil kvs => ∃ a vs, m.l[k]? = some (some a) ∧ (∃ o, H a = some (.frz o (.dK vs))) ∧ RepKs K m H kvs vs

/-- no tuple -/
def NT (o : HO) : Prop := ∀ vs, o ≠ .tup vs
structure RelS (K : PySem.W.Frag) (m : Lbl) (S : Sto) (H : Hp) : Prop where
  len : m.l.length = S.length
  at_ : ∀ (k : Nat) o, S[k]? = some o → ObAt K m H k o
  inj : ∀ (i j : Nat) a, m.l[i]? = some (some a) → m.l[j]? = some (some a) → i = j
  rsv : ∀ a, a ∈ m.r → (∃ o, H a = some o ∧ NT o) ∧ ∀ k : Nat, m.l[k]? ≠ some (some a)

/-- the label's address is tracked -/
theorem RelS.there {S : Sto} (r : RelS K m S H) {k : Nat} {a : Addr} (e : m.l[k]? = some (some a)) : ∃ o, H a = some o := by
  have hk : k < S.length := by
    rw [← r.len]
    exact (List.getElem?_eq_some_iff.mp e).1
  have q := r.at_ k S[k] (List.getElem?_eq_getElem hk)
  cases ho : S[k] with
  | dead => rw [ho] at q; unfold ObAt at q; rw [q] at e; cases e
  | lst xs => rw [ho] at q; obtain ⟨b, vs, e1, e2, _⟩ := q; rw [e1] at e; cases e; exact ⟨_, e2⟩
  | dic xs => rw [ho] at q; obtain ⟨b, vs, e1, e2, _⟩ := q; rw [e1] at e; cases e; exact ⟨_, e2⟩
  | dit xs => rw [ho] at q; obtain ⟨b, vs, e1, e2, _⟩ := q; rw [e1] at e; cases e; exact ⟨_, e2⟩
  | dil xs => rw [ho] at q; obtain ⟨b, vs, e1, ⟨o, e2⟩, _⟩ := q; rw [e1] at e; cases e; exact ⟨_, e2⟩
theorem RelS.fresh {S : Sto} (r : RelS K m S H) {p : Addr} (h : H p = none) : NoLbl m p := by
  refine ⟨fun k e => ?_, fun e => ?_⟩
  · obtain ⟨o, q⟩ := r.there e
    rw [h] at q; cases q
  · obtain ⟨⟨o, q, _⟩, _⟩ := r.rsv p e
    rw [h] at q; cases q

/-- the names -/
structure RelL (K : PySem.W.Frag) (m : Lbl) (H : Hp) (L : Loc) (σ : L2.St) : Prop where
  len : L.length ≤ σ.length
  at_ : ∀ (i : Nat) d, L[i]? = some (some d) → ∃ v, σ[i]? = some (some v) ∧ Rep K m H d v
theorem RelL.ext {L : Loc} {σ : L2.St} (x : Ext m m' H H') (h : RelL K m H L σ) : RelL K m' H' L σ :=
  ⟨h.len, fun i d e => let ⟨v, e1, r⟩ := h.at_ i d e; ⟨v, e1, Rep.ext x d v r⟩⟩
theorem RelL.set {L : Loc} {σ : L2.St} {d : D} {v : V} (i : Nat) (h : RelL K m H L σ) (r : Rep K m H d v) : RelL K m H (L.set i (some d)) (σ.set i (some v)) := by
  refine ⟨by simpa using h.len, fun j e q => ?_⟩
  by_cases hj : i = j
  · subst hj
    by_cases hl : i < L.length
    · rw [List.getElem?_set_self hl] at q
      cases q
      exact ⟨v, List.getElem?_set_self (Nat.lt_of_lt_of_le hl h.len), r⟩
    · rw [List.getElem?_eq_none (by simpa using hl)] at q; cases q
  · rw [List.getElem?_set_ne hj] at q
    obtain ⟨w, e1, r1⟩ := h.at_ j e q
    exact ⟨w, by rw [List.getElem?_set_ne hj]; exact e1, r1⟩
/-- names forgotten -/
def kill (L : Loc) (ks : List Nat) : Loc := ks.foldl (fun l k => l.set k none) L
theorem RelL.kill1 {L : Loc} {σ : L2.St} (k : Nat) (h : RelL K m H L σ) : RelL K m H (L.set k none) σ := by
  refine ⟨by simpa using h.len, fun j e q => ?_⟩
  by_cases hj : k = j
  · subst hj
    by_cases hl : k < L.length
    · rw [List.getElem?_set_self hl] at q; cases q
    · rw [List.getElem?_eq_none (by simpa using hl)] at q; cases q
  · rw [List.getElem?_set_ne hj] at q
    exact h.at_ j e q
theorem RelL.kill {σ : L2.St} : ∀ (ks : List Nat) {L : Loc}, RelL K m H L σ → RelL K m H (DS.kill L ks) σ
  | [], _, h => h
  | k :: ks, _, h => RelL.kill ks (h.kill1 k)
theorem RelL.wipe {L : Loc} {σ : L2.St} (h : RelL K m H L σ) : ∀ (ks : List Nat), RelL K m H (ks.foldr (fun k l => l.set k none) L) (L2.wipe σ ks)
  | [] => h
  | k :: ks => by
    have q := RelL.wipe h ks
    refine ⟨by simpa [L2.wipe] using q.len, fun j e z => ?_⟩
    have z : ((ks.foldr (fun k l => l.set k none) L).set k none)[j]? = some (some e) := z
    show ∃ v, ((L2.wipe σ ks).set k none)[j]? = some (some v) ∧ _
    by_cases hj : k = j
    · subst hj
      by_cases hl : k < (ks.foldr (fun k l => l.set k none) L).length
      · rw [List.getElem?_set_self hl] at z; cases z
      · rw [List.getElem?_eq_none (by simpa using hl)] at z; cases z
    · rw [List.getElem?_set_ne hj] at z
      obtain ⟨w, e1, r1⟩ := q.at_ j e z
      exact ⟨w, by rw [List.getElem?_set_ne hj]; exact e1, r1⟩
end

/-! ### what happens to labels and heap -/
def Lbl.push (m : Lbl) (p : Addr) : Lbl := ⟨m.l ++ [some p], m.r⟩
def Lbl.kill (m : Lbl) (k : Nat) : Lbl := ⟨m.l.set k none, m.r⟩
section
variable {K : PySem.W.Frag} {m m' : Lbl} {H H' : Hp} {S : Sto}
/-- a new object that nobody changes -/
theorem Ext.laid {p : Addr} {o : HO} (r : RelS K m S H) (hp : H p = none) : Ext m m H (upd H p o) where
  keep := fun a u e _ => by rw [upd_ne (ne_of_none e hp)]; exact e
  stay := fun a e => by
    by_cases h : a = p
    · subst h; exact hp
    · rw [upd_ne h] at e; exact e
  new := fun k a e => .inl e
  old := fun k _ => .inl rfl
  len := Nat.le_refl _
  res := rfl
  fix := fun a h => by
    obtain ⟨⟨u, e, _⟩, _⟩ := r.rsv a h
    exact upd_ne (ne_of_none e hp)
  frz := fun a o u e => by rw [upd_ne (ne_of_none e hp)]; exact e
theorem ObAt.ext (x : Ext m m' H H') {k : Nat} {o : Ob} (h : ObAt K m H k o) (hm : m'.l[k]? = m.l[k]?) (hk : ∀ a, m.l[k]? = some (some a) → H' a = H a) : ObAt K m' H' k o := by
  cases o with
  | dead => exact hm.trans h
  | lst xs => obtain ⟨a, vs, e1, e2, r⟩ := h; exact ⟨a, vs, hm.trans e1, (hk a e1).trans e2, Reps.ext x _ _ r⟩
  | dic xs => obtain ⟨a, vs, e1, e2, r⟩ := h; exact ⟨a, vs, hm.trans e1, (hk a e1).trans e2, RepKs.ext x r⟩
  | dit xs => obtain ⟨a, vs, e1, e2, r⟩ := h; exact ⟨a, vs, hm.trans e1, (hk a e1).trans e2, RepKs.ext x r⟩
  | dil xs => obtain ⟨a, vs, e1, ⟨o, e2⟩, r⟩ := h; exact ⟨a, vs, hm.trans e1, ⟨o, (hk a e1).trans e2⟩, RepKs.ext x r⟩
theorem RelS.laid {p : Addr} {o : HO} (r : RelS K m S H) (hp : H p = none) : RelS K m S (upd H p o) :=
  ⟨r.len, fun k u e => (r.at_ k u e).ext (Ext.laid r hp) rfl fun a ea => by
    obtain ⟨z, q⟩ := r.there ea
    exact upd_ne (ne_of_none q hp), r.inj, fun a h => by
    obtain ⟨⟨u, e, nt⟩, q⟩ := r.rsv a h
    exact ⟨⟨u, by rw [upd_ne (ne_of_none e hp)]; exact e, nt⟩, q⟩⟩
theorem Lbl.push_at {a : Addr} {p : Addr} {i : Nat} (e : (m.push p).l[i]? = some (some a)) : (i < m.l.length ∧ m.l[i]? = some (some a)) ∨ (i = m.l.length ∧ a = p) := by
  have e : (m.l ++ [some p])[i]? = some (some a) := e
  by_cases hi : i < m.l.length
  · rw [List.getElem?_append_left hi] at e; exact .inl ⟨hi, e⟩
  · rw [List.getElem?_append_right (by omega)] at e
    cases q : i - m.l.length with
    | zero => rw [q] at e; simp at e; exact .inr ⟨by omega, e.symm⟩
    | succ j => rw [q] at e; simp at e
/-- a new mutable object: a new label -/
theorem Ext.born {p : Addr} {o : HO} (r : RelS K m S H) (hp : H p = none) : Ext m (m.push p) H (upd H p o) where
  keep := fun a u e _ => by rw [upd_ne (ne_of_none e hp)]; exact e
  stay := fun a e => by
    by_cases h : a = p
    · subst h; exact hp
    · rw [upd_ne h] at e; exact e
  new := fun k a e => by
    rcases Lbl.push_at e with ⟨_, q⟩ | ⟨_, q⟩
    · exact .inl q
    · exact .inr (q ▸ hp)
  old := fun k hk => .inl (List.getElem?_append_left hk)
  len := by simp [Lbl.push]
  res := rfl
  fix := fun a h => by
    obtain ⟨⟨u, e, _⟩, _⟩ := r.rsv a h
    exact upd_ne (ne_of_none e hp)
  frz := fun a o u e => by rw [upd_ne (ne_of_none e hp)]; exact e
theorem RelS.born {p : Addr} {o : HO} {ob : Ob} (r : RelS K m S H) (hp : H p = none) (new : ObAt K (m.push p) (upd H p o) m.l.length ob) : RelS K (m.push p) (S ++ [ob]) (upd H p o) := by
  refine ⟨by simp [Lbl.push, r.len], fun k u e => ?_, fun i j a e1 e2 => ?_, fun a h => ?_⟩
  · by_cases hk : k < S.length
    · rw [List.getElem?_append_left hk] at e
      refine (r.at_ k u e).ext (Ext.born r hp) (List.getElem?_append_left (by rw [r.len]; exact hk)) fun a ea => ?_
      obtain ⟨z, q⟩ := r.there ea
      exact upd_ne (ne_of_none q hp)
    · have hk2 : k = S.length := by
        have := (List.getElem?_eq_some_iff.mp e).1
        simp at this; omega
      subst hk2
      rw [List.getElem?_append_right (Nat.le_refl _)] at e
      simp at e
      subst e
      rw [← r.len]; exact new
  · rcases Lbl.push_at e1 with ⟨_, q1⟩ | ⟨q1, z1⟩ <;> rcases Lbl.push_at e2 with ⟨_, q2⟩ | ⟨q2, z2⟩
    · exact r.inj i j a q1 q2
    · subst z2
      exact absurd q1 ((r.fresh hp).1 i)
    · subst z1
      exact absurd q2 ((r.fresh hp).1 j)
    · omega
  · obtain ⟨⟨u, e, nt⟩, q⟩ := r.rsv a h
    refine ⟨⟨u, by rw [upd_ne (ne_of_none e hp)]; exact e, nt⟩, fun k ek => ?_⟩
    rcases Lbl.push_at ek with ⟨_, z⟩ | ⟨_, z⟩
    · exact q k z
    · exact ne_of_none e hp z
theorem nfz {p : Addr} {o : HO} (e : H p = some o) (h : ∀ z u, o ≠ .frz z u := by intro _ _ h; cases h) : ∀ z u, H p ≠ some (.frz z u) := fun z u q => by
  rw [e] at q; cases q; exact h z u rfl
/-- a mutable object changed -/
theorem Ext.put {k : Nat} {p : Addr} {o : HO} (r : RelS K m S H) (e : m.l[k]? = some (some p)) (nf : ∀ z u, H p ≠ some (.frz z u)) : Ext m m H (upd H p o) where
  keep := fun a u ea n => by
    have hne : a ≠ p := fun z => by subst z; exact n.1 k e
    rw [upd_ne hne]; exact ea
  stay := fun a ea => by
    by_cases h : a = p
    · subst h; rw [upd_same] at ea; cases ea
    · rw [upd_ne h] at ea; exact ea
  new := fun j a ea => .inl ea
  old := fun _ _ => .inl rfl
  len := Nat.le_refl _
  res := rfl
  fix := fun a h => upd_ne fun z => (r.rsv a h).2 k (z ▸ e)
  frz := fun a z u ea => by
    by_cases h : a = p
    · rw [h] at ea; exact absurd ea (nf z u)
    · rw [upd_ne h]; exact ea
theorem RelS.put {k : Nat} {p : Addr} {o : HO} {ob : Ob} (r : RelS K m S H) (e : m.l[k]? = some (some p)) (nf : ∀ z u, H p ≠ some (.frz z u)) (new : ObAt K m (upd H p o) k ob) : RelS K m (S.set k ob) (upd H p o) := by
  refine ⟨by simp [r.len], fun j u ej => ?_, r.inj, fun a h => ?_⟩
  · by_cases hj : k = j
    · subst hj
      have hk : k < S.length := by
        have := (List.getElem?_eq_some_iff.mp ej).1
        simpa using this
      rw [List.getElem?_set_self hk] at ej
      cases ej
      exact new
    · rw [List.getElem?_set_ne hj] at ej
      exact (r.at_ j u ej).ext (Ext.put r e nf) rfl fun a ea => upd_ne fun z => hj (r.inj k j p e (z ▸ ea))
  · obtain ⟨⟨u, eu, nt⟩, q⟩ := r.rsv a h
    have hne : a ≠ p := fun z => by subst z; exact q k e
    exact ⟨⟨u, by rw [upd_ne hne]; exact eu, nt⟩, q⟩
theorem Lbl.kill_at {a : Addr} {k i : Nat} (e : (m.kill k).l[i]? = some (some a)) : m.l[i]? = some (some a) := by
  have e : (m.l.set k none)[i]? = some (some a) := e
  by_cases h : k = i
  · subst h
    by_cases hl : k < m.l.length
    · rw [List.getElem?_set_self hl] at e; cases e
    · rw [List.getElem?_eq_none (by simpa using hl)] at e; cases e
  · rw [List.getElem?_set_ne h] at e; exact e
/-- a label ends: its object is never changed again -/
theorem Ext.end_ {k : Nat} : Ext m (m.kill k) H H where
  keep := fun _ _ e _ => e
  stay := fun _ e => e
  new := fun j a e => .inl (Lbl.kill_at e)
  old := fun j hj => by
    by_cases h : k = j
    · subst h; exact .inr (List.getElem?_set_self hj)
    · exact .inl (List.getElem?_set_ne h)
  len := by simp [Lbl.kill]
  res := rfl
  fix := fun _ _ => rfl
  frz := fun _ _ _ e => e
theorem RelS.end_ {k : Nat} (r : RelS K m S H) : RelS K (m.kill k) (S.set k .dead) H := by
  refine ⟨by simp [Lbl.kill, r.len], fun j u ej => ?_, fun i j a e1 e2 => r.inj i j a (Lbl.kill_at e1) (Lbl.kill_at e2), fun a h => ?_⟩
  · by_cases hj : k = j
    · subst hj
      have hk : k < S.length := by
        have := (List.getElem?_eq_some_iff.mp ej).1
        simpa using this
      rw [List.getElem?_set_self hk] at ej
      cases ej
      show (m.l.set k none)[k]? = some none
      exact List.getElem?_set_self (by rw [r.len]; exact hk)
    · rw [List.getElem?_set_ne hj] at ej
      exact (r.at_ j u ej).ext Ext.end_ (List.getElem?_set_ne hj) fun a _ => rfl
  · obtain ⟨q1, q2⟩ := r.rsv a h
    exact ⟨q1, fun i e => q2 i (Lbl.kill_at e)⟩

/-! ### an address that is being filled -/
def Lbl.hold (m : Lbl) (p : Addr) : Lbl := ⟨m.l, p :: m.r⟩
theorem NoLbl.of_hold {p q : Addr} (h : NoLbl (m.hold p) q) : NoLbl m q ∧ q ≠ p :=
  ⟨⟨h.1, fun z => h.2 (List.mem_cons_of_mem _ z)⟩, fun z => h.2 (by rw [z]; exact List.mem_cons_self)⟩
theorem label_no {p q : Addr} (h : NoLbl (m.hold p) q) : NoLbl (m.push p) q := ⟨fun k e => by
  rcases Lbl.push_at e with ⟨_, z⟩ | ⟨_, z⟩
  · exact h.1 k z
  · exact h.of_hold.2 z, fun z => h.2 (List.mem_cons_of_mem _ z)⟩
theorem NoLbl.hold {p q : Addr} (h : NoLbl m q) (n : q ≠ p) : NoLbl (m.hold p) q := ⟨h.1, fun z => by
  rcases List.mem_cons.mp z with e | e
  · exact n e
  · exact h.2 e⟩
mutual
/-- what is known ahead stands while a new object at p is filled -/
theorem Rep.hold {p : Addr} {o : HO} (hp : H p = none) : ∀ (d : D) (v : V), Rep K m H d v → Rep K (m.hold p) (upd H p o) d v
  | .non, _, h => by unfold Rep at h ⊢; exact h
  | .bl _, _, h => by unfold Rep at h ⊢; exact h
  | .int _, _, h => by unfold Rep at h ⊢; exact h
  | .str _, _, h => by unfold Rep at h ⊢; exact h
  | .rep _, _, h => by unfold Rep at h ⊢; exact h
  | .ref k, _, h => by unfold Rep at h ⊢; exact h
  | .tup ds, v, h => by
    unfold Rep at h ⊢
    obtain ⟨q, vs, e, hq, n, r⟩ := h
    exact ⟨q, vs, e, by rw [upd_ne (ne_of_none hq hp)]; exact hq, n.hold (ne_of_none hq hp), Reps.hold hp ds vs r⟩
  | .tud ds, v, h => by
    unfold Rep at h ⊢
    obtain ⟨q, vs, od, e, hq, hd, n, r⟩ := h
    exact ⟨q, vs, od, e, by rw [upd_ne (ne_of_none hq hp)]; exact hq, hd, n.hold (ne_of_none hq hp), Reps.hold hp ds vs r⟩
  | .lst ds, v, h => by
    unfold Rep at h ⊢
    obtain ⟨q, vs, e, hq, n, r⟩ := h
    exact ⟨q, vs, e, by rw [upd_ne (ne_of_none hq hp)]; exact hq, n.hold (ne_of_none hq hp), Reps.hold hp ds vs r⟩
  | .arg ds, v, h => by
    unfold Rep at h ⊢
    obtain ⟨q, vs, e, hq, r⟩ := h
    refine ⟨q, vs, e, ?_, Reps.hold hp ds vs r⟩
    rcases hq with ⟨hr, n⟩ | hq
    · obtain ⟨u, eu⟩ := rd_some hr
      refine .inl ⟨?_, n.hold (ne_of_none eu hp)⟩
      rcases hr with h1 | ⟨z, h1⟩
      · exact .inl (by rw [upd_ne (ne_of_none h1 hp)]; exact h1)
      · exact .inr ⟨z, by rw [upd_ne (ne_of_none h1 hp)]; exact h1⟩
    · exact .inr hq
  | .nod, v, h => by
    unfold Rep at h ⊢
    obtain ⟨q, e, hq, n⟩ := h
    exact ⟨q, e, by rw [upd_ne (ne_of_none hq hp)]; exact hq, n.hold (ne_of_none hq hp)⟩
theorem Reps.hold {p : Addr} {o : HO} (hp : H p = none) : ∀ (ds : List D) (vs : List V), Reps K m H ds vs → Reps K (m.hold p) (upd H p o) ds vs
  | [], _, h => by unfold Reps at h ⊢; exact h
  | d :: ds, vs, h => by
    unfold Reps at h ⊢
    obtain ⟨v, r, e, h1, h2⟩ := h
    exact ⟨v, r, e, Rep.hold hp d v h1, Reps.hold hp ds r h2⟩
end
mutual
/-- .. and while it is filled on -/
theorem Rep.fill {p : Addr} {o : HO} : ∀ (d : D) (v : V), Rep K (m.hold p) H d v → Rep K (m.hold p) (upd H p o) d v
  | .non, _, h => by unfold Rep at h ⊢; exact h
  | .bl _, _, h => by unfold Rep at h ⊢; exact h
  | .int _, _, h => by unfold Rep at h ⊢; exact h
  | .str _, _, h => by unfold Rep at h ⊢; exact h
  | .rep _, _, h => by unfold Rep at h ⊢; exact h
  | .ref k, _, h => by unfold Rep at h ⊢; exact h
  | .tup ds, v, h => by
    unfold Rep at h ⊢
    obtain ⟨q, vs, e, hq, n, r⟩ := h
    exact ⟨q, vs, e, by rw [upd_ne n.of_hold.2]; exact hq, n, Reps.fill ds vs r⟩
  | .tud ds, v, h => by
    unfold Rep at h ⊢
    obtain ⟨q, vs, od, e, hq, hd, n, r⟩ := h
    exact ⟨q, vs, od, e, by rw [upd_ne n.of_hold.2]; exact hq, hd, n, Reps.fill ds vs r⟩
  | .lst ds, v, h => by
    unfold Rep at h ⊢
    obtain ⟨q, vs, e, hq, n, r⟩ := h
    exact ⟨q, vs, e, by rw [upd_ne n.of_hold.2]; exact hq, n, Reps.fill ds vs r⟩
  | .arg ds, v, h => by
    unfold Rep at h ⊢
    obtain ⟨q, vs, e, hq, r⟩ := h
    refine ⟨q, vs, e, ?_, Reps.fill ds vs r⟩
    rcases hq with ⟨hr, n⟩ | hq
    · refine .inl ⟨?_, n⟩
      rcases hr with h1 | ⟨z, h1⟩
      · exact .inl (by rw [upd_ne n.of_hold.2]; exact h1)
      · exact .inr ⟨z, by rw [upd_ne n.of_hold.2]; exact h1⟩
    · exact .inr hq
  | .nod, v, h => by
    unfold Rep at h ⊢
    obtain ⟨q, e, hq, n⟩ := h
    exact ⟨q, e, by rw [upd_ne n.of_hold.2]; exact hq, n⟩
theorem Reps.fill {p : Addr} {o : HO} : ∀ (ds : List D) (vs : List V), Reps K (m.hold p) H ds vs → Reps K (m.hold p) (upd H p o) ds vs
  | [], _, h => by unfold Reps at h ⊢; exact h
  | d :: ds, vs, h => by
    unfold Reps at h ⊢
    obtain ⟨v, r, e, h1, h2⟩ := h
    exact ⟨v, r, e, Rep.fill d v h1, Reps.fill ds r h2⟩
end
mutual
/-- it is full: let go -/
theorem Rep.free {p : Addr} : ∀ (d : D) (v : V), Rep K (m.hold p) H d v → Rep K m H d v
  | .non, _, h => by unfold Rep at h ⊢; exact h
  | .bl _, _, h => by unfold Rep at h ⊢; exact h
  | .int _, _, h => by unfold Rep at h ⊢; exact h
  | .str _, _, h => by unfold Rep at h ⊢; exact h
  | .rep _, _, h => by unfold Rep at h ⊢; exact h
  | .ref k, _, h => by unfold Rep at h ⊢; exact h
  | .tup ds, v, h => by
    unfold Rep at h ⊢
    obtain ⟨q, vs, e, hq, n, r⟩ := h
    exact ⟨q, vs, e, hq, n.of_hold.1, Reps.free ds vs r⟩
  | .tud ds, v, h => by
    unfold Rep at h ⊢
    obtain ⟨q, vs, od, e, hq, hd, n, r⟩ := h
    exact ⟨q, vs, od, e, hq, hd, n.of_hold.1, Reps.free ds vs r⟩
  | .lst ds, v, h => by
    unfold Rep at h ⊢
    obtain ⟨q, vs, e, hq, n, r⟩ := h
    exact ⟨q, vs, e, hq, n.of_hold.1, Reps.free ds vs r⟩
  | .arg ds, v, h => by
    unfold Rep at h ⊢
    obtain ⟨q, vs, e, hq, r⟩ := h
    exact ⟨q, vs, e, hq.imp (fun ⟨z, n⟩ => ⟨z, n.of_hold.1⟩) id, Reps.free ds vs r⟩
  | .nod, v, h => by
    unfold Rep at h ⊢
    obtain ⟨q, e, hq, n⟩ := h
    exact ⟨q, e, hq, n.of_hold.1⟩
theorem Reps.free {p : Addr} : ∀ (ds : List D) (vs : List V), Reps K (m.hold p) H ds vs → Reps K m H ds vs
  | [], _, h => by unfold Reps at h ⊢; exact h
  | d :: ds, vs, h => by
    unfold Reps at h ⊢
    obtain ⟨v, r, e, h1, h2⟩ := h
    exact ⟨v, r, e, Rep.free d v h1, Reps.free ds r h2⟩
end
theorem RepKs.map {κ : Type} {m1 : Lbl} {H1 : Hp} (f : ∀ (d : D) (v : V), Rep K m H d v → Rep K m1 H1 d v) : ∀ {ds : List (κ × D)} {vs : List (κ × V)}, RepKs K m H ds vs → RepKs K m1 H1 ds vs
  | [], _, h => h
  | d :: ds, _, h => by
    obtain ⟨v, r, e, h1, h2⟩ := h
    exact ⟨v, r, e, f _ _ h1, RepKs.map f h2⟩
theorem ObAt.map {m1 : Lbl} {H1 : Hp} (f : ∀ (d : D) (v : V), Rep K m H d v → Rep K m1 H1 d v) (fs : ∀ (d : List D) (v : List V), Reps K m H d v → Reps K m1 H1 d v) {k : Nat} {o : Ob} (h : ObAt K m H k o) (hm : m1.l[k]? = m.l[k]?) (hk : ∀ a, m.l[k]? = some (some a) → H1 a = H a) : ObAt K m1 H1 k o := by
  cases o with
  | dead => exact hm.trans h
  | lst xs => obtain ⟨a, vs, e1, e2, r⟩ := h; exact ⟨a, vs, hm.trans e1, (hk a e1).trans e2, fs _ _ r⟩
  | dic xs => obtain ⟨a, vs, e1, e2, r⟩ := h; exact ⟨a, vs, hm.trans e1, (hk a e1).trans e2, RepKs.map f r⟩
  | dit xs => obtain ⟨a, vs, e1, e2, r⟩ := h; exact ⟨a, vs, hm.trans e1, (hk a e1).trans e2, RepKs.map f r⟩
  | dil xs => obtain ⟨a, vs, e1, ⟨o, e2⟩, r⟩ := h; exact ⟨a, vs, hm.trans e1, ⟨o, (hk a e1).trans e2⟩, RepKs.map f r⟩
theorem RelS.hold {p : Addr} {o : HO} (r : RelS K m S H) (hp : H p = none) (ho : NT o := by intro _ h; cases h) : RelS K (m.hold p) S (upd H p o) := by
  refine ⟨r.len, fun k u e => (r.at_ k u e).map (Rep.hold hp) (Reps.hold hp) rfl fun a ea => ?_, r.inj, fun a h => ?_⟩
  · obtain ⟨z, q⟩ := r.there ea
    exact upd_ne (ne_of_none q hp)
  · rcases List.mem_cons.mp h with rfl | h
    · exact ⟨⟨o, upd_same, ho⟩, (r.fresh hp).1⟩
    · obtain ⟨⟨u, e, nt⟩, q⟩ := r.rsv a h
      exact ⟨⟨u, by rw [upd_ne (ne_of_none e hp)]; exact e, nt⟩, q⟩
theorem RelS.fill {p : Addr} {o : HO} (r : RelS K (m.hold p) S H) (ho : NT o := by intro _ h; cases h) : RelS K (m.hold p) S (upd H p o) := by
  refine ⟨r.len, fun k u e => (r.at_ k u e).map Rep.fill Reps.fill rfl fun a ea => ?_, r.inj, fun a h => ?_⟩
  · exact upd_ne fun z => (r.rsv p List.mem_cons_self).2 k (z ▸ ea)
  · obtain ⟨⟨u, e, nt⟩, q⟩ := r.rsv a h
    refine ⟨?_, q⟩
    by_cases hz : a = p
    · subst hz; exact ⟨o, upd_same, ho⟩
    · exact ⟨u, by rw [upd_ne hz]; exact e, nt⟩
theorem RelS.free {p : Addr} (r : RelS K (m.hold p) S H) : RelS K m S H :=
  ⟨r.len, fun k u e => (r.at_ k u e).map Rep.free Reps.free rfl fun a _ => rfl, r.inj, fun a h => r.rsv a (List.mem_cons_of_mem _ h)⟩
theorem RelL.hold {L : Loc} {σ : L2.St} {p : Addr} {o : HO} (h : RelL K m H L σ) (hp : H p = none) : RelL K (m.hold p) (upd H p o) L σ :=
  ⟨h.len, fun i d e => let ⟨v, e1, r⟩ := h.at_ i d e; ⟨v, e1, Rep.hold hp d v r⟩⟩
theorem RelL.fill {L : Loc} {σ : L2.St} {p : Addr} {o : HO} (h : RelL K (m.hold p) H L σ) : RelL K (m.hold p) (upd H p o) L σ :=
  ⟨h.len, fun i d e => let ⟨v, e1, r⟩ := h.at_ i d e; ⟨v, e1, Rep.fill d v r⟩⟩
/-- from the hold to its end -/
theorem Ext.free {p : Addr} (x : Ext (m.hold p) m' (upd H p (.lst [])) H') {vs : List V} (hp : H p = none) (r : RelS K m S H) : Ext m ⟨m'.l, m.r⟩ H (upd H' p (.lst vs)) where
  keep := fun a o e n => by
    have hne := ne_of_none e hp
    rw [upd_ne hne]
    exact x.keep a o (by rw [upd_ne hne]; exact e) (n.hold hne)
  stay := fun a e => by
    by_cases h : a = p
    · subst h; exact hp
    · rw [upd_ne h] at e
      have := x.stay a e
      rw [upd_ne h] at this
      exact this
  new := fun k a e => by
    rcases x.new k a e with q | q
    · exact .inl q
    · by_cases h : a = p
      · subst h; exact .inr hp
      · rw [upd_ne h] at q; exact .inr q
  old := fun k hk => x.old k hk
  len := x.len
  res := rfl
  fix := fun a h => by
    obtain ⟨⟨u, e, _⟩, _⟩ := r.rsv a h
    have hne := ne_of_none e hp
    rw [upd_ne hne, x.fix a (List.mem_cons_of_mem _ h), upd_ne hne]
  frz := fun a o u e => by
    have hne := ne_of_none e hp
    rw [upd_ne hne]
    exact x.frz a o u (by rw [upd_ne hne]; exact e)
end
end DS
namespace DS
open PySem PySem.Spec PyProof.Rows L2

abbrev EF := Loc → Sto → Option (D × Sto)
abbrev TF := Loc → Sto → Option (Bool × Sto)
abbrev AF := Loc → Sto → Option (List D × Sto)
inductive Flo where
  | nx | bk | ct | rt (d : D)
abbrev SF := Loc → Sto → Option (Flo × Loc × Sto)

/-- a condition on the way -/
noncomputable def chk {α : Type} (p : Prop) (x : Option α) : Option α := by classical exact if p then x else none
theorem chk_pos {α : Type} {p : Prop} {x : Option α} (h : p) : chk p x = x := by unfold chk; exact if_pos h
theorem chk_some {α : Type} {p : Prop} {x : Option α} {y : α} (h : chk p x = some y) : p ∧ x = some y := by
  unfold chk at h
  by_cases hp : p
  · rw [if_pos hp] at h; exact ⟨hp, h⟩
  · rw [if_neg hp] at h; cases h

def teOf (K : PySem.W.Frag) (f : EF) : TE := fun σ H Q => ∃ m L S d S', RelL K m H L σ ∧ RelS K m S H ∧ f L S = some (d, S') ∧ ∀ m' H' v, Ext m m' H H' → RelS K m' S' H' → Rep K m' H' d v → Q v H'
def ttOf (K : PySem.W.Frag) (f : TF) : TT := fun σ H Q => ∃ m L S b S', RelL K m H L σ ∧ RelS K m S H ∧ f L S = some (b, S') ∧ ∀ m' H', Ext m m' H H' → RelS K m' S' H' → Q b H'
def taOf (K : PySem.W.Frag) (f : AF) : TA := fun σ H Q => ∃ m L S ds S', RelL K m H L σ ∧ RelS K m S H ∧ f L S = some (ds, S') ∧ ∀ m' H' vs, Ext m m' H H' → RelS K m' S' H' → Reps K m' H' ds vs → Q vs H'
/-- what is wanted behind a statement -/
def floOk (K : PySem.W.Frag) (E : Ends) (m : Lbl) (H : Hp) (L' : Loc) (S' : Sto) : Flo → Prop
  | .nx => ∀ m' σ' H', Ext m m' H H' → RelL K m' H' L' σ' → RelS K m' S' H' → E.nx σ' H'
  | .bk => ∀ m' σ' H', Ext m m' H H' → RelL K m' H' L' σ' → RelS K m' S' H' → E.bk σ' H'
  | .ct => ∀ m' σ' H', Ext m m' H H' → RelL K m' H' L' σ' → RelS K m' S' H' → E.ct σ' H'
  | .rt d => ∀ m' H' v, Ext m m' H H' → RelS K m' S' H' → Rep K m' H' d v → E.rt v H'
def tsOf (K : PySem.W.Frag) (f : SF) : TS := fun E σ H => ∃ m L S r L' S', RelL K m H L σ ∧ RelS K m S H ∧ f L S = some (r, L', S') ∧ floOk K E m H L' S' r

section
variable {X : Cx}
theorem pe_imp {e : Expr} {t t' : TE} (h : PE X e t) (i : ∀ σ H Q, t' σ H Q → t σ H Q) : PE X e t' := ⟨fun pins s σ H Q I q => h.run pins s σ H Q I (i σ H Q q)⟩
theorem pt_imp {e : Expr} {t t' : TT} (h : PT X e t) (i : ∀ σ H Q, t' σ H Q → t σ H Q) : PT X e t' := ⟨fun pins s σ H Q I q => h.run pins s σ H Q I (i σ H Q q)⟩
theorem pw_imp {e : Expr} {t t' : TT} (h : PW X e t) (i : ∀ σ H Q, t' σ H Q → t σ H Q) : PW X e t' := ⟨fun wh pins s σ H Q I q => h.run wh pins s σ H Q I (i σ H Q q)⟩
theorem pa_imp {es : List Expr} {t t' : TA} (h : PA X es t) (i : ∀ σ H Q, t' σ H Q → t σ H Q) : PA X es t' := ⟨fun pos pins s σ H Q I q => h.run pos pins s σ H Q I (i σ H Q q)⟩
theorem ps_imp {e : Stmt} {t t' : TS} (h : PS X e t) (i : ∀ D σ H, t' D σ H → t D σ H) : PS X e t' := ⟨fun pins s σ H D I q => h.run pins s σ H D I (i D σ H q)⟩
theorem pss_imp {e : List Stmt} {t t' : TS} (h : PSs X e t) (i : ∀ D σ H, t' D σ H → t D σ H) : PSs X e t' := ⟨fun pins s σ H D I q => h.run pins s σ H D I (i D σ H q)⟩
end

/-! ### combinators of expressions -/
def eVar (i : Nat) : EF := fun L S => (L[i]?).bind fun o => o.bind fun d => some (d, S)
def eC (d : D) : EF := fun _ S => some (d, S)
def eOp2 (g : D → D → Sto → Option (D × Sto)) (f1 f2 : EF) : EF := fun L S => (f1 L S).bind fun p => (f2 L p.2).bind fun q => g p.1 q.1 q.2
def eOp1 (g : D → Sto → Option (D × Sto)) (f1 : EF) : EF := fun L S => (f1 L S).bind fun p => g p.1 p.2
def eIf (t : TF) (f1 f2 : EF) : EF := fun L S => (t L S).bind fun p => if p.1 = true then f1 L p.2 else f2 L p.2
def eAnd (f1 f2 : EF) : EF := fun L S => (f1 L S).bind fun p => match p.1 with | .bl true => f2 L p.2 | .bl false => some (.bl false, p.2) | _ => none
def eOr (f1 f2 : EF) : EF := fun L S => (f1 L S).bind fun p => match p.1 with | .bl true => some (.bl true, p.2) | .bl false => f2 L p.2 | _ => none
def eNot (f1 : EF) : EF := fun L S => (f1 L S).bind fun p => match p.1 with | .bl b => some (.bl (!b), p.2) | _ => none
def aNil : AF := fun _ S => some ([], S)
def aCons (f : EF) (g : AF) : AF := fun L S => (f L S).bind fun p => (g L p.2).bind fun q => some (p.1 :: q.1, q.2)
def eTup (f : AF) : EF := fun L S => (f L S).bind fun p => if p.1.length ≤ sizeLine then some (.tup p.1, p.2) else none
def eLst (f : AF) : EF := fun L S => (f L S).bind fun p => if p.1.length ≤ sizeLine then some (.lst p.1, p.2) else none
def eLstM (f : AF) : EF := fun L S => (f L S).bind fun p => if p.1.length ≤ sizeLine then some (.ref p.2.length, p.2 ++ [.lst p.1]) else none
def eFun (g : List D → Sto → Option (D × Sto)) (f : AF) : EF := fun L S => (f L S).bind fun p => g p.1 p.2
/-- tests -/
def bVal (f : EF) : TF := fun L S => (f L S).bind fun p => match p.1 with | .bl b => some (b, p.2) | _ => none
def bTru (g : D → Sto → Option Bool) (f : EF) : TF := fun L S => (f L S).bind fun p => (g p.1 p.2).bind fun b => some (b, p.2)
def bAnd (t u : TF) : TF := fun L S => (t L S).bind fun p => if p.1 = true then u L p.2 else some (false, p.2)
def bOr (t u : TF) : TF := fun L S => (t L S).bind fun p => if p.1 = true then some (true, p.2) else u L p.2
def bNot (t : TF) : TF := fun L S => (t L S).bind fun p => some (!p.1, p.2)

/-- an operation by values: what HandS asks, from what the data give -/
def Op2Ok (K : PySem.W.Frag) (r : R2) (g : D → D → Sto → Option (D × Sto)) : Prop :=
  ∀ (m : Lbl) (S : Sto) (H : Hp) (a b d : D) (x y : V) (S' : Sto) (Q : VK), RelS K m S H → Rep K m H a x → Rep K m H b y → g a b S = some (d, S') →
    (∀ m' H' v, Ext m m' H H' → RelS K m' S' H' → Rep K m' H' d v → Q v H') → r x y H Q
def Op1Ok (K : PySem.W.Frag) (r : V → Hp → VK → Prop) (g : D → Sto → Option (D × Sto)) : Prop :=
  ∀ (m : Lbl) (S : Sto) (H : Hp) (a d : D) (x : V) (S' : Sto) (Q : VK), RelS K m S H → Rep K m H a x → g a S = some (d, S') →
    (∀ m' H' v, Ext m m' H H' → RelS K m' S' H' → Rep K m' H' d v → Q v H') → r x H Q
def CallOk (K : PySem.W.Frag) (r : List V → Hp → VK → Prop) (g : List D → Sto → Option (D × Sto)) : Prop :=
  ∀ (m : Lbl) (S : Sto) (H : Hp) (ds : List D) (d : D) (xs : List V) (S' : Sto) (Q : VK), RelS K m S H → Reps K m H ds xs → g ds S = some (d, S') →
    (∀ m' H' v, Ext m m' H H' → RelS K m' S' H' → Rep K m' H' d v → Q v H') → r xs H Q

section
variable {X : Cx} {K : PySem.W.Frag}
/-- two expressions in a row -/
theorem two_of {f1 f2 : EF} {g : D → D → Sto → Option (D × Sto)} {r : R2} (ho : Op2Ok K r g) {σ : L2.St} {H : Hp} {Q : VK} (h : teOf K (eOp2 g f1 f2) σ H Q) : tOp r (teOf K f1) (teOf K f2) σ H Q := by
  obtain ⟨m, L, S, d, S', hl, hs, e, q⟩ := h
  obtain ⟨⟨a, S1⟩, e1, e⟩ := Option.bind_eq_some_iff.mp e
  obtain ⟨⟨b, S2⟩, e2, e⟩ := Option.bind_eq_some_iff.mp e
  refine ⟨m, L, S, a, S1, hl, hs, e1, fun m1 H1 x x1 s1 r1 => ?_⟩
  refine ⟨m1, L, S1, b, S2, hl.ext x1, s1, e2, fun m2 H2 y x2 s2 r2 => ?_⟩
  exact ho m2 S2 H2 a b d x y S' Q s2 (Rep.ext x2 _ _ r1) r2 e fun m3 H3 v x3 s3 r3 => q m3 H3 v (x1.trans (x2.trans x3)) s3 r3

theorem de_var (i : Nat) {x : Str} {pos : Pos} (hN : X.N[i]? = some x := by rfl) (hv : Vis X.env.scope x := by first | exact Or.inl rfl | exact Or.inr (Or.inl rfl) | exact Or.inr (Or.inr rfl)) (hd : (x == ("__debug__" : Str)) = false := by decide)
    (hcd : (x == ("__classdict__" : Str)) = false := by decide) : PE X (.Name x pos) (teOf X.K (eVar i)) :=
  pe_imp (pe_var hN hv hd hcd) fun σ H Q ⟨m, L, S, d, S', hl, hs, e, q⟩ => by
    obtain ⟨o, e1, e⟩ := Option.bind_eq_some_iff.mp e
    obtain ⟨d', e2, e⟩ := Option.bind_eq_some_iff.mp e
    subst e2
    cases e
    obtain ⟨v, hv, r⟩ := hl.at_ i d e1
    exact ⟨v, hv, q m H v (Ext.refl m H) hs r⟩
theorem te_c {d : D} {v : V} (hr : ∀ m H, Rep K m H d v) {σ : L2.St} {H : Hp} {Q : VK} (h : teOf K (eC d) σ H Q) : tC v σ H Q := by
  obtain ⟨m, L, S, d', S', hl, hs, e, q⟩ := h
  cases e
  exact q m H v (Ext.refl m H) hs (hr m H)
theorem de_int {i j pos} : PE X (.Constant (.int i) j pos) (teOf X.K (eC (.int i))) := pe_imp pe_int fun _ _ _ h => te_c (fun _ _ => by unfold Rep; rfl) h
theorem de_bl {b j pos} : PE X (.Constant (.bool b) j pos) (teOf X.K (eC (.bl b))) := pe_imp pe_bl fun _ _ _ h => te_c (fun _ _ => by unfold Rep; rfl) h
theorem de_non {j pos} : PE X (.Constant .none j pos) (teOf X.K (eC .non)) := pe_imp pe_non fun _ _ _ h => te_c (fun _ _ => by unfold Rep; rfl) h
theorem de_str {x j pos} : PE X (.Constant (.str x) j pos) (teOf X.K (eC (.str x))) := pe_imp pe_str fun _ _ _ h => te_c (fun _ _ => by unfold Rep; rfl) h
/-- a module's constant number -/
theorem de_globI {x : Str} {i : Int} {t : Tok} {pos : Pos} (hg : Gl X x) (hm : X.mg x = some (.int i t)) (hd : (x == ("__debug__" : Str)) = false := by decide) : PE X (.Name x pos) (teOf X.K (eC (.int i))) :=
  pe_imp (pe_glob (v := .int i) hg hm ⟨t, rfl⟩ hd) fun _ _ _ h => te_c (fun _ _ => by unfold Rep; rfl) h

variable {a b : Expr} {f1 f2 : EF} {pos : Pos}
theorem de_op {op : Operator} {r : R2} {g : D → D → Sto → Option (D × Sto)} (ho : OpR X (binaryOp op) r) (hk : Op2Ok X.K r g) (ha : PE X a (teOf X.K f1)) (hb : PE X b (teOf X.K f2)) : PE X (.BinOp a op b pos) (teOf X.K (eOp2 g f1 f2)) :=
  pe_imp (pe_op ho ha hb) fun _ _ _ h => two_of hk h
theorem de_un {op : UnaryOp} {r : V → Hp → VK → Prop} {g : D → Sto → Option (D × Sto)} (ho : UnR X (unaryOp op) r) (hk : Op1Ok X.K r g) (ha : PE X a (teOf X.K f1)) : PE X (.UnaryOp op a pos) (teOf X.K (eOp1 g f1)) :=
  pe_imp (pe_un ho ha) fun σ H Q ⟨m, L, S, d, S', hl, hs, e, q⟩ => by
    obtain ⟨⟨a, S1⟩, e1, e⟩ := Option.bind_eq_some_iff.mp e
    refine ⟨m, L, S, a, S1, hl, hs, e1, fun m1 H1 x x1 s1 r1 => ?_⟩
    exact hk m1 S1 H1 a d x S' Q s1 r1 e fun m2 H2 v x2 s2 r2 => q m2 H2 v (x1.trans x2) s2 r2
theorem de_cmp {op : CmpOp} {r : R2} {g : D → D → Sto → Option (D × Sto)} (ho : OpR X (compareOp op) r) (hk : Op2Ok X.K r g) (ha : PE X a (teOf X.K f1)) (hb : PE X b (teOf X.K f2)) (hm : behindInMarks op b = false := by first | exact nomark _ | rfl) :
    PE X (.Compare a [op] [b] pos) (teOf X.K (eOp2 g f1 f2)) :=
  pe_imp (pe_cmpR ho ha hb hm) fun _ _ _ h => two_of hk h
theorem de_ix {r : R2} {g : D → D → Sto → Option (D × Sto)} (ho : IxR X r) (hk : Op2Ok X.K r g) (ha : PE X a (teOf X.K f1)) (hb : PE X b (teOf X.K f2)) (hs : PlainIx b := by exact fun _ _ => rfl) : PE X (.Subscript a b pos) (teOf X.K (eOp2 g f1 f2)) :=
  pe_imp (pe_ix ho ha hb hs) fun _ _ _ h => two_of hk h
theorem de_if {c : Expr} {t : TF} (hc : PT X c (ttOf X.K t)) (ha : PE X a (teOf X.K f1)) (hb : PE X b (teOf X.K f2)) : PE X (.IfExp c a b pos) (teOf X.K (eIf t f1 f2)) :=
  pe_imp (pe_ifExp hc ha hb) fun σ H Q ⟨m, L, S, d, S', hl, hs, e, q⟩ => by
    obtain ⟨⟨k, S1⟩, e1, e⟩ := Option.bind_eq_some_iff.mp e
    refine ⟨m, L, S, k, S1, hl, hs, e1, fun m1 H1 x1 s1 => ?_⟩
    cases k with
    | true => exact iteT ⟨m1, L, S1, d, S', hl.ext x1, s1, by simpa using e, fun m2 H2 v x2 s2 r2 => q m2 H2 v (x1.trans x2) s2 r2⟩
    | false => exact iteF ⟨m1, L, S1, d, S', hl.ext x1, s1, by simpa using e, fun m2 H2 v x2 s2 r2 => q m2 H2 v (x1.trans x2) s2 r2⟩
theorem de_one {op} (h : PE X a (teOf X.K f1)) : PE X (.BoolOp op [a] pos) (teOf X.K f1) := pe_one h
theorem rep_bl {m : Lbl} {H : Hp} {b : Bool} {v : V} (h : Rep K m H (.bl b) v) : v = .bl b := by unfold Rep at h; exact h
theorem rep_int {m : Lbl} {H : Hp} {b : Int} {v : V} (h : Rep K m H (.int b) v) : v = .int b := by unfold Rep at h; exact h
theorem rep_str {m : Lbl} {H : Hp} {b : Str} {v : V} (h : Rep K m H (.str b) v) : v = .str b := by unfold Rep at h; exact h
theorem rep_rep {m : Lbl} {H : Hp} {b : Str} {v : V} (h : Rep K m H (.rep b) v) : v = .str b := by unfold Rep at h; exact h
theorem rep_non {m : Lbl} {H : Hp} {v : V} (h : Rep K m H .non v) : v = .non := by unfold Rep at h; exact h
theorem bl_rep {m : Lbl} {H : Hp} {b : Bool} : Rep K m H (.bl b) (.bl b) := by unfold Rep; rfl
theorem int_rep {m : Lbl} {H : Hp} {b : Int} : Rep K m H (.int b) (.int b) := by unfold Rep; rfl
theorem str_rep {m : Lbl} {H : Hp} {b : Str} : Rep K m H (.str b) (.str b) := by unfold Rep; rfl
theorem rep_rep' {m : Lbl} {H : Hp} {b : Str} : Rep K m H (.rep b) (.str b) := by unfold Rep; rfl
theorem non_rep {m : Lbl} {H : Hp} : Rep K m H .non .non := by unfold Rep; rfl
theorem de_and {rest : List Expr} (ha : PE X a (teOf X.K f1)) (hb : PE X (.BoolOp .And (b :: rest) pos) (teOf X.K f2)) : PE X (.BoolOp .And (a :: b :: rest) pos) (teOf X.K (eAnd f1 f2)) :=
  pe_imp (pe_and ha hb) fun σ H Q ⟨m, L, S, d, S', hl, hs, e, q⟩ => by
    obtain ⟨⟨z, S1⟩, e1, e⟩ := Option.bind_eq_some_iff.mp e
    refine ⟨m, L, S, z, S1, hl, hs, e1, fun m1 H1 x x1 s1 r1 => ?_⟩
    cases z with
    | bl k =>
      cases rep_bl r1
      refine ⟨k, rfl, ?_⟩
      cases k with
      | true => exact iteT ⟨m1, L, S1, d, S', hl.ext x1, s1, e, fun m2 H2 v x2 s2 r2 => q m2 H2 v (x1.trans x2) s2 r2⟩
      | false =>
        cases e
        exact iteF (q m1 H1 _ x1 s1 bl_rep)
    | _ => cases e
theorem de_or {rest : List Expr} (ha : PE X a (teOf X.K f1)) (hb : PE X (.BoolOp .Or (b :: rest) pos) (teOf X.K f2)) : PE X (.BoolOp .Or (a :: b :: rest) pos) (teOf X.K (eOr f1 f2)) :=
  pe_imp (pe_or ha hb) fun σ H Q ⟨m, L, S, d, S', hl, hs, e, q⟩ => by
    obtain ⟨⟨z, S1⟩, e1, e⟩ := Option.bind_eq_some_iff.mp e
    refine ⟨m, L, S, z, S1, hl, hs, e1, fun m1 H1 x x1 s1 r1 => ?_⟩
    cases z with
    | bl k =>
      cases rep_bl r1
      refine ⟨k, rfl, ?_⟩
      cases k with
      | false => exact iteF ⟨m1, L, S1, d, S', hl.ext x1, s1, e, fun m2 H2 v x2 s2 r2 => q m2 H2 v (x1.trans x2) s2 r2⟩
      | true =>
        cases e
        exact iteT (q m1 H1 _ x1 s1 bl_rep)
    | _ => cases e
theorem de_not (ha : PE X a (teOf X.K f1)) : PE X (.UnaryOp .Not a pos) (teOf X.K (eNot f1)) :=
  pe_imp (pe_not ha) fun σ H Q ⟨m, L, S, d, S', hl, hs, e, q⟩ => by
    obtain ⟨⟨z, S1⟩, e1, e⟩ := Option.bind_eq_some_iff.mp e
    refine ⟨m, L, S, z, S1, hl, hs, e1, fun m1 H1 x x1 s1 r1 => ?_⟩
    cases z with
    | bl k =>
      cases rep_bl r1
      cases e
      exact ⟨k, rfl, q m1 H1 _ x1 s1 bl_rep⟩
    | _ => cases e

/-! ### argument lists, displays -/
theorem da_nil : PA X [] (taOf X.K aNil) := pa_imp pa_nil fun σ H Q ⟨m, L, S, d, S', hl, hs, e, q⟩ => by
  cases e
  exact q m H [] (Ext.refl m H) hs Reps.nil
theorem da_cons {e : Expr} {es : List Expr} {f : EF} {g : AF} (ha : PE X e (teOf X.K f)) (hr : PA X es (taOf X.K g)) (hs : starEach (e :: es) X.env = (false, eval e X.env) :: starEach es X.env := by rfl) : PA X (e :: es) (taOf X.K (aCons f g)) :=
  pa_imp (pa_cons ha hr hs) fun σ H Q ⟨m, L, S, d, S', hl, hs, e, q⟩ => by
    obtain ⟨⟨z, S1⟩, e1, e⟩ := Option.bind_eq_some_iff.mp e
    obtain ⟨⟨zs, S2⟩, e2, e⟩ := Option.bind_eq_some_iff.mp e
    cases e
    refine ⟨m, L, S, z, S1, hl, hs, e1, fun m1 H1 x x1 s1 r1 => ?_⟩
    refine ⟨m1, L, S1, zs, S2, hl.ext x1, s1, e2, fun m2 H2 y x2 s2 r2 => ?_⟩
    exact q m2 H2 (x :: y) (x1.trans x2) s2 (Reps.cons (Rep.ext x2 _ _ r1) r2)
/-- a new tuple, a new list -/
theorem tup_new {m : Lbl} {S : Sto} {H : Hp} {p : Addr} {ds : List D} {vs : List V} (s : RelS K m S H) (r : Reps K m H ds vs) (hp : H p = none) : Ext m m H (upd H p (.tup vs)) ∧ RelS K m S (upd H p (.tup vs)) ∧ Rep K m (upd H p (.tup vs)) (.tup ds) (.ref p) := by
  refine ⟨Ext.laid s hp, s.laid hp, ?_⟩
  unfold Rep
  exact ⟨p, vs, rfl, upd_same, s.fresh hp, Reps.ext (Ext.laid s hp) _ _ r⟩
theorem lst_new {m : Lbl} {S : Sto} {H : Hp} {p : Addr} {ds : List D} {vs : List V} (s : RelS K m S H) (r : Reps K m H ds vs) (hp : H p = none) : Ext m m H (upd H p (.lst vs)) ∧ RelS K m S (upd H p (.lst vs)) ∧ Rep K m (upd H p (.lst vs)) (.lst ds) (.ref p) := by
  refine ⟨Ext.laid s hp, s.laid hp, ?_⟩
  unfold Rep
  exact ⟨p, vs, rfl, upd_same, s.fresh hp, Reps.ext (Ext.laid s hp) _ _ r⟩
theorem ref_new {m : Lbl} {S : Sto} {H : Hp} {p : Addr} {ds : List D} {vs : List V} (s : RelS K m S H) (r : Reps K m H ds vs) (hp : H p = none) :
    Ext m (m.push p) H (upd H p (.lst vs)) ∧ RelS K (m.push p) (S ++ [.lst ds]) (upd H p (.lst vs)) ∧ Rep K (m.push p) (upd H p (.lst vs)) (.ref S.length) (.ref p) := by
  have e : (m.push p).l[m.l.length]? = some (some p) := by simp [Lbl.push]
  refine ⟨Ext.born s hp, s.born hp ⟨p, vs, e, upd_same, Reps.ext (Ext.born s hp) _ _ r⟩, ?_⟩
  unfold Rep
  rw [← s.len]
  exact ⟨by simp [Lbl.push], fun q eq => by rw [e] at eq; cases eq; rfl⟩
theorem de_tup {es : List Expr} {f : AF} {x1} (h : PA X es (taOf X.K f)) : PE X (.Tuple es x1 pos) (teOf X.K (eTup f)) :=
  pe_imp (pe_tup h) fun σ H Q ⟨m, L, S, d, S', hl, hs, e, q⟩ => by
    obtain ⟨⟨z, S1⟩, e1, e⟩ := Option.bind_eq_some_iff.mp e
    refine ⟨m, L, S, z, S1, hl, hs, e1, fun m1 H1 x x1 s1 r1 => ?_⟩
    by_cases hz : z.length ≤ sizeLine
    · simp only [hz, if_true] at e
      cases e
      refine ⟨by rw [r1.length]; exact hz, fun p hp => ?_⟩
      obtain ⟨y1, y2, y3⟩ := tup_new s1 r1 hp
      exact q m1 _ _ (x1.trans y1) y2 y3
    · simp only [hz, if_false] at e
      cases e
theorem de_lst {es : List Expr} {f : AF} (h : PA X es (taOf X.K f)) : PE X (.List es pos) (teOf X.K (eLst f)) :=
  pe_imp (pe_lst h) fun σ H Q ⟨m, L, S, d, S', hl, hs, e, q⟩ => by
    obtain ⟨⟨z, S1⟩, e1, e⟩ := Option.bind_eq_some_iff.mp e
    refine ⟨m, L, S, z, S1, hl, hs, e1, fun m1 H1 x x1 s1 r1 => ?_⟩
    by_cases hz : z.length ≤ sizeLine
    · simp only [hz, if_true] at e
      cases e
      refine ⟨by rw [r1.length]; exact hz, fun p hp => ?_⟩
      obtain ⟨y1, y2, y3⟩ := lst_new s1 r1 hp
      exact q m1 _ _ (x1.trans y1) y2 y3
    · simp only [hz, if_false] at e
      cases e
theorem de_lstM {es : List Expr} {f : AF} (h : PA X es (taOf X.K f)) : PE X (.List es pos) (teOf X.K (eLstM f)) :=
  pe_imp (pe_lst h) fun σ H Q ⟨m, L, S, d, S', hl, hs, e, q⟩ => by
    obtain ⟨⟨z, S1⟩, e1, e⟩ := Option.bind_eq_some_iff.mp e
    refine ⟨m, L, S, z, S1, hl, hs, e1, fun m1 H1 x x1 s1 r1 => ?_⟩
    by_cases hz : z.length ≤ sizeLine
    · simp only [hz, if_true] at e
      cases e
      refine ⟨by rw [r1.length]; exact hz, fun p hp => ?_⟩
      obtain ⟨y1, y2, y3⟩ := ref_new s1 r1 hp
      exact q _ _ _ (x1.trans y1) y2 y3
    · simp only [hz, if_false] at e
      cases e
/-- a call of a built-in -/
theorem te_call {f : AF} {g : List D → Sto → Option (D × Sto)} {r : List V → Hp → VK → Prop} (hk : CallOk K r g) {σ : L2.St} {H : Hp} {Q : VK} (h : teOf K (eFun g f) σ H Q) : tCB r (taOf K f) σ H Q := by
  obtain ⟨m, L, S, d, S', hl, hs, e, q⟩ := h
  obtain ⟨⟨z, S1⟩, e1, e⟩ := Option.bind_eq_some_iff.mp e
  refine ⟨m, L, S, z, S1, hl, hs, e1, fun m1 H1 x x1 s1 r1 => ?_⟩
  exact hk m1 S1 H1 z d x S' Q s1 r1 e fun m2 H2 v x2 s2 r2 => q m2 H2 v (x1.trans x2) s2 r2
theorem de_callB {x : Str} {p : Pos} {e : Expr} {es : List Expr} {id : String} {r : List V → Hp → VK → Prop} {f : AF} {g : List D → Sto → Option (D × Sto)} (hc : CallR X (.builtin id) r) (hk : CallOk X.K r g) (hm : X.mg x = none) (hv : bootBuiltins x = some (.builtin id)) (ha : PA X (e :: es) (taOf X.K f))
    (hg : Gl X x := by rfl) (hn : x ≠ "__name__" := by decide) (hdb : (x == ("__debug__" : Str)) = false := by decide)
    (he : starEach (e :: es) X.env = (false, eval e X.env) :: starEach es X.env := by rfl) (hpl : (backTo pos (starEach es X.env)).any (·.1) = false := by rfl) : PE X (.Call (.Name x p) (e :: es) [] pos) (teOf X.K (eFun g f)) :=
  pe_imp (pe_callB hc hg hm hv ha hn hdb he hpl) fun _ _ _ h => te_call hk h
theorem de_callTy {x : Str} {p : Pos} {e : Expr} {es : List Expr} {T : String} {r : List V → Hp → VK → Prop} {f : AF} {g : List D → Sto → Option (D × Sto)} (hc : CallR X (.type T) r) (hk : CallOk X.K r g) (hm : X.mg x = none) (hv : bootBuiltins x = some (.type T)) (ha : PA X (e :: es) (taOf X.K f))
    (hg : Gl X x := by rfl) (hn : x ≠ "__name__" := by decide) (hdb : (x == ("__debug__" : Str)) = false := by decide)
    (he : starEach (e :: es) X.env = (false, eval e X.env) :: starEach es X.env := by rfl) (hpl : (backTo pos (starEach es X.env)).any (·.1) = false := by rfl) : PE X (.Call (.Name x p) (e :: es) [] pos) (teOf X.K (eFun g f)) :=
  pe_imp (pe_callTy hc hg hm hv ha hn hdb he hpl) fun _ _ _ h => te_call hk h

/-! ### tests -/
theorem db_val (ha : PE X a (teOf X.K f1)) (he : ∀ whole, isTrue a X.env whole = (do let v ← whole; standAt a.pos; holding [v] (truthy v)) := by intro _; rfl) : PT X a (ttOf X.K (bVal f1)) :=
  pt_imp (pt_val ha he) fun σ H Q ⟨m, L, S, d, S', hl, hs, e, q⟩ => by
    obtain ⟨⟨z, S1⟩, e1, e⟩ := Option.bind_eq_some_iff.mp e
    refine ⟨m, L, S, z, S1, hl, hs, e1, fun m1 H1 x x1 s1 r1 => ?_⟩
    cases z with
    | bl k =>
      cases rep_bl r1
      cases e
      exact ⟨_, rfl, q m1 H1 x1 s1⟩
    | _ => cases e
theorem db_cmp {op : CmpOp} {r : R2} {g : D → D → Sto → Option (D × Sto)} (ho : OpR X (compareOp op) r) (hk : Op2Ok X.K r g) (ha : PE X a (teOf X.K f1)) (hb : PE X b (teOf X.K f2)) (hm : behindInMarks op b = false := by first | exact nomark _ | rfl) :
    PT X (.Compare a [op] [b] pos) (ttOf X.K (bVal (eOp2 g f1 f2))) :=
  pt_imp (pt_cmpR ho ha hb hm) fun σ H Q ⟨m, L, S, d, S', hl, hs, e, q⟩ => by
    obtain ⟨⟨z, S1⟩, e1, e⟩ := Option.bind_eq_some_iff.mp e
    refine two_of hk ⟨m, L, S, z, S1, hl, hs, e1, fun m1 H1 x x1 s1 r1 => ?_⟩
    cases z with
    | bl k =>
      cases rep_bl r1
      cases e
      exact ⟨_, rfl, q m1 H1 x1 s1⟩
    | _ => cases e
theorem dw_and1 {t : TF} (ha : PT X a (ttOf X.K t)) : PW X (.BoolOp .And [a] pos) (ttOf X.K t) := pw_and1 ha
theorem dw_or1 {t : TF} (ha : PT X a (ttOf X.K t)) : PW X (.BoolOp .Or [a] pos) (ttOf X.K t) := pw_or1 ha
theorem dw_and {t u : TF} {rest : List Expr} (ha : PT X a (ttOf X.K t)) (hb : PW X (.BoolOp .And (b :: rest) pos) (ttOf X.K u)) : PW X (.BoolOp .And (a :: b :: rest) pos) (ttOf X.K (bAnd t u)) :=
  pw_imp (pw_and ha hb) fun σ H Q ⟨m, L, S, d, S', hl, hs, e, q⟩ => by
    obtain ⟨⟨k, S1⟩, e1, e⟩ := Option.bind_eq_some_iff.mp e
    refine ⟨m, L, S, k, S1, hl, hs, e1, fun m1 H1 x1 s1 => ?_⟩
    cases k with
    | true => exact iteT ⟨m1, L, S1, d, S', hl.ext x1, s1, by simpa using e, fun m2 H2 x2 s2 => q m2 H2 (x1.trans x2) s2⟩
    | false =>
      have e : some (false, S1) = some (d, S') := by simpa using e
      cases e
      exact iteF (q m1 H1 x1 s1)
theorem dw_or {t u : TF} {rest : List Expr} (ha : PT X a (ttOf X.K t)) (hb : PW X (.BoolOp .Or (b :: rest) pos) (ttOf X.K u)) : PW X (.BoolOp .Or (a :: b :: rest) pos) (ttOf X.K (bOr t u)) :=
  pw_imp (pw_or ha hb) fun σ H Q ⟨m, L, S, d, S', hl, hs, e, q⟩ => by
    obtain ⟨⟨k, S1⟩, e1, e⟩ := Option.bind_eq_some_iff.mp e
    refine ⟨m, L, S, k, S1, hl, hs, e1, fun m1 H1 x1 s1 => ?_⟩
    cases k with
    | false => exact iteF ⟨m1, L, S1, d, S', hl.ext x1, s1, by simpa using e, fun m2 H2 x2 s2 => q m2 H2 (x1.trans x2) s2⟩
    | true =>
      have e : some (true, S1) = some (d, S') := by simpa using e
      cases e
      exact iteT (q m1 H1 x1 s1)
theorem db_w {t : TF} (h : PW X a (ttOf X.K t)) : PT X a (ttOf X.K t) := h.pt
theorem db_not {t : TF} (ha : PT X a (ttOf X.K t)) : PT X (.UnaryOp .Not a pos) (ttOf X.K (bNot t)) :=
  pt_imp (pt_not ha) fun σ H Q ⟨m, L, S, d, S', hl, hs, e, q⟩ => by
    obtain ⟨⟨k, S1⟩, e1, e⟩ := Option.bind_eq_some_iff.mp e
    cases e
    exact ⟨m, L, S, k, S1, hl, hs, e1, fun m1 H1 x1 s1 => q m1 H1 x1 s1⟩
end
end DS
namespace DS
open PySem PySem.Spec PyProof.Rows L2

/-! ### statements -/
def sSeq (f g : SF) : SF := fun L S => (f L S).bind fun p => match p with | (.nx, L1, S1) => g L1 S1 | (r, L1, S1) => some (r, L1, S1)
def sSet (i : Nat) (f : EF) : SF := fun L S => (f L S).bind fun p => some (.nx, L.set i (some p.1), p.2)
def sExp (f : EF) : SF := fun L S => (f L S).bind fun p => some (.nx, L, p.2)
def sRet (f : EF) : SF := fun L S => (f L S).bind fun p => some (.rt p.1, L, p.2)
def sRetN : SF := fun L S => some (.rt .non, L, S)
def sNx : SF := fun L S => some (.nx, L, S)
def sBk : SF := fun L S => some (.bk, L, S)
def sCt : SF := fun L S => some (.ct, L, S)
def sNo : SF := fun _ _ => none
def sIf (t : TF) (f g : SF) : SF := fun L S => (t L S).bind fun p => if p.1 = true then f L p.2 else g L p.2
def sKill (ks : List Nat) (f : SF) : SF := fun L S => (f L S).bind fun p => some (p.1, kill p.2.1 ks, p.2.2)

theorem floOk.ext {K : PySem.W.Frag} {E : Ends} {m m1 : Lbl} {H H1 : Hp} {L' : Loc} {S' : Sto} {r : Flo} (x : Ext m m1 H H1) (h : floOk K E m H L' S' r) : floOk K E m1 H1 L' S' r := by
  cases r with
  | nx => exact fun m' σ' H' y l s => h m' σ' H' (x.trans y) l s
  | bk => exact fun m' σ' H' y l s => h m' σ' H' (x.trans y) l s
  | ct => exact fun m' σ' H' y l s => h m' σ' H' (x.trans y) l s
  | rt d => exact fun m' H' v y s r => h m' H' v (x.trans y) s r

section
variable {X : Cx} {pos : Pos} {e : Expr} {f : EF}
theorem dss_nil : PSs X [] (tsOf X.K sNx) := pss_imp pss_nil fun E σ H ⟨m, L, S, r, L', S', hl, hs, e, q⟩ => by
  cases e
  exact q m σ H (Ext.refl m H) hl hs
theorem dss_cons {st : Stmt} {rest : List Stmt} {f g : SF} (h1 : PS X st (tsOf X.K f)) (h2 : PSs X rest (tsOf X.K g)) : PSs X (st :: rest) (tsOf X.K (sSeq f g)) :=
  pss_imp (pss_cons h1 h2) fun E σ H ⟨m, L, S, r, L', S', hl, hs, e, q⟩ => by
    obtain ⟨⟨r1, L1, S1⟩, e1, e⟩ := Option.bind_eq_some_iff.mp e
    refine ⟨m, L, S, r1, L1, S1, hl, hs, e1, ?_⟩
    cases r1 with
    | nx => exact fun m1 σ1 H1 x1 l1 s1 => ⟨m1, L1, S1, r, L', S', l1, s1, e, q.ext x1⟩
    | bk => cases e; exact q
    | ct => cases e; exact q
    | rt d => cases e; exact q
theorem dss_one {st : Stmt} {f : SF} (h1 : PS X st (tsOf X.K f)) : PSs X [st] (tsOf X.K f) := pss_one h1
theorem ds_expr (he : PE X e (teOf X.K f)) (hs : swapsWith e none pos.line X.env = pure false := by rfl) : PS X (.Expr e pos) (tsOf X.K (sExp f)) :=
  ps_imp (ps_expr he hs) fun E σ H ⟨m, L, S, r, L', S', hl, hs, e, q⟩ => by
    obtain ⟨⟨z, S1⟩, e1, e⟩ := Option.bind_eq_some_iff.mp e
    cases e
    exact ⟨m, L, S, z, S1, hl, hs, e1, fun m1 H1 x x1 s1 r1 => q m1 σ H1 x1 (hl.ext x1) s1⟩
theorem ds_ret (he : PE X e (teOf X.K f)) : PS X (.Return (some e) pos) (tsOf X.K (sRet f)) :=
  ps_imp (ps_ret he) fun E σ H ⟨m, L, S, r, L', S', hl, hs, e, q⟩ => by
    obtain ⟨⟨z, S1⟩, e1, e⟩ := Option.bind_eq_some_iff.mp e
    cases e
    exact ⟨m, L, S, z, S1, hl, hs, e1, fun m1 H1 x x1 s1 r1 => q m1 H1 x x1 s1 r1⟩
theorem ds_retN : PS X (.Return none pos) (tsOf X.K sRetN) :=
  ps_imp ps_retN fun E σ H ⟨m, L, S, r, L', S', hl, hs, e, q⟩ => by
    cases e
    exact q m H _ (Ext.refl m H) hs non_rep
theorem ds_pass : PS X (.Pass pos) (tsOf X.K sNx) :=
  ps_imp ps_pass fun E σ H ⟨m, L, S, r, L', S', hl, hs, e, q⟩ => by
    cases e
    exact q m σ H (Ext.refl m H) hl hs
theorem ds_break : PS X (.Break pos) (tsOf X.K sBk) :=
  ps_imp ps_break fun E σ H ⟨m, L, S, r, L', S', hl, hs, e, q⟩ => by
    cases e
    exact q m σ H (Ext.refl m H) hl hs
theorem ds_cont : PS X (.Continue pos) (tsOf X.K sCt) :=
  ps_imp ps_continue fun E σ H ⟨m, L, S, r, L', S', hl, hs, e, q⟩ => by
    cases e
    exact q m σ H (Ext.refl m H) hl hs
theorem ds_never {st : Stmt} : PS X st (tsOf X.K sNo) :=
  ps_imp ps_never fun E σ H ⟨m, L, S, r, L', S', hl, hs, e, q⟩ => by cases e
theorem ds_set {i : Nat} {x : Str} {pos' : Pos} (hN : X.N.Nodup) (he : PE X e (teOf X.K f)) (hi : X.N[i]? = some x := by rfl) (hx : L2.Loc X.env.scope x := by first | exact Or.inl rfl | exact Or.inr rfl) (hs : swapsWith e (some (.Name x pos')) pos.line X.env = pure false := by rfl)
    (hf : X.fn x = true ∨ X.env.scope.names.lookup x = some .local := by first | exact .inl rfl | exact .inr rfl) : PS X (.Assign [.Name x pos'] e pos) (tsOf X.K (sSet i f)) :=
  ps_imp (ps_set (i := i) hN hi hx he hs hf) fun E σ H ⟨m, L, S, r, L', S', hl, hs, e, q⟩ => by
    obtain ⟨⟨z, S1⟩, e1, e⟩ := Option.bind_eq_some_iff.mp e
    cases e
    exact ⟨m, L, S, z, S1, hl, hs, e1, fun m1 H1 x x1 s1 r1 => q m1 _ H1 x1 ((hl.ext x1).set i r1) s1⟩
theorem ds_if {c : Expr} {a b : List Stmt} {t : TF} {f g : SF} (hc : PT X c (ttOf X.K t)) (ha : PSs X a (tsOf X.K f)) (hb : PSs X b (tsOf X.K g)) : PS X (.If c a b pos) (tsOf X.K (sIf t f g)) :=
  ps_imp (ps_if hc ha hb) fun E σ H ⟨m, L, S, r, L', S', hl, hs, e, q⟩ => by
    obtain ⟨⟨k, S1⟩, e1, e⟩ := Option.bind_eq_some_iff.mp e
    refine ⟨m, L, S, k, S1, hl, hs, e1, fun m1 H1 x1 s1 => ?_⟩
    cases k with
    | true => exact iteT ⟨m1, L, S1, r, L', S', hl.ext x1, s1, by simpa using e, q.ext x1⟩
    | false => exact iteF ⟨m1, L, S1, r, L', S', hl.ext x1, s1, by simpa using e, q.ext x1⟩
/-- names that nobody reads behind a block are forgotten -/
theorem ts_kill {K : PySem.W.Frag} {f : SF} (ks : List Nat) {E : Ends} {σ : L2.St} {H : Hp} (h : tsOf K (sKill ks f) E σ H) : tsOf K f E σ H := by
  obtain ⟨m, L, S, r, L', S', hl, hs, e, q⟩ := h
  obtain ⟨⟨r1, L1, S1⟩, e1, e⟩ := Option.bind_eq_some_iff.mp e
  cases e
  refine ⟨m, L, S, r1, L1, S1, hl, hs, e1, ?_⟩
  cases r1 with
  | nx => exact fun m' σ' H' y l s => q m' σ' H' y (RelL.kill ks l) s
  | bk => exact fun m' σ' H' y l s => q m' σ' H' y (RelL.kill ks l) s
  | ct => exact fun m' σ' H' y l s => q m' σ' H' y (RelL.kill ks l) s
  | rt d => exact q
theorem dss_kill {sts : List Stmt} {f : SF} (ks : List Nat) (h : PSs X sts (tsOf X.K f)) : PSs X sts (tsOf X.K (sKill ks f)) := pss_imp h fun _ _ _ q => ts_kill ks q
theorem ds_kill {st : Stmt} {f : SF} (ks : List Nat) (h : PS X st (tsOf X.K f)) : PS X st (tsOf X.K (sKill ks f)) := ps_imp h fun _ _ _ q => ts_kill ks q
end

/-! ### targets -/
abbrev GF := D → Loc → Sto → Option Loc
def gfName (i : Nat) : GF := fun d L _ => some (L.set i (some d))
/-- several names -/
def gfNames : List Nat → List D → Loc → Option Loc
  | [], [], L => some L
  | i :: is, d :: ds, L => gfNames is ds (L.set i (some d))
  | _, _, _ => none
def gfTup (is : List Nat) : GF := fun d L _ => match d with | .tup ds => gfNames is ds L | _ => none
/-- only the slots is are stored -/
def Stored (is : List Nat) (σ σ' : L2.St) : Prop := ∀ ws : List Nat, (∀ i, i ∈ is → i ∈ ws) → L2.wipe σ' ws = L2.wipe σ ws
def tgOf (K : PySem.W.Frag) (is : List Nat) (g : GF) : TG := fun v σ H Q => ∃ m L S d L', RelL K m H L σ ∧ RelS K m S H ∧ Rep K m H d v ∧ g d L S = some L' ∧ ∀ σ', RelL K m H L' σ' → Stored is σ σ' → Q σ' H
def tgsOf (K : PySem.W.Frag) (is : List Nat) : TGs := fun vs σ H Q => ∃ m L ds L', RelL K m H L σ ∧ Reps K m H ds vs ∧ gfNames is ds L = some L' ∧ ∀ σ', RelL K m H L' σ' → Stored is σ σ' → Q σ' H
theorem wipe_get (σ : L2.St) : ∀ (ws : List Nat) (j : Nat), (L2.wipe σ ws)[j]? = if j ∈ ws then (if j < σ.length then some none else none) else σ[j]?
  | [], j => by simp [L2.wipe]
  | w :: ws, j => by
    show ((L2.wipe σ ws).set w none)[j]? = _
    by_cases h : w = j
    · subst h
      by_cases hl : w < σ.length
      · rw [List.getElem?_set_self (by rw [L2.wipe_length]; exact hl)]; simp [hl]
      · rw [List.getElem?_eq_none (by simpa [L2.wipe_length] using hl)]; simp [hl]
    · rw [List.getElem?_set_ne h, wipe_get σ ws j]
      have : (j ∈ w :: ws) ↔ (j ∈ ws) := by simp [Ne.symm h]
      simp [Ne.symm h]
theorem stored_one {i : Nat} {σ : L2.St} {v : V} : Stored [i] σ (σ.set i (some v)) := fun ws h => by
  apply List.ext_getElem?
  intro j
  rw [wipe_get, wipe_get]
  have hi : i ∈ ws := h i (by simp)
  by_cases hj : j ∈ ws
  · simp [hj]
  · simp only [hj, if_false]
    have hne : i ≠ j := fun e => by subst e; exact hj hi
    rw [List.getElem?_set_ne hne]
theorem Stored.cons {i : Nat} {is : List Nat} {σ σ' : L2.St} {v : V} (h : Stored is (σ.set i (some v)) σ') : Stored (i :: is) σ σ' := fun ws hw =>
  (h ws fun j hj => hw j (List.mem_cons_of_mem _ hj)).trans (stored_one ws fun j hj => hw j (by simp at hj; rw [hj]; exact List.mem_cons_self))
theorem Stored.nil {σ : L2.St} : Stored [] σ σ := fun _ _ => rfl
section
variable {X : Cx} {pos : Pos}
theorem pg_imp {e : Expr} {t t' : TG} (h : PG X e t) (i : ∀ v σ H Q, t' v σ H Q → t v σ H Q) : PG X e t' := ⟨fun pins s σ H v u Q I r q => h.run pins s σ H v u Q I r (i v σ H Q q)⟩
theorem pgs_imp {e : List Expr} {t t' : TGs} (h : PGs X e t) (i : ∀ v σ H Q, t' v σ H Q → t v σ H Q) : PGs X e t' := ⟨fun pins s σ H v u Q I r q => h.run pins s σ H v u Q I r (i v σ H Q q)⟩
theorem dg_name {i : Nat} {x : Str} (hN : X.N.Nodup) (hi : X.N[i]? = some x := by rfl) (hx : L2.Loc X.env.scope x := by first | exact Or.inl rfl | exact Or.inr rfl) (hf : X.fn x = true ∨ X.env.scope.names.lookup x = some .local := by first | exact .inl rfl | exact .inr rfl) :
    PG X (.Name x pos) (tgOf X.K [i] (gfName i)) :=
  pg_imp (pg_name (i := i) hN hi hx hf) fun v σ H Q ⟨m, L, S, d, L', hl, hs, hr, e, q⟩ => by
    cases e
    exact q _ (hl.set i hr) stored_one
theorem dgs_nil : PGs X [] (tgsOf X.K []) := pgs_imp pgs_nil fun vs σ H Q ⟨m, L, ds, L', hl, hr, e, q⟩ => by
  cases ds with
  | nil => cases e; exact ⟨hr.of_nil, q σ hl Stored.nil⟩
  | cons _ _ => cases e
theorem dgs_cons {i : Nat} {is : List Nat} {x : Str} {es : List Expr} (hN : X.N.Nodup) (h2 : PGs X es (tgsOf X.K is)) (hi : X.N[i]? = some x := by rfl) (hx : L2.Loc X.env.scope x := by first | exact Or.inl rfl | exact Or.inr rfl)
    (hf : X.fn x = true ∨ X.env.scope.names.lookup x = some .local := by first | exact .inl rfl | exact .inr rfl)
    (hs : (assignEach (.Name x pos :: es) X.env).map (·.2) = assign (.Name x pos) X.env :: (assignEach es X.env).map (·.2) := by rfl) : PGs X (.Name x pos :: es) (tgsOf X.K (i :: is)) :=
  pgs_imp (pgs_cons (pg_name (i := i) hN hi hx hf) h2 hs) fun vs σ H Q ⟨m, L, ds, L', hl, hr, e, q⟩ => by
    cases ds with
    | nil => cases e
    | cons d ds =>
      obtain ⟨v, r, rfl, r1, r2⟩ := hr.of_cons
      exact ⟨v, r, rfl, m, L.set i (some d), ds, L', hl.set i r1, r2, e, fun σ' l' st => q σ' l' st.cons⟩
theorem gfNames_len : ∀ {is : List Nat} {ds : List D} {L L' : Loc}, gfNames is ds L = some L' → ds.length = is.length
  | [], [], _, _, _ => rfl
  | [], _ :: _, _, _, e => by simp [gfNames] at e
  | _ :: _, [], _, _, e => by simp [gfNames] at e
  | i :: is, d :: ds, L, L', e => by
    have q : gfNames is ds (L.set i (some d)) = some L' := e
    simp [gfNames_len q]
theorem dg_tup {es : List Expr} {k : Nat} {is : List Nat} (hc : X.calm = true) (h : PGs X es (tgsOf X.K is)) (hn : (assignEach es X.env).length = is.length := by rfl) (hst : (assignEach es X.env).findIdx? (·.1) = none := by rfl) :
    PG X (.Tuple es k pos) (tgOf X.K is (gfTup is)) :=
  pg_imp (pg_tup hc h hn hst) fun v σ H Q ⟨m, L, S, d, L', hl, hs, hr, e, q⟩ => by
    cases d with
    | tup ds =>
      unfold Rep at hr
      obtain ⟨p, vs, rfl, hp, _, r⟩ := hr
      exact ⟨p, vs, rfl, SqT.of hp, by rw [r.length]; exact gfNames_len e, m, L, ds, L', hl, r, e, q⟩
    | _ => cases e
end
/-- target = e -/
def sAsg (f : EF) (g : GF) : SF := fun L S => (f L S).bind fun p => (g p.1 L p.2).bind fun L' => some (.nx, L', p.2)
section
variable {X : Cx} {pos : Pos}
theorem ds_asg {tg e : Expr} {f : EF} {g : GF} {is : List Nat} (he : PE X e (teOf X.K f)) (hg : PG X tg (tgOf X.K is g)) (hs : swapsWithSole [tg] e pos.line X.env = pure false := by rfl) (hw : swappedStores [tg] e X.env = pure none := by rfl) (h1 : (assignEach [tg] X.env).map (·.2) = [assign tg X.env] := by rfl) :
    PS X (.Assign [tg] e pos) (tsOf X.K (sAsg f g)) :=
  ps_imp (ps_asg he hg hs hw h1) fun E σ H ⟨m, L, S, r, L', S', hl, hs, e, q⟩ => by
    obtain ⟨⟨z, S1⟩, e1, e⟩ := Option.bind_eq_some_iff.mp e
    obtain ⟨L1, e2, e⟩ := Option.bind_eq_some_iff.mp e
    cases e
    exact ⟨m, L, S, z, S1, hl, hs, e1, fun m1 H1 x x1 s1 r1 => ⟨m1, L, S1, z, _, hl.ext x1, s1, r1, e2, fun σ' l' _ => q m1 σ' H1 x1 l' s1⟩⟩
/-- names in a row, stored from the right -/
def NamesAt (X : Cx) : List Nat → List Str → Prop
  | [], [] => True
  | i :: is, x :: xs => X.N[i]? = some x ∧ X.env.scope.names.lookup x = some .local ∧ NamesAt X is xs
  | _, _ => False
theorem stores_ok {K : PySem.W.Frag} {m : Lbl} {pins : List (Addr × Obj)} {H : Hp} (hN : X.N.Nodup) {E : Value → Shared → Prop} : ∀ {is : List Nat} {xs : List Str} {us : List Value} {vs : List V} {ds : List D} {L L' : Loc} {σ : L2.St} {s : Shared},
    NamesAt X is xs → Inv X pins σ H s → Vals vs us → RelL K m H L σ → Reps K m H ds vs → gfNames is ds L = some L' →
    wpAny (model X.prog X.w) X.A (assignInOrder (xs.map fun n => bindName X.env n) us) (fun _ s' => ∃ σ', Inv X pins σ' H s' ∧ RelL K m H L' σ') E s
  | [], [], us, vs, ds, L, L', σ, s, _, I, r, hl, hr, e => by
    cases ds with
    | cons _ _ => cases e
    | nil => cases e; exact assignInOrder_nil ⟨σ, I, hl⟩
  | i :: is, x :: xs, us, vs, ds, L, L', σ, s, hn, I, r, hl, hr, e => by
    obtain ⟨h1, h2, h3⟩ := hn
    cases ds with
    | nil => cases e
    | cons d ds =>
      obtain ⟨v, vr, rfl, r1, r2⟩ := hr.of_cons
      cases r with
      | cons q1 q2 =>
        refine assignInOrder_cons (wpAny_bindName (store_ok I hN h1 (.inl h2) q1 (fun s2 I2 => ?_) (.inr h2)))
        exact stores_ok hN h3 I2 q2 (hl.set i r1) r2 e
  | [], _ :: _, _, _, _, _, _, _, _, hn, _, _, _, _, _ => hn.elim
  | _ :: _, [], _, _, _, _, _, _, _, hn, _, _, _, _, _ => hn.elim
end
def gfTupR (is : List Nat) : GF := fun d L _ => match d with | .tup ds => gfNames is.reverse ds.reverse L | _ => none
theorem Vals.reverse : ∀ {vs : List V} {us : List Value}, Vals vs us → Vals vs.reverse us.reverse
  | _, _, .nil => .nil
  | _, _, .cons r t => by
    rw [List.reverse_cons, List.reverse_cons]
    exact L2.Vals.append (Vals.reverse t) (.cons r .nil)
section
variable {X : Cx} {pos : Pos}
/-- a, b = .. with plain local names: stored from the right -/
theorem ds_asgSw {elts : List Expr} {k : Nat} {tpos : Pos} {e : Expr} {f : EF} {is : List Nat} {xs : List Str} (hc : X.calm = true) (hN : X.N.Nodup) (he : PE X e (teOf X.K f)) (hn : NamesAt X is.reverse xs.reverse) (hlen : is.length = xs.length := by rfl)
    (hs : swapsWithSole [.Tuple elts k tpos] e pos.line X.env = pure false := by rfl) (hw : swappedStores [.Tuple elts k tpos] e X.env = pure (some xs) := by rfl) : PS X (.Assign [.Tuple elts k tpos] e pos) (tsOf X.K (sAsg f (gfTupR is))) := by
  refine ⟨fun pins s σ H E I hh => ?_⟩
  obtain ⟨m, L, S, r, L', S', hl, hs', e', q⟩ := hh
  obtain ⟨⟨z, S1⟩, e1, e'⟩ := Option.bind_eq_some_iff.mp e'
  obtain ⟨L1, e2, e'⟩ := Option.bind_eq_some_iff.mp e'
  cases e'
  refine Assign_Tuple_swapped (thn (he.run pins s σ H (fun v H1 => ∃ m1, Ext m m1 H H1 ∧ RelS X.K m1 S1 H1 ∧ Rep X.K m1 H1 z v) I ⟨m, L, S, z, S1, hl, hs', e1, fun m1 H1 x x1 s1 r1 => ⟨m1, x1, s1, r1⟩⟩) fun u s1 ⟨v, H1, I1, ru, m1, x1, t1, r1⟩ => ?_) hs hw
  cases z with
  | tup ds =>
    unfold Rep at r1
    obtain ⟨p, vs, rfl, hp, _, rr⟩ := r1
    cases ru
    obtain ⟨its, rv, ht, hz⟩ := I1.tuple (SqT.of hp)
    have hlen2 : its.length = xs.length := by
      have h1 := gfNames_len e2
      simp only [List.length_reverse] at h1
      have h2 := rr.length
      have h3 := rv.length
      omega
    have hsz : xs.length = its.toArray.size := by simp [hlen2]
    rw [hsz]
    refine unpackItems_tuple (Q := fun items s2 => wpAny (model X.prog X.w) X.A (assignInOrder (xs.reverse.map fun n => bindName X.env n) items.reverse) (fun _ => SP X pins E .next) X.xe s2) (I1.ok.hd hc) ht fun h' hx => ?_
    have I2 : Inv X pins σ H1 { s1 with heap := h' } := I1.kept (t' := s1.toks) fun b o e => hx b o (Nat.ne_of_lt (Heap.lt_size e)) e
    have w := stores_ok (E := X.xe) hN hn I2 (Vals.reverse rv) (hl.ext x1) rr.reverse e2
    simp only [List.toList_toArray]
    rw [List.map_reverse] at w
    rw [List.map_reverse]
    exact thn w fun _ s3 ⟨σ', I3, l3⟩ => ⟨σ', H1, I3, q m1 σ' H1 x1 l3 t1⟩
  | _ => cases e2
end
end DS
/-! enumerate and zip over lists and tuples in any mix -/
namespace DS
open PySem PySem.Spec PyProof.Rows L2

/-! ### a list (true) or a tuple (false) -/
def SqA (K : PySem.W.Frag) (H : Hp) (kd : Bool) (a : Addr) (xs : List V) : Prop := match kd with | true => SqL K H a xs | false => SqT K H a xs
def ItAt (h : Heap) (kd : Bool) (it a : Addr) (i : Nat) : Prop := match kd with | true => h.IsListIter it a i | false => h.IsTupleIter it a i
def SeqAtK (h : Heap) (kd : Bool) (a : Addr) (items : Array Value) : Prop := match kd with | true => h.IsList a items | false => h.IsTuple a items
def itOb (kd : Bool) (a : Addr) : Obj := match kd with | true => { cls := .type "list_iterator", data := .fields #[.ref a, .int 0 0] } | false => { cls := .type "tuple_iterator", data := .fields #[.ref a, .int 0 0] }

section
variable {X : Cx} {pins : List (Addr × Obj)} {σ : L2.St} {H : Hp} {s : Shared}
theorem seq_of (I : Inv X pins σ H s) {kd : Bool} {a : Addr} {xs : List V} (h : SqA X.K H kd a xs) : ∃ its : List Value, Vals xs its ∧ SeqAtK s.heap kd a its.toArray ∧ a < s.heap.objs.size ∧ xs.length ≤ sizeLine := by
  cases kd with
  | true =>
    obtain ⟨its, r, p, z⟩ := I.list h
    exact ⟨its, r, p.isList, p.lt, z⟩
  | false =>
    obtain ⟨its, r, p, z⟩ := I.tuple h
    obtain ⟨o, ho, _⟩ := id p
    exact ⟨its, r, p, Heap.lt_size ho, z⟩
theorem seq_inj (I : Inv X pins σ H s) {kd : Bool} {a : Addr} {xs ys : List V} (h : SqA X.K H kd a xs) (h' : SqA X.K H kd a ys) : xs = ys := by
  cases kd with
  | true => exact I.list_inj h h'
  | false => exact I.tuple_inj h h'
end
theorem itAt_obj {h : Heap} {kd : Bool} {it a : Addr} {i : Nat} (q : ItAt h kd it a i) : ∃ o, h.get? it = some o ∧ ∀ v, o.data ≠ .cell v := by
  cases kd with
  | true => obtain ⟨o, e, _, d⟩ := q; exact ⟨o, e, fun v z => by rw [d] at z; cases z⟩
  | false => obtain ⟨o, e, _, d⟩ := q; exact ⟨o, e, fun v z => by rw [d] at z; cases z⟩
theorem itAt_keep {h h' : Heap} {kd : Bool} {it a : Addr} {i : Nat} (q : ItAt h kd it a i) (k : ∀ o, h.get? it = some o → h'.get? it = some o) : ItAt h' kd it a i := by
  cases kd with
  | true => exact Heap.IsListIter.at q k
  | false => exact Heap.IsTupleIter.at q k
theorem drawsK {prog : Program} {w : World} {A : Around} (hh : A.handled = none) (kd : Bool) (it a : Addr) (hne : a ≠ it) (items : Array Value) :
    Draws prog w A it [it, a] items.size (fun i v => items[i]? = some v) (fun i h => ItAt h kd it a i ∧ SeqAtK h kd a items) := by
  cases kd with
  | true => exact Draws.list hh it a hne items
  | false => exact Draws.tuple hh it a hne items
theorem beginsK (kd : Bool) (a : Addr) (items : Array Value) : Begins (.ref a) (itOb kd a) (fun h => SeqAtK h kd a items) := by
  cases kd with
  | true => exact begins_list a items
  | false => exact begins_tuple a items
theorem itOb_at {h : Heap} {kd : Bool} {it a : Addr} (e : h.get? it = some (itOb kd a)) : ItAt h kd it a 0 := by
  cases kd with
  | true => exact ⟨_, e, rfl, rfl⟩
  | false => exact ⟨_, e, rfl, rfl⟩

set_option maxHeartbeats 8000000 in
theorem meets_enum1 {v : Value} {o : Obj} {H : Heap → Prop} (B : Begins v o H) :
    Meets (Builtin.«enumerate.__new__» ⟨[.type "enumerate", v], []⟩) (fun _ R s => H s.heap ∧
      R (.ok (.ret (.ref (s.heap.push o).objs.size))) { s with heap := (s.heap.push o).push { cls := .type "enumerate", data := .fields #[.none, .bool false, .ref s.heap.objs.size, rawInt 0, .none, .none] } }) :=
  .of_wp fun prog w A R s h => by
    obtain ⟨hp, g, d, tk, os⟩ := s; obtain ⟨h1, h⟩ := h
    have hsub := sub_enumerate
    have q1 : ∀ {A' : Around} {E : Value → Shared → Prop} {Q : Value → Shared → Prop}, Q (.ref hp.objs.size) ⟨hp.push o, g, d, tk, os⟩ → wpAny (model prog w) A' (pyIter v) Q E ⟨hp, g, d, tk, os⟩ :=
      fun q => B.iter prog w _ _ ⟨hp, g, d, tk, os⟩ _ h1 q
    wp_walk using q1
    refine wpAny_stack_any fun st => wpAny_pure ?_
    split
    · rename_i c _ _ _ _ _
      cases (c == Value.type "enumerate")
      · wp_walk using q1
        exact ⟨_, rfl, h⟩
      · wp_walk using q1
        exact ⟨_, rfl, h⟩
    · wp_walk using q1
      exact ⟨_, rfl, h⟩
section
variable {prog : Program} {w : World} {A : Around} {E : Value → Shared → Prop} {s : Shared}
theorem enum_begins1 {v : Value} {o : Obj} {H : Heap → Prop} {Q : Value → Shared → Prop} (B : Begins v o H) (h1 : H s.heap)
    (h : ∀ h', IsEnum h' (s.heap.objs.size + 1) s.heap.objs.size 0 .none → h'.get? s.heap.objs.size = some o → h'.objs.size = s.heap.objs.size + 2 →
      (∀ b o, s.heap.get? b = some o → h'.get? b = some o) → Q (.ref (s.heap.objs.size + 1)) { s with heap := h' }) :
    wpAny (model prog w) A (call (.type "enumerate") [v]) Q E s := by
  refine callType_new F.called_enumerate (by decide) (F.typeCall_enumerate_1 _) (F.newCall_enumerate_1 _) (fun obj => F.args_object_init_2 obj _) F.entry_enumerate_new
    (meets_enum1 B) ⟨h1, ?_⟩
  have hz : (s.heap.push o).objs.size = s.heap.objs.size + 1 := Heap.size_push ..
  show _ ∧ _
  rw [hz]
  have he : IsEnum ((s.heap.push o).push { cls := .type "enumerate", data := .fields #[.none, .bool false, .ref s.heap.objs.size, rawInt 0, .none, .none] }) (s.heap.objs.size + 1) s.heap.objs.size 0 .none := by
    have := Heap.get?_push_size (s.heap.push o) (o := { cls := .type "enumerate", data := .fields #[.none, .bool false, .ref s.heap.objs.size, rawInt 0, .none, .none] }) rfl
    rw [hz] at this; exact this
  refine ⟨⟨_, he, rfl⟩, h _ he (Heap.get?_push_of_some _ (Heap.get?_push_size _ B.free)) (by rw [Heap.size_push, hz]) fun b o x => Heap.get?_push_of_some _ (Heap.get?_push_of_some _ x)⟩
end

/-! ### enumerate -/
def IteK (K : PySem.W.Frag) (kd : Bool) (a : Addr) : It :=
  ⟨fun i H => ∃ (xs : List V) (x : V), SqA K H kd a xs ∧ xs[i]? = some x, fun i H v H' => ∃ T x, v = .ref T ∧ H T = none ∧ H' = upd H T (.tup [.int (i : Nat), x]) ∧ ∀ xs, SqA K H kd a xs → xs[i]? = some x, fun i H => ∃ xs : List V, SqA K H kd a xs ∧ xs.length = i⟩
theorem turn_enumK {P : Program} {w : World} {K : PySem.W.Frag} {elts : List Expr} {kk : Nat} {tpos : Pos} (kd : Bool) (a e it : Addr) (hea : a ≠ e) (hia : a ≠ it) :
    Turn P w K (.Tuple elts kk tpos) (IteK K kd a) [e, it] e (fun i h => (∃ old, IsEnum h e it ((i : Nat) : Int) old) ∧ ItAt h kd it a i ∧ e ≠ it) where
  mem := by simp
  obj := fun i h st b hb => by
    obtain ⟨⟨old, he⟩, hi, _⟩ := st
    have e' : b = e ∨ b = it := by simpa using hb
    rcases e' with z | z
    · rw [z]; exact ⟨_, he, fun v q => nomatch q⟩
    · rw [z]; exact itAt_obj hi
  keep := fun i h h' st k => let ⟨⟨old, he⟩, hi, hne⟩ := st; ⟨⟨old, k e (by simp) _ he⟩, itAt_keep hi fun o q => k it (by simp) o q, hne⟩
  item := by
    intro X hP hw hK hc i pins s σ H E I hf st hg
    subst hP hw hK
    obtain ⟨⟨old, he⟩, hit, hne⟩ := st
    obtain ⟨xs, x, hq, hx⟩ := hg
    obtain ⟨its, rv, p, hla, hz⟩ := seq_of I hq
    obtain ⟨u, hu, ru⟩ := rv.get hx
    have hel : e < s.heap.objs.size := Heap.lt_size he
    have hil : it < s.heap.objs.size := by obtain ⟨_, q, _⟩ := itAt_obj hit; exact Heap.lt_size q
    have hlt : i < its.toArray.size := by
      have := (List.getElem?_eq_some_iff.mp hu).1
      simpa using this
    refine wpAny_pyNext_enum_itemC (drawsK (A := X.A.in1) (I.ok.hd hc) kd it a hia its.toArray) he ⟨hit, p⟩ hlt hne (by simp [hne, Ne.symm hea]) fun y h' tk hy ho hst' hT hsz hk => ?_
    have hyu : y = u := by
      have hy : its.toArray[i]? = some y := hy
      have : its.toArray[i]? = some u := by simpa using hu
      rw [hy] at this
      exact Option.some.inj this
    subst hyu
    refine ⟨_, rfl, wpAny_letOwnedTupleGo_enum (s := { s with heap := h', toks := tk + 1 }) ho fun h'' he' sb => ?_⟩
    have hT2 : h''.get? s.heap.objs.size = some { cls := .type "tuple", data := .seq #[.int i tk, y] } := (sb.2 _ (Nat.ne_of_gt hel)).trans hT
    have new : ObjOk X.prog X.w (upd H s.heap.objs.size (.tup [.int (i : Nat), x])) h'' s.heap.objs.size (.tup [.int (i : Nat), x]) :=
      ⟨by show 2 ≤ sizeLine; decide, [.int i tk, y], .cons ⟨_, rfl⟩ (.cons ru .nil), ⟨_, hT2, rfl, _, rfl⟩⟩
    have I1 : Inv X pins σ (upd H s.heap.objs.size (.tup [.int (i : Nat), x])) { s with heap := h'', toks := tk + 1 } :=
      I.turnedNew (t' := tk + 1) (ch := [e, it]) (fun b ob hb q => (sb.2 b (fun z => hb (by simp [z]))).trans (hk b ob (fun z => hb (by simp [z])) (fun z => hb (by simp [z])) q)) hf (Nat.le_refl _) new
    refine ⟨.ref s.heap.objs.size, _, I1, rfl, ⟨_, x, rfl, I.hok.fresh (Nat.le_refl _), rfl, fun ys hy => by rw [seq_inj I hy hq]; exact hx⟩, ⟨⟨y, ?_⟩, itAt_keep hst'.1 fun o q => (sb.2 it (Ne.symm hne)).trans q, hne⟩, fun b hb => ?_⟩
    · have e1 : ((i + 1 : Nat) : Int) = (i : Int) + 1 := by omega
      rw [e1]; exact he'
    · have hb' : b < s.heap.objs.size := by
        have e' : b = e ∨ b = it := by simpa using hb
        rcases e' with z | z
        · rw [z]; exact hel
        · rw [z]; exact hil
      rw [upd_ne (Nat.ne_of_lt hb')]
      exact (hf b hb).1
  done := by
    intro X hP hw hK hc i pins s σ H E I hf st hg
    subst hP hw hK
    obtain ⟨⟨old, he⟩, hit, hne⟩ := st
    obtain ⟨xs, hq, hx⟩ := hg
    obtain ⟨its, rv, p, hla, hz⟩ := seq_of I hq
    obtain ⟨f0, f1, f2, f3, f4, f5⟩ := hf it (by simp)
    have hl := rv.length
    have hsz : its.toArray.size = i := by simp; omega
    refine wpAny_pyNext_enum_endD (drawsK (A := X.A.in1) (I.ok.hd hc) kd it a hia its.toArray) he (hsz ▸ ⟨hit, p⟩) fun h' eb => ⟨rfl, I.turned (t' := s.toks) (fun b o hb q => eb b o hb q) f0 f1 f3 f4 f5⟩
  self := fun A i s Q E st h => let ⟨⟨_, he⟩, _⟩ := st; wpAny_pyIter_enum he h
def iEnumK (K : PySem.W.Frag) (ta : TA) : TI := fun σ H R => ta σ H fun vs H1 => ∃ kd a xs, vs = [.ref a] ∧ SqA K H1 kd a xs ∧ R (IteK K kd a) H1
theorem pi_enumK {X : Cx} {e : Expr} {ta : TA} {p pos tpos : Pos} {elts : List Expr} {kk : Nat} (hg : Gl X "enumerate") (hm : X.mg "enumerate" = none) (ha : PA X [e] ta) (hs : starEach [e] X.env = [(false, eval e X.env)] := by rfl) :
    PI X (.Tuple elts kk tpos) (.Call (.Name "enumerate" p) [e] [] pos) (iEnumK X.K ta) := by
  refine ⟨fun pins s σ H R I h => ?_⟩
  refine Call_ (ld_blt I hg hm boot_enumerate (PyProof.Rows.callWith_type1 (thn (ha.run pos pins s σ H _ I h) fun us s1 ⟨vs, H1, I1, r1, q1⟩ => ?_) hs rfl))
  obtain ⟨kd, a, xs, ex, hq, q⟩ := q1
  subst ex
  cases r1 with
  | cons r rr =>
    cases rr
    cases r
    obtain ⟨its, rv, p', hla, hz⟩ := seq_of I1 hq
    refine enum_begins1 (beginsK kd a its.toArray) p' fun h' he hit hsz hk => wpAny_pyIter_enum he ?_
    have I2 : Inv X pins σ H1 { s1 with heap := h' } := I1.kept (t' := s1.toks) hk
    have n1 : a ≠ s1.heap.objs.size + 1 := Nat.ne_of_lt (Nat.lt_succ_of_lt hla)
    have n2 : a ≠ s1.heap.objs.size := Nat.ne_of_lt hla
    refine ⟨s1.heap.objs.size + 1, [s1.heap.objs.size + 1, s1.heap.objs.size], _, _, H1, rfl, I2, turn_enumK kd a (s1.heap.objs.size + 1) s1.heap.objs.size n1 n2, ⟨⟨.none, he⟩, itOb_at hit, Nat.succ_ne_self _⟩, fun b hb => ?_, q⟩
    have e' : b = s1.heap.objs.size + 1 ∨ b = s1.heap.objs.size := by simpa using hb
    have hle : s1.heap.objs.size ≤ b := by
      rcases e' with z | z
      · rw [z]; exact Nat.le_add_right _ _
      · rw [z]; exact Nat.le_refl _
    exact I1.fpOk hle (I1.hok.fresh hle)

/-! ### zip of two -/
def ItzK (K : PySem.W.Frag) (ka kb : Bool) (a b : Addr) : It :=
  ⟨fun i H => ∃ (xs ys : List V) (x y : V), SqA K H ka a xs ∧ SqA K H kb b ys ∧ xs[i]? = some x ∧ ys[i]? = some y,
    fun i H v H' => ∃ T x y, v = .ref T ∧ H T = none ∧ H' = upd H T (.tup [x, y]) ∧ (∀ xs, SqA K H ka a xs → xs[i]? = some x) ∧ ∀ ys, SqA K H kb b ys → ys[i]? = some y,
    fun i H => ∃ xs ys : List V, SqA K H ka a xs ∧ SqA K H kb b ys ∧ i ≤ xs.length ∧ i ≤ ys.length ∧ (i = xs.length ∨ i = ys.length)⟩
theorem turn_zipK {P : Program} {w : World} {K : PySem.W.Frag} {elts : List Expr} {kk : Nat} {tpos : Pos} (ka kb : Bool) {a b z TI TO i1 i2 : Addr} (na : a ≠ i1) (nb : b ≠ i2) (D : ZipSep2 z TI TO i1 i2 [i1, a] [i2, b]) :
    Turn P w K (.Tuple elts kk tpos) (ItzK K ka kb a b) [z, TI, TO, i1, i2] z (fun i h => IsZip h z TI TO .none ∧ IsTupOf2 h TI (.ref i1) (.ref i2) ∧ (∃ x y, IsTupOf2 h TO x y) ∧ ItAt h ka i1 a i ∧ ItAt h kb i2 b i) where
  mem := by simp
  obj := fun i h st c hc => by
    obtain ⟨hz, hTI, ⟨x, y, hTO⟩, h1, h2⟩ := st
    have e' : c = z ∨ c = TI ∨ c = TO ∨ c = i1 ∨ c = i2 := by simpa using hc
    rcases e' with q | q | q | q | q
    · rw [q]; exact ⟨_, hz, fun v q => nomatch q⟩
    · rw [q]; exact ⟨_, hTI, fun v q => nomatch q⟩
    · rw [q]; exact ⟨_, hTO, fun v q => nomatch q⟩
    · rw [q]; exact itAt_obj h1
    · rw [q]; exact itAt_obj h2
  keep := fun i h h' st k => by
    obtain ⟨hz, hTI, ⟨x, y, hTO⟩, h1, h2⟩ := st
    exact ⟨k z (by simp) _ hz, k TI (by simp) _ hTI, ⟨x, y, k TO (by simp) _ hTO⟩, itAt_keep h1 fun o q => k i1 (by simp) o q, itAt_keep h2 fun o q => k i2 (by simp) o q⟩
  item := by
    intro X hP hw hK hc i pins s σ H E I hf st hg
    subst hP hw hK
    obtain ⟨hz, hTI, ⟨x0, y0, hTO⟩, h1, h2⟩ := st
    obtain ⟨xs, ys, x, y, hqx, hqy, hx, hy⟩ := hg
    obtain ⟨its, rv, p, _, _⟩ := seq_of I hqx
    obtain ⟨its2, rv2, p2, _, _⟩ := seq_of I hqy
    obtain ⟨u, hu, ru⟩ := rv.get hx
    obtain ⟨u2, hu2, ru2⟩ := rv2.get hy
    have hzl : z < s.heap.objs.size := Heap.lt_size hz
    have l1 : i < its.toArray.size := by
      have := (List.getElem?_eq_some_iff.mp hu).1
      simpa using this
    have l2 : i < its2.toArray.size := by
      have := (List.getElem?_eq_some_iff.mp hu2).1
      simpa using this
    refine wpAny_pyNext_zipD2_item D (drawsK (A := X.A.in1) (I.ok.hd hc) ka i1 a na its.toArray) (drawsK (A := X.A.in1) (I.ok.hd hc) kb i2 b nb its2.toArray) hz hTI hTO ⟨h1, p⟩ ⟨h2, p2⟩ l1 l2 fun w1 w2 h' tk e1 e2 z' TO' st1' st2' hT hsz hk => ?_
    have e1 : its.toArray[i]? = some w1 := e1
    have e2 : its2.toArray[i]? = some w2 := e2
    have g1 : its.toArray[i]? = some u := by simpa using hu
    have g2 : its2.toArray[i]? = some u2 := by simpa using hu2
    rw [e1] at g1
    rw [e2] at g2
    cases g1
    cases g2
    refine ⟨_, rfl, wpAny_letOwnedTupleGo_zip (s := { s with heap := h', toks := tk }) z' fun h'' z'' sb => ?_⟩
    have hT2 : h''.get? s.heap.objs.size = some { cls := .type "tuple", data := .seq #[u, u2] } := (sb.2 _ (Nat.ne_of_gt hzl)).trans hT
    have new : ObjOk X.prog X.w (upd H s.heap.objs.size (.tup [x, y])) h'' s.heap.objs.size (.tup [x, y]) :=
      ⟨by show 2 ≤ sizeLine; decide, [u, u2], .cons ru (.cons ru2 .nil), ⟨_, hT2, rfl, _, rfl⟩⟩
    have I1 : Inv X pins σ (upd H s.heap.objs.size (.tup [x, y])) { s with heap := h'', toks := tk } :=
      I.turnedNew (t' := tk) (ch := [z, TI, TO, i1, i2]) (fun c o hb q => (sb.2 c (fun q' => hb (by simp [q']))).trans (hk c o (fun q' => hb (by simp [q'])) (fun q' => hb (by simp [q'])) (fun q' => hb (by simp [q'])) (fun q' => hb (by simp [q'])) q)) hf (Nat.le_refl _) new
    refine ⟨.ref s.heap.objs.size, _, I1, rfl, ⟨_, x, y, rfl, I.hok.fresh (Nat.le_refl _), rfl, fun l hl => by rw [seq_inj I hl hqx]; exact hx, fun l hl => by rw [seq_inj I hl hqy]; exact hy⟩, ⟨z'', ?_, ⟨u, u2, ?_⟩, ?_, ?_⟩, fun c hcm => ?_⟩
    · exact (sb.2 _ D.TIz).trans (hk _ _ D.TIz D.TITO D.TIi1 D.TIi2 hTI)
    · exact (sb.2 _ D.TOz).trans TO'
    · exact itAt_keep st1'.1 fun o q => (sb.2 _ (Ne.symm D.zi1)).trans q
    · exact itAt_keep st2'.1 fun o q => (sb.2 _ (Ne.symm D.zi2)).trans q
    · have hlt : c < s.heap.objs.size := by
        have e' : c = z ∨ c = TI ∨ c = TO ∨ c = i1 ∨ c = i2 := by simpa using hcm
        rcases e' with q | q | q | q | q
        · rw [q]; exact hzl
        · rw [q]; exact Heap.lt_size hTI
        · rw [q]; exact Heap.lt_size hTO
        · rw [q]; obtain ⟨_, e1, _⟩ := itAt_obj h1; exact Heap.lt_size e1
        · rw [q]; obtain ⟨_, e2, _⟩ := itAt_obj h2; exact Heap.lt_size e2
      rw [upd_ne (Nat.ne_of_lt hlt)]
      exact (hf c hcm).1
  done := by
    intro X hP hw hK hc i pins s σ H E I hf st hg
    subst hP hw hK
    obtain ⟨hz, hTI, ⟨x0, y0, hTO⟩, h1, h2⟩ := st
    obtain ⟨xs, ys, hqx, hqy, g1, g2, hend⟩ := hg
    obtain ⟨its, rv, p, _, _⟩ := seq_of I hqx
    obtain ⟨its2, rv2, p2, _, _⟩ := seq_of I hqy
    have l1 := rv.length
    have l2 := rv2.length
    refine wpAny_pyNext_zipD2_end D (drawsK (A := X.A.in1) (I.ok.hd hc) ka i1 a na its.toArray) (drawsK (A := X.A.in1) (I.ok.hd hc) kb i2 b nb its2.toArray) hz hTI hTO ⟨h1, p⟩ ⟨h2, p2⟩ (by simp; omega) (by simp; omega) (by simp; omega) fun h' tk hk => ⟨rfl, I.turnedL (t' := tk) (ch := [z, TI, TO, i1, i2]) (fun c o hb q =>
      hk c o (fun q' => hb (by simp [q'])) (fun q' => hb (by simp [q'])) (fun q' => hb (by simp [q'])) (fun q' => hb (by simp [q'])) q) hf⟩
  self := fun A i s Q E st h => wpAny_pyIter_zip st.1 h
def iZipK (K : PySem.W.Frag) (ta : TA) : TI := fun σ H R => ta σ H fun vs H1 => ∃ ka kb a b xs ys, vs = [.ref a, .ref b] ∧ SqA K H1 ka a xs ∧ SqA K H1 kb b ys ∧ R (ItzK K ka kb a b) H1
theorem pi_zipK {X : Cx} {e e2 : Expr} {ta : TA} {p pos tpos : Pos} {elts : List Expr} {kk : Nat} (hg : Gl X "zip") (hm : X.mg "zip" = none) (ha : PA X [e, e2] ta)
    (hs : starEach [e, e2] X.env = (false, eval e X.env) :: starEach [e2] X.env := by rfl) (hpl : (backTo pos (starEach [e2] X.env)).any (·.1) = false := by rfl) :
    PI X (.Tuple elts kk tpos) (.Call (.Name "zip" p) [e, e2] [] pos) (iZipK X.K ta) := by
  refine ⟨fun pins s σ H R I h => ?_⟩
  refine Call_ (ld_blt I hg hm PyProof.Rows.boot_zip (PyProof.Rows.callWith_type1 (thn (ha.run pos pins s σ H _ I h) fun us s1 ⟨vs, H1, I1, r1, q1⟩ => ?_) hs hpl))
  obtain ⟨ka, kb, a, b, xs, ys, ex, hqx, hqy, q⟩ := q1
  subst ex
  cases r1 with
  | cons r rr =>
    cases rr with
    | cons r' rr =>
      cases rr
      cases r
      cases r'
      obtain ⟨its, rv, p1, la, _⟩ := seq_of I1 hqx
      obtain ⟨its2, rv2, p2, lb, _⟩ := seq_of I1 hqy
      refine zip_begins2 (beginsK ka a its.toArray) (beginsK kb b its2.toArray) p1 p2 fun h' hz hTI hTO h1 h2 hsz hk => wpAny_pyIter_zip hz ?_
      have I2 : Inv X pins σ H1 { s1 with heap := h' } := I1.kept (t' := s1.toks) hk
      have D := zip_sep2 (N := s1.heap.objs.size) (fp1 := [a]) (fp2 := [b]) (by simpa using la) (by simpa using lb)
      have na : a ≠ s1.heap.objs.size := Nat.ne_of_lt la
      have nb : b ≠ s1.heap.objs.size + 1 := Nat.ne_of_lt (Nat.lt_succ_of_lt lb)
      refine ⟨s1.heap.objs.size + 4, [s1.heap.objs.size + 4, s1.heap.objs.size + 2, s1.heap.objs.size + 3, s1.heap.objs.size, s1.heap.objs.size + 1], _, _, H1, rfl, I2, turn_zipK ka kb na nb D, ⟨hz, hTI, ⟨_, _, hTO⟩, itOb_at h1, itOb_at h2⟩, fun c hcm => ?_, q⟩
      have e' : c = s1.heap.objs.size + 4 ∨ c = s1.heap.objs.size + 2 ∨ c = s1.heap.objs.size + 3 ∨ c = s1.heap.objs.size ∨ c = s1.heap.objs.size + 1 := by simpa using hcm
      have hle : s1.heap.objs.size ≤ c := by
        rcases e' with z | z | z | z | z
        · rw [z]; exact Nat.le_add_right _ _
        · rw [z]; exact Nat.le_add_right _ _
        · rw [z]; exact Nat.le_add_right _ _
        · rw [z]; exact Nat.le_refl _
        · rw [z]; exact Nat.le_add_right _ _
      exact I1.fpOk hle (I1.hok.fresh hle)
end DS
namespace DS
open PySem PySem.Spec PyProof.Rows L2

/-! ### what is walked -/
structure Src where
  items : List D
  ok : Sto → Prop
abbrev IF := Loc → Sto → Option (Src × Sto)
/-- the walk J gives the items of src wherever the walked data stand -/
def ItOk (K : PySem.W.Frag) (J : It) (prs : List (D × V)) (src : Src) (H0 : Hp) : Prop :=
  ∀ (m : Lbl) (S : Sto) (H : Hp) (i : Nat), (∀ a o u, H0 a = some (.frz o u) → H a = some (.frz o u)) → (∀ p, p ∈ prs → Rep K m H p.1 p.2) → RelS K m S H → src.ok S →
    (∀ d, src.items[i]? = some d → J.go i H ∧ ∀ x H', J.yld i H x H' → Ext m m H H' ∧ RelS K m S H' ∧ Rep K m H' d x) ∧ (i = src.items.length → J.stop i H)
def tiOf (K : PySem.W.Frag) (f : IF) : TI := fun σ H R => ∃ m L S src S', RelL K m H L σ ∧ RelS K m S H ∧ f L S = some (src, S') ∧ ∀ m' H' J prs, Ext m m' H H' → RelS K m' S' H' → (∀ p, p ∈ prs → Rep K m' H' p.1 p.2) → ItOk K J prs src H' → R J H'

/-- a sequence -/
def seqD (S : Sto) : D → Option Src
  | .tup xs => some ⟨xs, fun _ => True⟩
  | .tud xs => some ⟨xs, fun _ => True⟩
  | .lst xs => some ⟨xs, fun _ => True⟩
  | .arg xs => some ⟨xs, fun _ => True⟩
  | .ref k => match S[k]? with | some (.lst xs) => some ⟨xs, fun S => S[k]? = some (.lst xs)⟩ | _ => none
  | _ => none
def iSeq (f : EF) : IF := fun L S => (f L S).bind fun p => (seqD p.2 p.1).bind fun s => some (s, p.2)
def rngD (lo : Int) (n : Nat) : List D := (List.range n).map fun (i : Nat) => D.int (lo + i)
def rngC (lo c : Int) (n : Nat) : List D := (List.range n).map fun (i : Nat) => D.int (lo + i * c)
noncomputable def iRng1 (f : AF) : IF := fun L S => (f L S).bind fun p => match p.1 with
  | [.int j] => chk (-(2 ^ 62) ≤ j ∧ j < 2 ^ 62) (some (⟨rngD 0 j.toNat, fun _ => True⟩, p.2))
  | _ => none
noncomputable def iRng2 (f : AF) : IF := fun L S => (f L S).bind fun p => match p.1 with
  | [.int i, .int j] => chk (-(2 ^ 62) ≤ i ∧ i < 2 ^ 62 ∧ -(2 ^ 62) ≤ j ∧ j < 2 ^ 62) (some (⟨rngD i (j - i).toNat, fun _ => True⟩, p.2))
  | _ => none
/-- range(i, j, -1) -/
noncomputable def iRngB (f : AF) : IF := fun L S => (f L S).bind fun p => match p.1 with
  | [.int i, .int j, .int c] => chk (c = -1 ∧ -(2 ^ 62) ≤ i ∧ i < 2 ^ 62 ∧ -(2 ^ 62) ≤ j ∧ j < 2 ^ 62) (some (⟨rngC i (-1) (i - j).toNat, fun _ => True⟩, p.2))
  | _ => none
def enumD : Nat → List D → List D
  | _, [] => []
  | i, d :: ds => .tup [.int i, d] :: enumD (i + 1) ds
def zipD : List D → List D → List D
  | a :: as, b :: bs => .tup [a, b] :: zipD as bs
  | _, _ => []
def iEnum (f : AF) : IF := fun L S => (f L S).bind fun p => match p.1 with
  | [d] => (seqD p.2 d).bind fun s => some (⟨enumD 0 s.items, s.ok⟩, p.2)
  | _ => none
def iZip (f : AF) : IF := fun L S => (f L S).bind fun p => match p.1 with
  | [d, e] => (seqD p.2 d).bind fun s => (seqD p.2 e).bind fun t => some (⟨zipD s.items t.items, fun S => s.ok S ∧ t.ok S⟩, p.2)
  | _ => none

def kdD : D → Bool
  | .tup _ => false
  | .tud _ => false
  | _ => true
theorem seqD_ok {S : Sto} {d : D} {src : Src} (e : seqD S d = some src) : src.ok S := by
  cases d with
  | tup xs => cases e; trivial
  | tud xs => cases e; trivial
  | lst xs => cases e; trivial
  | arg xs => cases e; trivial
  | ref k =>
    unfold seqD at e
    cases ho : S[k]? with
    | none => simp only [ho] at e; cases e
    | some o =>
      cases o with
      | lst xs => simp only [ho] at e; cases e; exact ho
      | _ => simp only [ho] at e; cases e
  | _ => cases e
/-- a sequence as it stands: the address and the items -/
theorem seq_at {K : PySem.W.Frag} {S0 : Sto} {d : D} {src : Src} (e : seqD S0 d = some src) {m : Lbl} {S : Sto} {H : Hp} {v : V} (r : Rep K m H d v) (s : RelS K m S H) (ok : src.ok S) :
    ∃ a vs, v = .ref a ∧ SqA K H (kdD d) a vs ∧ Reps K m H src.items vs := by
  cases d with
  | tup xs =>
    cases e
    unfold Rep at r
    obtain ⟨p, vs, rfl, hp, n, rr⟩ := r
    exact ⟨p, vs, rfl, SqT.of hp, rr⟩
  | tud xs =>
    cases e
    unfold Rep at r
    obtain ⟨p, vs, od, rfl, hp, hd, n, rr⟩ := r
    exact ⟨p, vs, rfl, .inl (.inr ⟨od, hp⟩), rr⟩
  | lst xs =>
    cases e
    unfold Rep at r
    obtain ⟨p, vs, rfl, hp, n, rr⟩ := r
    exact ⟨p, vs, rfl, SqL.of hp, rr⟩
  | arg xs =>
    cases e
    unfold Rep at r
    obtain ⟨p, vs, rfl, hp, rr⟩ := r
    exact ⟨p, vs, rfl, hp.sq, rr⟩
  | ref k =>
    unfold seqD at e
    cases ho : S0[k]? with
    | none => simp only [ho] at e; cases e
    | some o =>
      cases o with
      | lst xs =>
        simp only [ho] at e
        cases e
        obtain ⟨b, ws, g1, g2, g3⟩ := s.at_ k _ ok
        unfold Rep at r
        cases r.2 b g1
        exact ⟨b, ws, rfl, SqL.of g2, g3⟩
      | _ => simp only [ho] at e; cases e
  | _ => cases e

section
variable {X : Cx} {tg : Expr} {pos : Pos}
theorem pi_imp {iter : Expr} {t t' : TI} (h : PI X tg iter t) (i : ∀ σ H R, t' σ H R → t σ H R) : PI X tg iter t' := ⟨fun pins s σ H R I q => h.run pins s σ H R I (i σ H R q)⟩
theorem pi_or {iter : Expr} {t t' : TI} (h : PI X tg iter t) (h' : PI X tg iter t') : PI X tg iter (fun σ H R => t σ H R ∨ t' σ H R) :=
  ⟨fun pins s σ H R I q => q.elim (fun q => h.run pins s σ H R I q) fun q => h'.run pins s σ H R I q⟩
def ItK (K : PySem.W.Frag) (a : Addr) : Bool → It
  | true => Itl K a
  | false => Itt K a
/-- the walk of a list or a tuple -/
theorem itok_seq {K : PySem.W.Frag} {S0 : Sto} {d : D} {src : Src} (e : seqD S0 d = some src) (a : Addr) {H0 : Hp} : ItOk K (ItK K a (kdD d)) [(d, .ref a)] src H0 := by
  intro m S H i _ hp s ok
  obtain ⟨b, vs, eb, hq, rr⟩ := seq_at e (hp _ List.mem_cons_self) s ok
  cases eb
  cases hk : kdD d with
  | true =>
    rw [hk] at hq
    refine ⟨fun d hd => ?_, fun hi => ⟨vs, hq, by rw [rr.length]; exact Nat.le_of_eq hi.symm⟩⟩
    obtain ⟨v, hv, r⟩ := rr.get hd
    refine ⟨⟨vs, v, hq, hv⟩, fun y H' hy => ?_⟩
    obtain ⟨rfl, hy⟩ := hy
    have hv' := hy vs hq
    rw [hv] at hv'
    cases hv'
    exact ⟨Ext.refl m _, s, r⟩
  | false =>
    rw [hk] at hq
    refine ⟨fun d hd => ?_, fun hi => ⟨vs, hq, by rw [rr.length]; exact Nat.le_of_eq hi.symm⟩⟩
    obtain ⟨v, hv, r⟩ := rr.get hd
    refine ⟨⟨vs, v, hq, hv⟩, fun y H' hy => ?_⟩
    obtain ⟨rfl, hy⟩ := hy
    have hv' := hy vs hq
    rw [hv] at hv'
    cases hv'
    exact ⟨Ext.refl m _, s, r⟩
theorem one_mem {P : D × V → Prop} {x : D × V} (h : P x) : ∀ p, p ∈ [x] → P p := fun p hp => by
  rw [List.mem_singleton.mp hp]; exact h
theorem two_mem {P : D × V → Prop} {x y : D × V} (h : P x) (h' : P y) : ∀ p, p ∈ [x, y] → P p := fun p hp => by
  rcases List.mem_cons.mp hp with rfl | hp
  · exact h
  · rw [List.mem_singleton.mp hp]; exact h'
theorem di_seq {l : Expr} {f : EF} (hl : PE X l (teOf X.K f)) : PI X tg l (tiOf X.K (iSeq f)) :=
  pi_imp (pi_or (pi_list hl) (pi_tup hl)) fun σ H R ⟨m, L, S, src, S', hl, hs, e, q⟩ => by
    obtain ⟨⟨d, S1⟩, e1, e⟩ := Option.bind_eq_some_iff.mp e
    obtain ⟨src', e2, e⟩ := Option.bind_eq_some_iff.mp e
    cases e
    cases hk : kdD d with
    | true =>
      left
      refine ⟨m, L, S, _, S1, hl, hs, e1, fun m1 H1 x x1 s1 r1 => ?_⟩
      obtain ⟨a, vs, rfl, hq, _⟩ := seq_at e2 r1 s1 (seqD_ok e2)
      have h := itok_seq (K := X.K) e2 a (H0 := H1)
      rw [hk] at h hq
      exact ⟨a, rfl, ⟨vs, hq⟩, q m1 H1 _ _ x1 s1 (one_mem r1) h⟩
    | false =>
      right
      refine ⟨m, L, S, _, S1, hl, hs, e1, fun m1 H1 x x1 s1 r1 => ?_⟩
      obtain ⟨a, vs, rfl, hq, _⟩ := seq_at e2 r1 s1 (seqD_ok e2)
      have h := itok_seq (K := X.K) e2 a (H0 := H1)
      rw [hk] at h hq
      exact ⟨a, rfl, ⟨vs, hq⟩, q m1 H1 _ _ x1 s1 (one_mem r1) h⟩

theorem one_of {m : Lbl} {K : PySem.W.Frag} {H : Hp} {a : D} {xs : List V} (r : Reps K m H [a] xs) : ∃ x, xs = [x] ∧ Rep K m H a x := by
  obtain ⟨x, r', rfl, h, q⟩ := r.of_cons
  rw [q.of_nil]
  exact ⟨x, rfl, h⟩
theorem two_ofL {m : Lbl} {K : PySem.W.Frag} {H : Hp} {a b : D} {xs : List V} (r : Reps K m H [a, b] xs) : ∃ x y, xs = [x, y] ∧ Rep K m H a x ∧ Rep K m H b y := by
  obtain ⟨x, r', rfl, h, q⟩ := r.of_cons
  obtain ⟨y, rfl, h2⟩ := one_of q
  exact ⟨x, y, rfl, h, h2⟩
theorem three_of {m : Lbl} {K : PySem.W.Frag} {H : Hp} {a b c : D} {xs : List V} (r : Reps K m H [a, b, c] xs) : ∃ x y z, xs = [x, y, z] ∧ Rep K m H a x ∧ Rep K m H b y ∧ Rep K m H c z := by
  obtain ⟨x, r', rfl, h, q⟩ := r.of_cons
  obtain ⟨y, z, rfl, h2⟩ := two_ofL q
  exact ⟨x, y, z, rfl, h, h2⟩

theorem no_mem {P : D × V → Prop} : ∀ p, p ∈ ([] : List (D × V)) → P p := fun p hp => nomatch hp
theorem itok_rng {K : PySem.W.Frag} {H0 : Hp} (lo : Int) (n : Nat) : ItOk K (Itr lo n) [] ⟨rngD lo n, fun _ => True⟩ H0 := by
  intro m S H i _ x s _
  refine ⟨fun d hd => ?_, fun hi => by show n ≤ i; rw [hi]; simp [rngD]⟩
  unfold rngD at hd
  rw [List.getElem?_map] at hd
  cases q : (List.range n)[i]? with
  | none => rw [q] at hd; cases hd
  | some j =>
    rw [q] at hd
    cases hd
    have hi : i < n := by
      have := (List.getElem?_eq_some_iff.mp q).1
      simpa using this
    have hj : j = i := by
      rw [List.getElem?_range hi] at q
      exact (Option.some.inj q).symm
    subst hj
    refine ⟨hi, fun y H' hy => ?_⟩
    obtain ⟨rfl, rfl⟩ := hy
    exact ⟨Ext.refl m _, s, int_rep⟩
theorem itok_rngC {K : PySem.W.Frag} {H0 : Hp} (lo c : Int) (n : Nat) : ItOk K (Itc lo c n) [] ⟨rngC lo c n, fun _ => True⟩ H0 := by
  intro m S H i _ x s _
  refine ⟨fun d hd => ?_, fun hi => by show n ≤ i; rw [hi]; simp [rngC]⟩
  unfold rngC at hd
  rw [List.getElem?_map] at hd
  cases q : (List.range n)[i]? with
  | none => rw [q] at hd; cases hd
  | some j =>
    rw [q] at hd
    cases hd
    have hi : i < n := by
      have := (List.getElem?_eq_some_iff.mp q).1
      simpa using this
    have hj : j = i := by
      rw [List.getElem?_range hi] at q
      exact (Option.some.inj q).symm
    subst hj
    refine ⟨hi, fun y H' hy => ?_⟩
    obtain ⟨rfl, rfl⟩ := hy
    exact ⟨Ext.refl m _, s, int_rep⟩
theorem di_rng1 {a : Expr} {f : AF} {p : Pos} (hm : X.mg "range" = none) (ha : PA X [a] (taOf X.K f)) (hg : Gl X "range" := by rfl) (hs : starEach [a] X.env = [(false, eval a X.env)] := by rfl) : PI X tg (.Call (.Name "range" p) [a] [] pos) (tiOf X.K (iRng1 f)) :=
  pi_imp (pi_range1 hg hm ha hs) fun σ H R ⟨m, L, S, src, S', hl, hs, e, q⟩ => by
    obtain ⟨⟨ds, S1⟩, e1, e⟩ := Option.bind_eq_some_iff.mp e
    refine ⟨m, L, S, ds, S1, hl, hs, e1, fun m1 H1 xs x1 s1 r1 => ?_⟩
    dsimp only at e
    split at e
    · obtain ⟨x, rfl, r⟩ := one_of r1
      cases rep_int r
      obtain ⟨hb, e⟩ := chk_some e
      cases e
      exact ⟨_, rfl, hb.1, hb.2, q m1 H1 _ _ x1 s1 no_mem (itok_rng _ _)⟩
    · cases e
theorem di_rng2 {a b : Expr} {f : AF} {p : Pos} (hm : X.mg "range" = none) (ha : PA X [a, b] (taOf X.K f)) (hg : Gl X "range" := by rfl) (hs : starEach [a, b] X.env = [(false, eval a X.env), (false, eval b X.env)] := by rfl) (hs2 : starEach [b] X.env = [(false, eval b X.env)] := by rfl) :
    PI X tg (.Call (.Name "range" p) [a, b] [] pos) (tiOf X.K (iRng2 f)) :=
  pi_imp (pi_range2 hg hm ha hs hs2) fun σ H R ⟨m, L, S, src, S', hl, hs, e, q⟩ => by
    obtain ⟨⟨ds, S1⟩, e1, e⟩ := Option.bind_eq_some_iff.mp e
    refine ⟨m, L, S, ds, S1, hl, hs, e1, fun m1 H1 xs x1 s1 r1 => ?_⟩
    dsimp only at e
    split at e
    · obtain ⟨x, y, rfl, r, r'⟩ := two_ofL r1
      cases rep_int r
      cases rep_int r'
      obtain ⟨hb, e⟩ := chk_some e
      cases e
      exact ⟨_, _, rfl, hb, q m1 H1 _ _ x1 s1 no_mem (itok_rng _ _)⟩
    · cases e
theorem di_rngB {a b c : Expr} {f : AF} {p : Pos} (hm : X.mg "range" = none) (ha : PA X [a, b, c] (taOf X.K f)) (hg : Gl X "range" := by rfl) (hs : starEach [a, b, c] X.env = (false, eval a X.env) :: starEach [b, c] X.env := by rfl) (hpl : (backTo pos (starEach [b, c] X.env)).any (·.1) = false := by rfl) :
    PI X tg (.Call (.Name "range" p) [a, b, c] [] pos) (tiOf X.K (iRngB f)) :=
  pi_imp (pi_range3 hg hm ha hs hpl) fun σ H R ⟨m, L, S, src, S', hl, hs, e, q⟩ => by
    obtain ⟨⟨ds, S1⟩, e1, e⟩ := Option.bind_eq_some_iff.mp e
    refine ⟨m, L, S, ds, S1, hl, hs, e1, fun m1 H1 xs x1 s1 r1 => ?_⟩
    dsimp only at e
    split at e
    · obtain ⟨x, y, z, rfl, r, r', r''⟩ := three_of r1
      cases rep_int r
      cases rep_int r'
      cases rep_int r''
      obtain ⟨hb, e⟩ := chk_some e
      cases e
      obtain ⟨rfl, h1, h2, h3, h4⟩ := hb
      exact ⟨_, _, _, _, rfl, RgC.neg h1 h2 h3 h4, q m1 H1 _ _ x1 s1 no_mem (itok_rngC _ _ _)⟩
    · cases e

theorem enumD_get : ∀ (ds : List D) (k i : Nat), (enumD k ds)[i]? = (ds[i]?).map fun d => D.tup [.int ((k + i : Nat) : Int), d]
  | [], _, _ => by simp [enumD]
  | d :: ds, k, 0 => by simp [enumD]
  | d :: ds, k, i + 1 => by
    simp only [enumD, List.getElem?_cons_succ, enumD_get ds (k + 1) i]
    have : k + 1 + i = k + (i + 1) := by omega
    rw [this]
theorem enumD_len : ∀ (ds : List D) (k : Nat), (enumD k ds).length = ds.length
  | [], _ => rfl
  | d :: ds, k => by simp [enumD, enumD_len ds]
theorem zipD_get : ∀ (as bs : List D) (i : Nat) (d : D), (zipD as bs)[i]? = some d → ∃ a b, as[i]? = some a ∧ bs[i]? = some b ∧ d = .tup [a, b]
  | [], _, _, _, h => by simp [zipD] at h
  | _ :: _, [], _, _, h => by simp [zipD] at h
  | a :: as, b :: bs, 0, d, h => by simp [zipD] at h; exact ⟨a, b, rfl, rfl, h.symm⟩
  | a :: as, b :: bs, i + 1, d, h => by
    simp only [zipD, List.getElem?_cons_succ] at h
    obtain ⟨x, y, h1, h2, h3⟩ := zipD_get as bs i d h
    exact ⟨x, y, by simpa using h1, by simpa using h2, h3⟩
theorem zipD_len : ∀ (as bs : List D), (zipD as bs).length = min as.length bs.length
  | [], _ => by simp [zipD]
  | _ :: _, [] => by simp [zipD]
  | a :: as, b :: bs => by simp [zipD, zipD_len as bs]
/-- a new pair that the walk makes -/
theorem pair_new {K : PySem.W.Frag} {m : Lbl} {S : Sto} {H : Hp} {T : Addr} {a b : D} {x y : V} (s : RelS K m S H) (hx : Rep K m H a x) (hy : Rep K m H b y) (hT : H T = none) :
    Ext m m H (upd H T (.tup [x, y])) ∧ RelS K m S (upd H T (.tup [x, y])) ∧ Rep K m (upd H T (.tup [x, y])) (.tup [a, b]) (.ref T) := tup_new s (Reps.cons hx (Reps.cons hy Reps.nil)) hT
theorem di_enum {e : Expr} {f : AF} {p tpos : Pos} {elts : List Expr} {kk : Nat} (hm : X.mg "enumerate" = none) (ha : PA X [e] (taOf X.K f)) (hg : Gl X "enumerate" := by rfl) (hs : starEach [e] X.env = [(false, eval e X.env)] := by rfl) :
    PI X (.Tuple elts kk tpos) (.Call (.Name "enumerate" p) [e] [] pos) (tiOf X.K (iEnum f)) :=
  pi_imp (pi_enumK hg hm ha hs) fun σ H R ⟨m, L, S, src, S', hl, hs, e, q⟩ => by
    obtain ⟨⟨ds, S1⟩, e1, e⟩ := Option.bind_eq_some_iff.mp e
    refine ⟨m, L, S, ds, S1, hl, hs, e1, fun m1 H1 xs x1 s1 r1 => ?_⟩
    dsimp only at e
    split at e
    · rename_i d
      obtain ⟨x, rfl, r⟩ := one_of r1
      obtain ⟨src1, e2, e⟩ := Option.bind_eq_some_iff.mp e
      cases e
      obtain ⟨a, vs, rfl, hq, _⟩ := seq_at e2 r s1 (seqD_ok e2)
      refine ⟨kdD d, a, vs, rfl, hq, q m1 H1 _ [(d, .ref a)] x1 s1 (one_mem r) ?_⟩
      intro m2 S2 H2 i _ hp s2 ok
      obtain ⟨b, ws, eb, hw, rr⟩ := seq_at e2 (hp _ List.mem_cons_self) s2 ok
      cases eb
      refine ⟨fun y hy => ?_, fun hi => ⟨ws, hw, by rw [rr.length, hi]; exact (enumD_len _ _).symm⟩⟩
      have hy : (enumD 0 src1.items)[i]? = some y := hy
      rw [enumD_get] at hy
      cases hz : src1.items[i]? with
      | none => rw [hz] at hy; cases hy
      | some z =>
        rw [hz] at hy
        cases hy
        obtain ⟨v, hv, rz⟩ := rr.get hz
        refine ⟨⟨ws, v, hw, hv⟩, fun u H' hu => ?_⟩
        obtain ⟨T, x', rfl, hT, rfl, hx'⟩ := hu
        have e3 := hx' ws hw
        rw [hv] at e3
        cases e3
        have := pair_new (a := .int ((0 + i : Nat) : Int)) (x := .int ((i : Nat) : Int)) s2 (by unfold Rep; simp) rz hT
        exact this
    · cases e
theorem di_zip {e e2 : Expr} {f : AF} {p tpos : Pos} {elts : List Expr} {kk : Nat} (hm : X.mg "zip" = none) (ha : PA X [e, e2] (taOf X.K f)) (hg : Gl X "zip" := by rfl)
    (hs : starEach [e, e2] X.env = (false, eval e X.env) :: starEach [e2] X.env := by rfl) (hpl : (backTo pos (starEach [e2] X.env)).any (·.1) = false := by rfl) :
    PI X (.Tuple elts kk tpos) (.Call (.Name "zip" p) [e, e2] [] pos) (tiOf X.K (iZip f)) :=
  pi_imp (pi_zipK hg hm ha hs hpl) fun σ H R ⟨m, L, S, src, S', hl, hs, e, q⟩ => by
    obtain ⟨⟨ds, S1⟩, e1, e⟩ := Option.bind_eq_some_iff.mp e
    refine ⟨m, L, S, ds, S1, hl, hs, e1, fun m1 H1 xs x1 s1 r1 => ?_⟩
    dsimp only at e
    split at e
    · rename_i d1 d2
      obtain ⟨x, y, rfl, r, r'⟩ := two_ofL r1
      obtain ⟨sa, ea, e⟩ := Option.bind_eq_some_iff.mp e
      obtain ⟨sb, eb, e⟩ := Option.bind_eq_some_iff.mp e
      cases e
      obtain ⟨a, vs, rfl, hq, _⟩ := seq_at ea r s1 (seqD_ok ea)
      obtain ⟨b, us, rfl, hq', _⟩ := seq_at eb r' s1 (seqD_ok eb)
      refine ⟨kdD d1, kdD d2, a, b, vs, us, rfl, hq, hq', q m1 H1 _ [(d1, .ref a), (d2, .ref b)] x1 s1 (two_mem r r') ?_⟩
      intro m2 S2 H2 i _ hp s2 ok
      obtain ⟨a', ws, ea', hw, rr⟩ := seq_at ea (hp _ List.mem_cons_self) s2 ok.1
      cases ea'
      obtain ⟨b', ts, eb', ht, rt⟩ := seq_at eb (hp _ (List.mem_cons_of_mem _ List.mem_cons_self)) s2 ok.2
      cases eb'
      refine ⟨fun y hy => ?_, fun hi => ⟨ws, ts, hw, ht, ?_⟩⟩
      · obtain ⟨y1, y2, h1, h2, rfl⟩ := zipD_get _ _ _ _ hy
        obtain ⟨v, hv, rz⟩ := rr.get h1
        obtain ⟨v', hv', rz'⟩ := rt.get h2
        refine ⟨⟨ws, ts, v, v', hw, ht, hv, hv'⟩, fun u H' hu => ?_⟩
        obtain ⟨T, x', y', rfl, hT, rfl, hx', hy'⟩ := hu
        have e3 := hx' ws hw
        rw [hv] at e3
        cases e3
        have e4 := hy' ts ht
        rw [hv'] at e4
        cases e4
        exact pair_new s2 rz rz' hT
      · have hi : i = (zipD sa.items sb.items).length := hi
        rw [zipD_len] at hi
        rw [rr.length, rt.length]
        omega
    · cases e
end
end DS
namespace DS
open PySem PySem.Spec PyProof.Rows L2

/-! ### for -/
noncomputable def forL (ok : Sto → Prop) (g : GF) (body : SF) (kl : List Nat) : List D → Loc → Sto → Option (Flo × Loc × Sto)
  | [], L, S => chk (ok S) (some (.nx, L, S))
  | d :: ds, L, S => chk (ok S) ((g d L S).bind fun L1 => (body L1 S).bind fun r => match r with
    | (.nx, L2, S2) => forL ok g body kl ds (kill L2 kl) S2
    | (.ct, L2, S2) => forL ok g body kl ds (kill L2 kl) S2
    | (.bk, L2, S2) => some (.nx, kill L2 kl, S2)
    | (.rt d, L2, S2) => some (.rt d, L2, S2))
noncomputable def sFor (it : IF) (g : GF) (body : SF) (kl : List Nat) : SF := fun L S => (it L S).bind fun p => forL p.1.ok g body kl p.1.items L p.2
section
variable {X : Cx} {pos : Pos}
theorem ds_for {tg iter : Expr} {body : List Stmt} {it : IF} {g : GF} {is : List Nat} {f : SF} (kl : List Nat) (hp : PassesOwn (model X.prog X.w) X.A X.env X.xe) (hc : X.calm = true) (hi : PI X tg iter (tiOf X.K it)) (hg : PG X tg (tgOf X.K is g)) (hb : PSs X body (tsOf X.K f))
    (hs : ∀ x, foldedSetIterable iter X.env x = pure x := by intro _; rfl) : PS X (.For tg iter body [] pos) (tsOf X.K (sFor it g f kl)) :=
  ps_imp (ps_for hp hc hi hg hb hs) fun E σ H ⟨m, L, S, r, L', S', hl, hs, e, q⟩ => by
    obtain ⟨⟨src, S1⟩, e1, e⟩ := Option.bind_eq_some_iff.mp e
    refine ⟨m, L, S, src, S1, hl, hs, e1, fun m1 H1 J prs x1 s1 hprs ok => ?_⟩
    refine ⟨fun i k σ H => ∃ m2 L2 S2, Ext m1 m2 H1 H ∧ RelL X.K m2 H L2 σ ∧ RelS X.K m2 S2 H ∧ i ≤ src.items.length ∧ k = src.items.length - i ∧ forL src.ok g f kl (src.items.drop i) L2 S2 = some (r, L', S'),
      ⟨_, m1, L, S1, Ext.refl _ _, hl.ext x1, s1, Nat.zero_le _, rfl, e⟩, ?_⟩
    rintro i k σ2 H2 ⟨m2, L2, S2, x2, l2, s2, hle, rfl, e2⟩
    by_cases hlt : i < src.items.length
    · right
      have hd : src.items.drop i = src.items[i] :: src.items.drop (i + 1) := List.drop_eq_getElem_cons hlt
      rw [hd] at e2
      obtain ⟨hok, e2⟩ := chk_some e2
      obtain ⟨L3, e3, e2⟩ := Option.bind_eq_some_iff.mp e2
      obtain ⟨⟨r4, L4, S4⟩, e4, e2⟩ := Option.bind_eq_some_iff.mp e2
      obtain ⟨go, yl⟩ := (ok m2 S2 H2 i x2.frz (fun p hp => Rep.ext x2 _ _ (hprs p hp)) s2 hok).1 _ (List.getElem?_eq_getElem hlt)
      refine ⟨go, fun σ' H' => ∃ m2 L2 S2, Ext m1 m2 H1 H' ∧ RelL X.K m2 H' L2 σ' ∧ RelS X.K m2 S2 H' ∧ forL src.ok g f kl (src.items.drop (i + 1)) L2 S2 = some (r, L', S'), ?_, ?_⟩
      · rintro σ' H' ⟨m5, L5, S5, x5, l5, s5, e5⟩
        exact ⟨_, by omega, m5, L5, S5, x5, l5, s5, hlt, rfl, e5⟩
      · intro v H3 hy
        obtain ⟨y1, y2, y3⟩ := yl v H3 hy
        refine ⟨m2, L2, S2, _, L3, l2.ext y1, y2, y3, e3, fun σ3 l3 _ => ?_⟩
        refine ⟨m2, L3, S2, r4, L4, S4, l3, y2, e4, ?_⟩
        have x3 := x1.trans (x2.trans y1)
        cases r4 with
        | nx => exact fun m' σ' H' y l s => ⟨m', _, S4, x2.trans (y1.trans y), RelL.kill kl l, s, e2⟩
        | ct => exact fun m' σ' H' y l s => ⟨m', _, S4, x2.trans (y1.trans y), RelL.kill kl l, s, e2⟩
        | bk =>
          cases e2
          exact fun m' σ' H' y l s => q m' σ' H' (x3.trans y) (RelL.kill kl l) s
        | rt d =>
          cases e2
          exact fun m' H' v y s rr => q m' H' v (x3.trans y) s rr
    · left
      have hi : i = src.items.length := by omega
      subst hi
      rw [List.drop_length] at e2
      obtain ⟨hok, e2⟩ := chk_some e2
      cases e2
      exact ⟨(ok m2 _ H2 _ x2.frz (fun p hp => Rep.ext x2 _ _ (hprs p hp)) s2 hok).2 rfl, q m2 σ2 H2 (x1.trans x2) l2 s2⟩
end

/-! ### while -/
def whL (t : TF) (body : SF) (kl : List Nat) : Nat → Loc → Sto → Option (Flo × Loc × Sto)
  | 0, _, _ => none
  | n + 1, L, S => (t L S).bind fun p => if p.1 = true then (body L p.2).bind fun r => match r with
    | (.nx, L2, S2) => whL t body kl n (kill L2 kl) S2
    | (.ct, L2, S2) => whL t body kl n (kill L2 kl) S2
    | (.bk, L2, S2) => some (.nx, kill L2 kl, S2)
    | (.rt d, L2, S2) => some (.rt d, L2, S2) else some (.nx, L, p.2)
theorem whL_succ {t : TF} {body : SF} {kl : List Nat} : ∀ {n : Nat} {L : Loc} {S : Sto} {r}, whL t body kl n L S = some r → whL t body kl (n + 1) L S = some r
  | 0, _, _, _, h => by cases h
  | n + 1, L, S, r, h => by
    unfold whL at h ⊢
    obtain ⟨⟨b, S1⟩, e1, h⟩ := Option.bind_eq_some_iff.mp h
    rw [e1, Option.bind_some]
    cases b with
    | false => exact h
    | true =>
      simp only [if_true] at h ⊢
      obtain ⟨⟨r2, L2, S2⟩, e2, h⟩ := Option.bind_eq_some_iff.mp h
      rw [e2, Option.bind_some]
      cases r2 with
      | nx => exact whL_succ h
      | ct => exact whL_succ h
      | bk => exact h
      | rt d => exact h
theorem whL_mono {t : TF} {body : SF} {kl : List Nat} {n : Nat} {L : Loc} {S : Sto} {r} (h : whL t body kl n L S = some r) : ∀ k, whL t body kl (n + k) L S = some r
  | 0 => h
  | k + 1 => whL_succ (whL_mono h k)
theorem whL_inj {t : TF} {body : SF} {kl : List Nat} {n k : Nat} {L : Loc} {S : Sto} {r r'} (h : whL t body kl n L S = some r) (h' : whL t body kl k L S = some r') : r = r' := by
  have h1 := whL_mono h k
  have h2 := whL_mono h' n
  rw [Nat.add_comm] at h2
  rw [h1] at h2
  exact Option.some.inj h2
noncomputable def sWhile (t : TF) (body : SF) (kl : List Nat) : SF := fun L S => by
  classical exact if h : ∃ n r, whL t body kl n L S = some r then some (Classical.choose (Classical.choose_spec h)) else none
theorem sWhile_of {t : TF} {body : SF} {kl : List Nat} {n : Nat} {L : Loc} {S : Sto} {r} (h : whL t body kl n L S = some r) : sWhile t body kl L S = some r := by
  unfold sWhile
  have hx : ∃ n r, whL t body kl n L S = some r := ⟨n, r, h⟩
  rw [dif_pos hx]
  exact congrArg some (whL_inj (Classical.choose_spec (Classical.choose_spec hx)) h)
theorem sWhile_some {t : TF} {body : SF} {kl : List Nat} {L : Loc} {S : Sto} {r} (h : sWhile t body kl L S = some r) : ∃ n, whL t body kl n L S = some r := by
  unfold sWhile at h
  by_cases hx : ∃ n r, whL t body kl n L S = some r
  · rw [dif_pos hx] at h
    cases h
    exact ⟨_, Classical.choose_spec (Classical.choose_spec hx)⟩
  · rw [dif_neg hx] at h; cases h
section
variable {X : Cx} {pos : Pos}
theorem ds_while {c : Expr} {body : List Stmt} {t : TF} {f : SF} (kl : List Nat) (hp : PassesOwn (model X.prog X.w) X.A X.env X.xe) (hc : PT X c (ttOf X.K t)) (hb : PSs X body (tsOf X.K f)) : PS X (.While c body [] pos) (tsOf X.K (sWhile t f kl)) :=
  ps_imp (ps_while hp hc hb) fun E σ H ⟨m, L, S, r, L', S', hl, hs, e, q⟩ => by
    obtain ⟨n, e⟩ := sWhile_some e
    refine ⟨fun k σ H2 => ∃ m2 L2 S2, Ext m m2 H H2 ∧ RelL X.K m2 H2 L2 σ ∧ RelS X.K m2 S2 H2 ∧ whL t f kl k L2 S2 = some (r, L', S'), ⟨n, m, L, S, Ext.refl _ _, hl, hs, e⟩, ?_⟩
    rintro k σ2 H2 ⟨m2, L2, S2, x2, l2, s2, e2⟩
    cases k with
    | zero => cases e2
    | succ k =>
      unfold whL at e2
      obtain ⟨⟨b, S3⟩, e3, e2⟩ := Option.bind_eq_some_iff.mp e2
      refine ⟨m2, L2, S2, b, S3, l2, s2, e3, fun m3 H3 x3 s3 => ?_⟩
      cases b with
      | false =>
        cases e2
        exact iteF (q m3 σ2 H3 (x2.trans x3) (l2.ext x3) s3)
      | true =>
        simp only [if_true] at e2
        obtain ⟨⟨r4, L4, S4⟩, e4, e2⟩ := Option.bind_eq_some_iff.mp e2
        refine iteT ⟨fun σ' H' => ∃ m2 L2 S2, Ext m m2 H H' ∧ RelL X.K m2 H' L2 σ' ∧ RelS X.K m2 S2 H' ∧ whL t f kl k L2 S2 = some (r, L', S'), fun σ' H' h => ⟨k, Nat.lt_succ_self k, h⟩, ?_⟩
        refine ⟨m3, L2, S3, r4, L4, S4, l2.ext x3, s3, e4, ?_⟩
        have x4 := x2.trans x3
        cases r4 with
        | nx => exact fun m' σ' H' y l s => ⟨m', _, S4, x4.trans y, RelL.kill kl l, s, e2⟩
        | ct => exact fun m' σ' H' y l s => ⟨m', _, S4, x4.trans y, RelL.kill kl l, s, e2⟩
        | bk =>
          cases e2
          exact fun m' σ' H' y l s => q m' σ' H' (x4.trans y) (RelL.kill kl l) s
        | rt d =>
          cases e2
          exact fun m' H' v y s rr => q m' H' v (x4.trans y) s rr
end

/-! ### comprehensions -/
def wipeL (L : Loc) (ks : List Nat) : Loc := ks.foldr (fun k l => l.set k none) L
noncomputable def lcL (ok : Sto → Prop) (g : GF) (tt : TF) (te : EF) (L0 : Loc) : List D → Sto → Option (List D × Sto)
  | [], S => chk (ok S) (some ([], S))
  | d :: ds, S => chk (ok S) ((g d L0 S).bind fun L1 => (tt L1 S).bind fun p => if p.1 = true then (te L1 p.2).bind fun y => (lcL ok g tt te L0 ds y.2).bind fun r => some (y.1 :: r.1, r.2) else lcL ok g tt te L0 ds p.2)
/-- the items of a comprehension -/
noncomputable def lcF (own : List Nat) (it : IF) (g : GF) (tt : TF) (te : EF) : AF := fun L S => (it L S).bind fun p => (lcL p.1.ok g tt te (wipeL L own) p.1.items p.2).bind fun r => if r.1.length ≤ sizeLine then some r else none
def bYes : TF := fun _ S => some (true, S)
section
variable {K : PySem.W.Frag} {m m' : Lbl} {H H' : Hp} {S : Sto}
mutual
theorem Rep.label {p : Addr} : ∀ (d : D) (v : V), Rep K (m.hold p) H d v → Rep K (m.push p) H d v
  | .non, _, h => by unfold Rep at h ⊢; exact h
  | .bl _, _, h => by unfold Rep at h ⊢; exact h
  | .int _, _, h => by unfold Rep at h ⊢; exact h
  | .str _, _, h => by unfold Rep at h ⊢; exact h
  | .rep _, _, h => by unfold Rep at h ⊢; exact h
  | .ref k, v, h => by
    unfold Rep at h ⊢
    have hk : k < m.l.length := h.1
    refine ⟨by simp [Lbl.push]; omega, fun q e => ?_⟩
    rcases Lbl.push_at e with ⟨_, z⟩ | ⟨z, _⟩
    · exact h.2 q z
    · omega
  | .tup ds, v, h => by
    unfold Rep at h ⊢
    obtain ⟨q, vs, e, hq, n, r⟩ := h
    exact ⟨q, vs, e, hq, label_no n, Reps.label ds vs r⟩
  | .tud ds, v, h => by
    unfold Rep at h ⊢
    obtain ⟨q, vs, od, e, hq, hd, n, r⟩ := h
    exact ⟨q, vs, od, e, hq, hd, label_no n, Reps.label ds vs r⟩
  | .lst ds, v, h => by
    unfold Rep at h ⊢
    obtain ⟨q, vs, e, hq, n, r⟩ := h
    exact ⟨q, vs, e, hq, label_no n, Reps.label ds vs r⟩
  | .arg ds, v, h => by
    unfold Rep at h ⊢
    obtain ⟨q, vs, e, hq, r⟩ := h
    exact ⟨q, vs, e, hq.imp (fun ⟨z, n⟩ => ⟨z, label_no n⟩) id, Reps.label ds vs r⟩
  | .nod, v, h => by
    unfold Rep at h ⊢
    obtain ⟨q, e, hq, n⟩ := h
    exact ⟨q, e, hq, label_no n⟩
theorem Reps.label {p : Addr} : ∀ (ds : List D) (vs : List V), Reps K (m.hold p) H ds vs → Reps K (m.push p) H ds vs
  | [], _, h => by unfold Reps at h ⊢; exact h
  | d :: ds, vs, h => by
    unfold Reps at h ⊢
    obtain ⟨v, r, e, h1, h2⟩ := h
    exact ⟨v, r, e, Rep.label d v h1, Reps.label ds r h2⟩
end
theorem Ext.under {p : Addr} {o o2 : HO} (x : Ext (m.hold p) m' (upd H p o) H') : Ext (m.hold p) m' (upd H p o2) (upd H' p o2) where
  keep := fun a u e n => by
    have hne := n.of_hold.2
    rw [upd_ne hne] at e ⊢
    exact x.keep a u (by rw [upd_ne hne]; exact e) n
  stay := fun a e => by
    by_cases h : a = p
    · subst h; rw [upd_same] at e; cases e
    · rw [upd_ne h] at e ⊢
      have := x.stay a e
      rw [upd_ne h] at this
      exact this
  new := fun k a e => by
    rcases x.new k a e with q | q
    · exact .inl q
    · by_cases h : a = p
      · subst h; rw [upd_same] at q; cases q
      · rw [upd_ne h] at q ⊢; exact .inr q
  old := x.old
  len := x.len
  res := x.res
  fix := fun a h => by
    by_cases hz : a = p
    · subst hz; rw [upd_same, upd_same]
    · have := x.fix a h
      rw [upd_ne hz] at this ⊢
      rw [upd_ne hz]; exact this
  frz := fun a z u e => by
    by_cases hz : a = p
    · subst hz; rw [upd_same] at e ⊢; exact e
    · rw [upd_ne hz] at e ⊢
      exact x.frz a z u (by rw [upd_ne hz]; exact e)
end
/-- a fresh list: nobody else holds it -/
def TLst (K : PySem.W.Frag) (t : TE) (f : AF) : Prop := ∀ (σ : L2.St) (H : Hp) (Q : VK) (m : Lbl) (L : Loc) (S : Sto) (ds : List D) (S' : Sto), RelL K m H L σ → RelS K m S H → f L S = some (ds, S') →
  (∀ mm H' p vs, Ext m mm H H' → RelS K (mm.hold p) S' H' → Reps K (mm.hold p) H' ds vs → H' p = some (.lst vs) → H p = none → Q (.ref p) H') → t σ H Q
theorem tlst_new {K : PySem.W.Frag} {m mm : Lbl} {H H' : Hp} {S' : Sto} {ds : List D} {vs : List V} {p : Addr} (x : Ext m mm H H') (s : RelS K mm S' H') (r : Reps K mm H' ds vs) (hp : H' p = none) :
    Ext m mm H (upd H' p (.lst vs)) ∧ RelS K (mm.hold p) S' (upd H' p (.lst vs)) ∧ Reps K (mm.hold p) (upd H' p (.lst vs)) ds vs ∧ (upd H' p (.lst vs)) p = some (.lst vs) ∧ H p = none :=
  ⟨x.trans (Ext.laid s hp), s.hold hp, Reps.hold hp _ _ r, upd_same, x.stay p hp⟩
def eFro (f : AF) : EF := fun L S => (f L S).bind fun p => some (.lst p.1, p.2)
def eMut (f : AF) : EF := fun L S => (f L S).bind fun p => some (.ref p.2.length, p.2 ++ [.lst p.1])
theorem tlst_fro {K : PySem.W.Frag} {t : TE} {f : AF} (h : TLst K t f) {σ : L2.St} {H : Hp} {Q : VK} (q : teOf K (eFro f) σ H Q) : t σ H Q := by
  obtain ⟨m, L, S, d, S', hl, hs, e, q⟩ := q
  obtain ⟨⟨ds, S1⟩, e1, e⟩ := Option.bind_eq_some_iff.mp e
  cases e
  refine h σ H Q m L S ds S1 hl hs e1 fun mm H' p vs x s r hp h0 => ?_
  refine q mm H' _ x s.free ?_
  unfold Rep
  refine ⟨p, vs, rfl, hp, ⟨(s.rsv p List.mem_cons_self).2, fun hm => ?_⟩, Reps.free _ _ r⟩
  rw [x.res] at hm
  obtain ⟨⟨o, e, _⟩, _⟩ := hs.rsv p hm
  rw [h0] at e; cases e
theorem tlst_mut {K : PySem.W.Frag} {t : TE} {f : AF} (h : TLst K t f) {σ : L2.St} {H : Hp} {Q : VK} (q : teOf K (eMut f) σ H Q) : t σ H Q := by
  obtain ⟨m, L, S, d, S', hl, hs, e, q⟩ := q
  obtain ⟨⟨ds, S1⟩, e1, e⟩ := Option.bind_eq_some_iff.mp e
  cases e
  refine h σ H Q m L S ds S1 hl hs e1 fun mm H' p vs x s r hp h0 => ?_
  have e0 : (mm.push p).l[mm.l.length]? = some (some p) := by simp [Lbl.push]
  have hpm : p ∉ mm.r := fun hm => by
    rw [x.res] at hm
    obtain ⟨⟨o, e, _⟩, _⟩ := hs.rsv p hm
    rw [h0] at e; cases e
  refine q (mm.push p) H' _ ?_ ?_ ?_
  · exact ⟨x.keep, x.stay, fun k a e => by
      rcases Lbl.push_at e with ⟨_, z⟩ | ⟨_, z⟩
      · exact x.new k a z
      · exact .inr (z ▸ h0), fun k hk => by
      have : (mm.push p).l[k]? = mm.l[k]? := List.getElem?_append_left (Nat.lt_of_lt_of_le hk x.len)
      rw [this]; exact x.old k hk, Nat.le_trans x.len (by simp [Lbl.push]), x.res, x.fix, x.frz⟩
  · refine ⟨by simp [Lbl.push, s.free.len], fun k u e => ?_, fun i j a e1 e2 => ?_, fun a ha => ?_⟩
    · by_cases hk : k < S1.length
      · rw [List.getElem?_append_left hk] at e
        exact (s.at_ k u e).map Rep.label Reps.label (List.getElem?_append_left (by have := s.len; simp [Lbl.hold] at this; omega)) fun a _ => rfl
      · have hk2 : k = S1.length := by
          have := (List.getElem?_eq_some_iff.mp e).1
          simp at this; omega
        subst hk2
        rw [List.getElem?_append_right (Nat.le_refl _)] at e
        simp at e
        subst e
        have hl : S1.length = mm.l.length := by have := s.len; simp [Lbl.hold] at this; exact this.symm
        rw [hl]
        exact ⟨p, vs, e0, hp, Reps.label _ _ r⟩
    · rcases Lbl.push_at e1 with ⟨_, q1⟩ | ⟨q1, z1⟩ <;> rcases Lbl.push_at e2 with ⟨_, q2⟩ | ⟨q2, z2⟩
      · exact s.inj i j a q1 q2
      · subst z2
        exact absurd q1 ((s.rsv _ List.mem_cons_self).2 i)
      · subst z1
        exact absurd q2 ((s.rsv _ List.mem_cons_self).2 j)
      · omega
    · obtain ⟨q1, q2⟩ := s.rsv a (List.mem_cons_of_mem _ ha)
      refine ⟨q1, fun k ek => ?_⟩
      rcases Lbl.push_at ek with ⟨_, z⟩ | ⟨_, z⟩
      · exact q2 k z
      · exact hpm (z ▸ ha)
  · have hl : S1.length = mm.l.length := by have := s.len; simp [Lbl.hold] at this; exact this.symm
    unfold Rep
    rw [hl]
    exact ⟨by simp [Lbl.push], fun q eq => by rw [e0] at eq; cases eq; rfl⟩

theorem tlst_lc {K : PySem.W.Frag} {it : IF} {g : GF} {is own : List Nat} {tt : TF} {te : EF} (hsub : ∀ i, i ∈ is → i ∈ own) : TLst K (tLc (tiOf K it) (tgOf K is g) (ttOf K tt) (teOf K te) own) (lcF own it g tt te) := by
  intro σ H Q m L S ds S' hl hs e q
  obtain ⟨⟨src, S1⟩, e1, e⟩ := Option.bind_eq_some_iff.mp e
  obtain ⟨⟨rs, S2⟩, e2, e⟩ := Option.bind_eq_some_iff.mp e
  by_cases hz : rs.length ≤ sizeLine
  · simp only [hz, if_true] at e
    cases e
    refine ⟨m, L, S, src, S1, hl, hs, e1, fun m1 H1 J prs x1 s1 hprs ok => fun p hp => ?_⟩
    have hl1 : RelL K (m1.hold p) (upd H1 p (.lst [])) (wipeL L own) (L2.wipe σ own) := ((hl.ext x1).wipe own).hold hp
    have hpr1 : ∀ q, q ∈ prs → Rep K (m1.hold p) (upd H1 p (.lst [])) q.1 q.2 := fun q hq => Rep.hold hp _ _ (hprs q hq)
    refine ⟨fun i k H2 => ∃ (mm : Lbl) (S2 : Sto) (Hx : Hp) (vs : List V) (acc rest : List D), Ext (m1.hold p) (mm.hold p) (upd H1 p (.lst [])) (upd Hx p (.lst [])) ∧ mm.r = m1.r ∧ H2 = upd Hx p (.lst vs) ∧ RelS K (mm.hold p) S2 H2 ∧
      Reps K (mm.hold p) H2 acc vs ∧ lcL src.ok g tt te (wipeL L own) (src.items.drop i) S2 = some (rest, S') ∧ acc ++ rest = ds ∧ i ≤ src.items.length ∧ k = src.items.length - i, ?_, ?_⟩
    · refine ⟨_, m1, S1, H1, [], [], ds, Ext.refl _ _, rfl, rfl, s1.hold hp, Reps.nil, ?_, rfl, Nat.zero_le _, rfl⟩
      simpa using e2
    · rintro i k H2 ⟨mm, S2, Hx, vs, acc, rest, x2, hr, rfl, s2, ra, e3, hap, hle, rfl⟩
      have fill : ∀ (d : D) (v : V), Rep K (mm.hold p) (upd Hx p (.lst [])) d v → Rep K (mm.hold p) (upd Hx p (.lst vs)) d v := fun d v h => by
        have := Rep.fill (o := .lst vs) d v h
        rw [upd_upd] at this
        exact this
      have frz2 : ∀ a o u, H1 a = some (.frz o u) → (upd Hx p (.lst vs)) a = some (.frz o u) := fun a o u e => by
        have hne := ne_of_none e hp
        have := x2.frz a o u (by rw [upd_ne hne]; exact e)
        rw [upd_ne hne] at this ⊢
        exact this
      have hpr2 : ∀ q, q ∈ prs → Rep K (mm.hold p) (upd Hx p (.lst vs)) q.1 q.2 := fun q hq => fill _ _ (Rep.ext x2 _ _ (hpr1 q hq))
      have hl2 : RelL K (mm.hold p) (upd Hx p (.lst vs)) (wipeL L own) (L2.wipe σ own) := ⟨hl1.len, fun i d e => let ⟨v, e1, r⟩ := (hl1.ext x2).at_ i d e; ⟨v, e1, fill d v r⟩⟩
      by_cases hlt : i < src.items.length
      · right
        have hd : src.items.drop i = src.items[i] :: src.items.drop (i + 1) := List.drop_eq_getElem_cons hlt
        rw [hd] at e3
        obtain ⟨hok, e3⟩ := chk_some e3
        obtain ⟨L3, e4, e3⟩ := Option.bind_eq_some_iff.mp e3
        obtain ⟨⟨b, S3⟩, e5, e3⟩ := Option.bind_eq_some_iff.mp e3
        obtain ⟨go, yl⟩ := (ok (mm.hold p) S2 (upd Hx p (.lst vs)) i frz2 hpr2 s2 hok).1 _ (List.getElem?_eq_getElem hlt)
        refine ⟨go, fun H' => ∃ (mm : Lbl) (S2 : Sto) (Hx : Hp) (vs : List V) (acc rest : List D), Ext (m1.hold p) (mm.hold p) (upd H1 p (.lst [])) (upd Hx p (.lst [])) ∧ mm.r = m1.r ∧ H' = upd Hx p (.lst vs) ∧ RelS K (mm.hold p) S2 H' ∧
          Reps K (mm.hold p) H' acc vs ∧ lcL src.ok g tt te (wipeL L own) (src.items.drop (i + 1)) S2 = some (rest, S') ∧ acc ++ rest = ds, ?_, ?_⟩
        · rintro H' ⟨mm, S2, Hx, vs, acc, rest, y1, y2, y3, y4, y5, y6, y7⟩
          exact ⟨_, by omega, mm, S2, Hx, vs, acc, rest, y1, y2, y3, y4, y5, y6, y7, hlt, rfl⟩
        · intro v H3 hy
          obtain ⟨y1, y2, y3⟩ := yl v H3 hy
          -- a state behind, as it is seen from the hold
          have back : ∀ {m4 : Lbl} {H4 : Hp} {S4 : Sto}, Ext (mm.hold p) m4 (upd Hx p (.lst vs)) H4 → RelS K m4 S4 H4 → ∃ mm4 : Lbl, m4 = mm4.hold p ∧ mm4.r = m1.r ∧ Ext (m1.hold p) (mm4.hold p) (upd H1 p (.lst [])) (upd H4 p (.lst [])) ∧ H4 p = some (.lst vs) ∧ upd H4 p (.lst vs) = H4 := by
            intro m4 H4 S4 y4 s4
            have hr4 : m4.r = p :: mm.r := y4.res
            have e4 : m4 = (⟨m4.l, mm.r⟩ : Lbl).hold p := by
              cases m4
              simp only at hr4
              subst hr4
              rfl
            have hp4 : H4 p = some (.lst vs) := by
              rw [y4.fix p List.mem_cons_self]; exact upd_same
            refine ⟨⟨m4.l, mm.r⟩, e4, hr, ?_, hp4, ?_⟩
            · rw [← e4]
              refine x2.trans ?_
              have := Ext.under (o2 := .lst []) y4
              exact this
            · funext b
              by_cases hb : b = p
              · subst hb; rw [upd_same, hp4]
              · rw [upd_ne hb]
          refine ⟨mm.hold p, wipeL L own, S2, _, L3, hl2.ext y1, y2, y3, e4, fun σ3 l3 st => ⟨?_, ?_⟩⟩
          · have := st own hsub
            rw [this]
            apply List.ext_getElem?
            intro j
            rw [wipe_get, wipe_get, L2.wipe_length]
            by_cases hj : j ∈ own <;> simp [hj]
          · refine ⟨mm.hold p, L3, S2, b, S3, l3, y2, e5, fun m4 H4 y4 s4 => ?_⟩
            have y14 := y1.trans y4
            cases b with
            | false =>
              have e3 : lcL src.ok g tt te (wipeL L own) (src.items.drop (i + 1)) S3 = some (rest, S') := by simpa using e3
              refine iteF ?_
              obtain ⟨mm4, rfl, z1, z2, z3, z4⟩ := back y14 s4
              exact ⟨mm4, S3, H4, vs, acc, rest, z2, z1, z4.symm, s4, Reps.ext y14 _ _ ra, e3, hap⟩
            | true =>
              simp only [if_true] at e3
              obtain ⟨⟨z, S5⟩, e6, e3⟩ := Option.bind_eq_some_iff.mp e3
              obtain ⟨⟨zs, S6⟩, e7, e3⟩ := Option.bind_eq_some_iff.mp e3
              cases e3
              refine iteT ⟨m4, L3, S3, z, S5, l3.ext y4, s4, e6, fun m5 H5 w y5 s5 rw' => ?_⟩
              have y15 := y14.trans y5
              obtain ⟨mm5, rfl, z1, z2, z3, z4⟩ := back y15 s5
              have ra5 := Reps.ext y15 _ _ ra
              have hlen : vs.length = acc.length := ra5.length
              have hzl : (acc ++ z :: zs).length ≤ sizeLine := by rw [hap]; exact hz
              refine ⟨vs, z3, by rw [hlen]; simp at hzl; omega, mm5, S5, H5, vs ++ [w], acc ++ [z], zs, z2, z1, rfl, s5.fill, ?_, e7, by simpa using hap⟩
              exact Reps.append (Reps.fill _ _ ra5) (Reps.cons (Rep.fill _ _ rw') Reps.nil)
      · left
        have hi : i = src.items.length := by omega
        subst hi
        rw [List.drop_length] at e3
        obtain ⟨hok, e3⟩ := chk_some e3
        cases e3
        have hap : acc = ds := by simpa using hap
        subst hap
        refine ⟨(ok _ _ _ _ frz2 hpr2 s2 hok).2 rfl, q mm _ p vs ?_ s2 ra upd_same (x1.stay p hp)⟩
        have := x1.trans (Ext.free (vs := vs) x2 hp s1)
        rw [upd_upd] at this
        have e9 : (⟨(mm.hold p).l, m1.r⟩ : Lbl) = mm := by
          cases mm
          simp only at hr
          subst hr
          rfl
        rw [e9] at this
        exact this
  · simp only [hz, if_false] at e; cases e
end DS
namespace DS
open PySem PySem.Spec PyProof.Rows L2

/-! ### comprehensions, as expressions -/
section
variable {X : Cx} {pos : Pos}
theorem de_lc {elt tg iter : Expr} {ifs : List Expr} {scope : Scope} {own : List (Str × Nat)} {it : IF} {g : GF} {is : List Nat} {tt : TF} {te : EF} (hc : X.calm = true) (hN : X.N.Nodup) (hi : PI X tg iter (tiOf X.K it)) (ok : BlkOk X.N X.env.scope scope own) (hsub : ∀ i, i ∈ is → i ∈ own.map (·.2))
    (hg : ∀ (s : Shared) (H : Hp) (C : Addr) (cl : List (Str × Addr)) (fp : List Addr), PG (X.blk s H scope (compEnvC scope cl C X.env) fp) tg (tgOf X.K is g)) (ht : ∀ (s : Shared) (H : Hp) (C : Addr) (cl : List (Str × Addr)) (fp : List Addr), PTs (X.blk s H scope (compEnvC scope cl C X.env) fp) ifs (ttOf X.K tt))
    (he : ∀ (s : Shared) (H : Hp) (C : Addr) (cl : List (Str × Addr)) (fp : List Addr), PE (X.blk s H scope (compEnvC scope cl C X.env) fp) elt (teOf X.K te)) (hs : ∀ x, foldedSetIterable iter X.env x = pure x := by intro _; rfl) :
    PE X (.ListComp elt [⟨tg, iter, ifs, 0⟩] scope pos) (teOf X.K (eFro (lcF (own.map (·.2)) it g tt te))) :=
  pe_imp (pe_lc hc hN hi ok hg ht he hs) fun _ _ _ h => tlst_fro (tlst_lc hsub) h
theorem de_lcM {elt tg iter : Expr} {ifs : List Expr} {scope : Scope} {own : List (Str × Nat)} {it : IF} {g : GF} {is : List Nat} {tt : TF} {te : EF} (hc : X.calm = true) (hN : X.N.Nodup) (hi : PI X tg iter (tiOf X.K it)) (ok : BlkOk X.N X.env.scope scope own) (hsub : ∀ i, i ∈ is → i ∈ own.map (·.2))
    (hg : ∀ (s : Shared) (H : Hp) (C : Addr) (cl : List (Str × Addr)) (fp : List Addr), PG (X.blk s H scope (compEnvC scope cl C X.env) fp) tg (tgOf X.K is g)) (ht : ∀ (s : Shared) (H : Hp) (C : Addr) (cl : List (Str × Addr)) (fp : List Addr), PTs (X.blk s H scope (compEnvC scope cl C X.env) fp) ifs (ttOf X.K tt))
    (he : ∀ (s : Shared) (H : Hp) (C : Addr) (cl : List (Str × Addr)) (fp : List Addr), PE (X.blk s H scope (compEnvC scope cl C X.env) fp) elt (teOf X.K te)) (hs : ∀ x, foldedSetIterable iter X.env x = pure x := by intro _; rfl) :
    PE X (.ListComp elt [⟨tg, iter, ifs, 0⟩] scope pos) (teOf X.K (eMut (lcF (own.map (·.2)) it g tt te))) :=
  pe_imp (pe_lc hc hN hi ok hg ht he hs) fun _ _ _ h => tlst_mut (tlst_lc hsub) h
theorem ts_set {K : PySem.W.Frag} {i : Nat} {t : TE} {f : EF} (h : ∀ σ H Q, teOf K f σ H Q → t σ H Q) {E : Ends} {σ : L2.St} {H : Hp} (q : tsOf K (sSet i f) E σ H) : tAsg t (gName i) E σ H := by
  obtain ⟨m, L, S, r, L', S', hl, hs, e, q⟩ := q
  obtain ⟨⟨z, S1⟩, e1, e⟩ := Option.bind_eq_some_iff.mp e
  cases e
  exact h _ _ _ ⟨m, L, S, z, S1, hl, hs, e1, fun m1 H1 x x1 s1 r1 => q m1 _ H1 x1 ((hl.ext x1).set i r1) s1⟩
theorem ds_setLc {i : Nat} {y : Str} {py spos : Pos} {elt tg iter : Expr} {ifs : List Expr} {scope : Scope} {own : List (Str × Nat)} {it : IF} {g : GF} {is : List Nat} {tt : TF} {te : EF} (hc : X.calm = true) (hN : X.N.Nodup) (hi : PI X tg iter (tiOf X.K it)) (ok : BlkOk X.N X.env.scope scope own) (hsub : ∀ i, i ∈ is → i ∈ own.map (·.2))
    (hg : ∀ (s : Shared) (H : Hp) (C : Addr) (cl : List (Str × Addr)) (fp : List Addr), PG (X.blk s H scope (compEnvC scope cl C X.env) fp) tg (tgOf X.K is g)) (ht : ∀ (s : Shared) (H : Hp) (C : Addr) (cl : List (Str × Addr)) (fp : List Addr), PTs (X.blk s H scope (compEnvC scope cl C X.env) fp) ifs (ttOf X.K tt))
    (he : ∀ (s : Shared) (H : Hp) (C : Addr) (cl : List (Str × Addr)) (fp : List Addr), PE (X.blk s H scope (compEnvC scope cl C X.env) fp) elt (teOf X.K te))
    (hsw : swapsWith (.ListComp elt [⟨tg, iter, ifs, 0⟩] scope pos) (some (.Name y py)) spos.line X.env = pure true) (hy : X.N[i]? = some y := by rfl) (hyl : X.env.scope.names.lookup y = some .local := by rfl) (hs : ∀ x, foldedSetIterable iter X.env x = pure x := by intro _; rfl) :
    PS X (.Assign [.Name y py] (.ListComp elt [⟨tg, iter, ifs, 0⟩] scope pos) spos) (tsOf X.K (sSet i (eFro (lcF (own.map (·.2)) it g tt te)))) :=
  ps_imp (ps_setLc hc hN hy hyl hsw hi ok hg ht he hs) fun _ _ _ h => ts_set (fun _ _ _ h => tlst_fro (tlst_lc hsub) h) h
theorem ds_setLcM {i : Nat} {y : Str} {py spos : Pos} {elt tg iter : Expr} {ifs : List Expr} {scope : Scope} {own : List (Str × Nat)} {it : IF} {g : GF} {is : List Nat} {tt : TF} {te : EF} (hc : X.calm = true) (hN : X.N.Nodup) (hi : PI X tg iter (tiOf X.K it)) (ok : BlkOk X.N X.env.scope scope own) (hsub : ∀ i, i ∈ is → i ∈ own.map (·.2))
    (hg : ∀ (s : Shared) (H : Hp) (C : Addr) (cl : List (Str × Addr)) (fp : List Addr), PG (X.blk s H scope (compEnvC scope cl C X.env) fp) tg (tgOf X.K is g)) (ht : ∀ (s : Shared) (H : Hp) (C : Addr) (cl : List (Str × Addr)) (fp : List Addr), PTs (X.blk s H scope (compEnvC scope cl C X.env) fp) ifs (ttOf X.K tt))
    (he : ∀ (s : Shared) (H : Hp) (C : Addr) (cl : List (Str × Addr)) (fp : List Addr), PE (X.blk s H scope (compEnvC scope cl C X.env) fp) elt (teOf X.K te))
    (hsw : swapsWith (.ListComp elt [⟨tg, iter, ifs, 0⟩] scope pos) (some (.Name y py)) spos.line X.env = pure true) (hy : X.N[i]? = some y := by rfl) (hyl : X.env.scope.names.lookup y = some .local := by rfl) (hs : ∀ x, foldedSetIterable iter X.env x = pure x := by intro _; rfl) :
    PS X (.Assign [.Name y py] (.ListComp elt [⟨tg, iter, ifs, 0⟩] scope pos) spos) (tsOf X.K (sSet i (eMut (lcF (own.map (·.2)) it g tt te)))) :=
  ps_imp (ps_setLc hc hN hy hyl hsw hi ok hg ht he hs) fun _ _ _ h => ts_set (fun _ _ _ h => tlst_mut (tlst_lc hsub) h) h
theorem dts_nil : PTs X [] (ttOf X.K bYes) := ⟨fun pins s σ H Q I ⟨m, L, S, b, S', hl, hs, e, q⟩ => by
  cases e
  exact pts_nil.run pins s σ H Q I (q m H (Ext.refl m H) hs)⟩
theorem dts_one {c : Expr} {t : TF} (h : PT X c (ttOf X.K t)) : PTs X [c] (ttOf X.K t) := pts_one h
end

/-! ### sequences by their data -/
/-- a list that stands in the heap by itself -/
def asL (S : Sto) : D → Option (List D)
  | .lst xs => some xs
  | .ref k => match S[k]? with | some (.lst xs) => some xs | _ => none
  | _ => none
theorem lst_at {K : PySem.W.Frag} {m : Lbl} {S : Sto} {H : Hp} {d : D} {v : V} {xs : List D} (s : RelS K m S H) (r : Rep K m H d v) (e : asL S d = some xs) : ∃ p vs, v = .ref p ∧ H p = some (.lst vs) ∧ Reps K m H xs vs := by
  cases d with
  | lst ys =>
    cases e
    unfold Rep at r
    obtain ⟨p, vs, rfl, hp, n, rr⟩ := r
    exact ⟨p, vs, rfl, hp, rr⟩
  | ref k =>
    unfold asL at e
    cases ho : S[k]? with
    | none => simp only [ho] at e; cases e
    | some o =>
      cases o with
      | lst ys =>
        simp only [ho] at e
        cases e
        obtain ⟨p, vs, e1, e2, e3⟩ := s.at_ k _ ho
        unfold Rep at r
        cases r.2 p e1
        exact ⟨p, vs, rfl, e2, e3⟩
      | _ => simp only [ho] at e; cases e
  | _ => cases e
theorem tup_at {K : PySem.W.Frag} {m : Lbl} {H : Hp} {v : V} {xs : List D} (r : Rep K m H (.tup xs) v) : ∃ p vs, v = .ref p ∧ H p = some (.tup vs) ∧ Reps K m H xs vs := by
  unfold Rep at r
  obtain ⟨p, vs, rfl, hp, n, rr⟩ := r
  exact ⟨p, vs, rfl, hp, rr⟩
theorem tud_at {K : PySem.W.Frag} {m : Lbl} {H : Hp} {v : V} {xs : List D} (r : Rep K m H (.tud xs) v) : ∃ p vs o, v = .ref p ∧ H p = some (.frz o (.tup vs)) ∧ o.dict = none ∧ SqT K H p vs ∧ Reps K m H xs vs := by
  unfold Rep at r
  obtain ⟨p, vs, o, rfl, hp, hd, n, rr⟩ := r
  exact ⟨p, vs, o, rfl, hp, hd, .inl (.inr ⟨o, hp⟩), rr⟩
/-- any sequence that is read -/
def asQ (S : Sto) (d : D) : Option (List D) := (seqD S d).map (·.items)
theorem seqQ {K : PySem.W.Frag} {m : Lbl} {S : Sto} {H : Hp} {d : D} {v : V} {xs : List D} (s : RelS K m S H) (r : Rep K m H d v) (e : asQ S d = some xs) : ∃ a vs, v = .ref a ∧ SqA K H (kdD d) a vs ∧ Reps K m H xs vs := by
  obtain ⟨src, e1, rfl⟩ := Option.map_eq_some_iff.mp e
  exact seq_at e1 r s (seqD_ok e1)
/-- seq_at: the address of the sequence read -/
theorem seqQ_or {K : PySem.W.Frag} {m : Lbl} {S : Sto} {H : Hp} {d : D} {v : V} {xs : List D} (s : RelS K m S H) (r : Rep K m H d v) (e : asQ S d = some xs) : ∃ a vs, v = .ref a ∧ (SqL K H a vs ∨ SqT K H a vs) ∧ Reps K m H xs vs := by
  obtain ⟨a, vs, rfl, h, rr⟩ := seqQ s r e
  cases hk : kdD d with
  | true => rw [hk] at h; exact ⟨a, vs, rfl, .inl h, rr⟩
  | false => rw [hk] at h; exact ⟨a, vs, rfl, .inr h, rr⟩

/-! ### + - * // % -/
def gAdd : D → D → Sto → Option (D × Sto)
  | .int i, .int j, S => some (.int (i + j), S)
  | .tup xs, .tup ys, S => if xs.length + ys.length ≤ sizeLine then some (.tup (xs ++ ys), S) else none
  | a, b, S => (asL S a).bind fun xs => (asL S b).bind fun ys => if xs.length + ys.length ≤ sizeLine then some (.lst (xs ++ ys), S) else none
section
variable {K : PySem.W.Frag}
theorem reps_nil {m : Lbl} {H : Hp} {xs : List D} {vs : List V} (r : Reps K m H xs vs) : vs = [] ↔ xs = [] := by
  have := r.length
  constructor
  · intro h; subst h; exact List.eq_nil_of_length_eq_zero this.symm
  · intro h; subst h; exact List.eq_nil_of_length_eq_zero this
def rAddD (K : PySem.W.Frag) : R2 := fun x y H Q => rI0 (fun i j => .int (i + j)) x y H Q ∨ rCatA K x y H Q ∨ rCat x y H Q
theorem op_addD {X : Cx} : OpR X (binaryOp .Add) (rAddD X.K) := op_add.or (op_catA.or op_cat)
theorem ok_add : Op2Ok K (rAddD K) gAdd := by
  intro m S H a b d x y S' Q s ra rb e q
  unfold gAdd at e
  split at e
  · cases e
    cases rep_int ra
    cases rep_int rb
    exact .inl ⟨_, _, rfl, rfl, q m H _ (Ext.refl m H) s int_rep⟩
  · rename_i xs ys
    split at e
    · rename_i hz
      cases e
      obtain ⟨p, vs, rfl, hp, r1⟩ := tup_at ra
      obtain ⟨p', vs', rfl, hp', r2⟩ := tup_at rb
      refine .inr (.inl ⟨p, p', vs, vs', rfl, rfl, SqT.of hp, SqT.of hp', by rw [r1.length, r2.length]; exact hz, fun h => ?_, fun h h' => ?_, fun h h' l hl => ?_⟩)
      · have := (reps_nil r1).mp h
        subst this
        exact q m H _ (Ext.refl m H) s rb
      · have := (reps_nil r2).mp h'
        subst this
        refine q m H _ (Ext.refl m H) s ?_
        rw [List.append_nil]; exact ra
      · obtain ⟨y1, y2, y3⟩ := tup_new s (r1.append r2) hl
        exact q m _ _ y1 y2 y3
    · cases e
  · obtain ⟨xs, e1, e⟩ := Option.bind_eq_some_iff.mp e
    obtain ⟨ys, e2, e⟩ := Option.bind_eq_some_iff.mp e
    split at e
    · rename_i hz
      cases e
      obtain ⟨p, vs, rfl, hp, r1⟩ := lst_at s ra e1
      obtain ⟨p', vs', rfl, hp', r2⟩ := lst_at s rb e2
      refine .inr (.inr ⟨p, p', vs, vs', rfl, rfl, hp, hp', by rw [r1.length, r2.length]; exact hz, fun l hl => ?_⟩)
      obtain ⟨y1, y2, y3⟩ := lst_new s (r1.append r2) hl
      exact q m _ _ y1 y2 y3
    · cases e
noncomputable def gI2 (C : Int → Int → Prop) (f : Int → Int → Int) : D → D → Sto → Option (D × Sto)
  | .int i, .int j, S => chk (C i j) (some (.int (f i j), S))
  | _, _, _ => none
theorem ok_i2 {C : Int → Int → Prop} {f : Int → Int → Int} : Op2Ok K (rI C fun i j => .int (f i j)) (gI2 C f) := by
  intro m S H a b d x y S' Q s ra rb e q
  unfold gI2 at e
  split at e
  · obtain ⟨hc, e⟩ := chk_some e
    cases e
    cases rep_int ra
    cases rep_int rb
    exact ⟨_, _, rfl, rfl, hc, q m H _ (Ext.refl m H) s int_rep⟩
  · cases e
def gSub : D → D → Sto → Option (D × Sto)
  | .int i, .int j, S => some (.int (i - j), S)
  | _, _, _ => none
theorem ok_sub : Op2Ok K (rI0 fun i j => .int (i - j)) gSub := by
  intro m S H a b d x y S' Q s ra rb e q
  unfold gSub at e
  split at e
  · cases e
    cases rep_int ra
    cases rep_int rb
    exact ⟨_, _, rfl, rfl, q m H _ (Ext.refl m H) s int_rep⟩
  · cases e
noncomputable def gFdiv : D → D → Sto → Option (D × Sto) := gI2 CDiv fun i j => i / j
noncomputable def gMod : D → D → Sto → Option (D × Sto) := gI2 (fun _ j => 0 < j) fun i j => i % j
noncomputable def gPow : D → D → Sto → Option (D × Sto) := gI2 CPow fun i j => i ^ j.toNat
/-- * of numbers, of a list or a tuple by a number -/
noncomputable def gMul : D → D → Sto → Option (D × Sto)
  | .int i, .int j, S => chk (CMul i j) (some (.int (i * j), S))
  | .tup xs, .int k, S => chk (xs ≠ [] ∧ 2 ≤ k ∧ k ≤ 1000 ∧ xs.length ≤ 1000) (some (.tup (List.replicate k.toNat xs).flatten, S))
  | a, .int k, S => (asL S a).bind fun xs => chk (-(2 ^ 63) ≤ k ∧ k < 2 ^ 63 ∧ xs.length * k.toNat ≤ sizeLine) (some (.lst (List.replicate k.toNat xs).flatten, S))
  | _, _, _ => none
def rMulD (K : PySem.W.Frag) : R2 := fun x y H Q => rI CMul (fun i j => .int (i * j)) x y H Q ∨ rRepT K x y H Q ∨ rRep x y H Q
theorem op_mulD {X : Cx} : OpR X (binaryOp .Mult) (rMulD X.K) := op_mul.or (op_repT.or op_rep)
theorem reps_rep {m : Lbl} {H : Hp} {xs : List D} {vs : List V} (r : Reps K m H xs vs) : ∀ n : Nat, Reps K m H (List.replicate n xs).flatten (List.replicate n vs).flatten
  | 0 => by simp; exact Reps.nil
  | n + 1 => by rw [List.replicate_succ, List.replicate_succ, List.flatten_cons, List.flatten_cons]; exact r.append (reps_rep r n)
theorem ok_mul : Op2Ok K (rMulD K) gMul := by
  intro m S H a b d x y S' Q s ra rb e q
  unfold gMul at e
  split at e
  · obtain ⟨hc, e⟩ := chk_some e
    cases e
    cases rep_int ra
    cases rep_int rb
    exact .inl ⟨_, _, rfl, rfl, hc, q m H _ (Ext.refl m H) s int_rep⟩
  · obtain ⟨hc, e⟩ := chk_some e
    cases e
    cases rep_int rb
    obtain ⟨p, vs, rfl, hp, r1⟩ := tup_at ra
    obtain ⟨h1, h2, h3, h4⟩ := hc
    refine .inr (.inl ⟨p, _, vs, rfl, rfl, SqT.of hp, fun h => h1 ((reps_nil r1).mp h), h2, h3, by rw [r1.length]; exact h4, fun l hl => ?_⟩)
    obtain ⟨y1, y2, y3⟩ := tup_new s (reps_rep r1 _) hl
    exact q m _ _ y1 y2 y3
  · obtain ⟨xs, e1, e⟩ := Option.bind_eq_some_iff.mp e
    obtain ⟨hc, e⟩ := chk_some e
    cases e
    cases rep_int rb
    obtain ⟨p, vs, rfl, hp, r1⟩ := lst_at s ra e1
    obtain ⟨h1, h2, h3⟩ := hc
    refine .inr (.inr ⟨p, _, vs, rfl, rfl, hp, h1, h2, by rw [r1.length]; exact h3, fun l hl => ?_⟩)
    obtain ⟨y1, y2, y3⟩ := lst_new s (reps_rep r1 _) hl
    exact q m _ _ y1 y2 y3
  · cases e
def gNeg : D → Sto → Option (D × Sto)
  | .int i, S => some (.int (-i), S)
  | _, _ => none
theorem ok_neg : Op1Ok K (rU fun i => .int (-i)) gNeg := by
  intro m S H a d x S' Q s ra e q
  unfold gNeg at e
  split at e
  · cases e
    cases rep_int ra
    exact ⟨_, rfl, q m H _ (Ext.refl m H) s int_rep⟩
  · cases e

/-! ### comparisons of numbers -/
def gC (f : Int → Int → Bool) : D → D → Sto → Option (D × Sto)
  | .int i, .int j, S => some (.bl (f i j), S)
  | _, _, _ => none
theorem ok_c {f : Int → Int → Bool} : Op2Ok K (rI0 fun i j => .bl (f i j)) (gC f) := by
  intro m S H a b d x y S' Q s ra rb e q
  unfold gC at e
  split at e
  · cases e
    cases rep_int ra
    cases rep_int rb
    exact ⟨_, _, rfl, rfl, q m H _ (Ext.refl m H) s bl_rep⟩
  · cases e
def gLt := gC fun i j => decide (i < j)
def gLe := gC fun i j => decide (i ≤ j)
def gGt := gC fun i j => decide (j < i)
def gGe := gC fun i j => decide (j ≤ i)
/-- is None, is not None -/
def isNon : D → Option Bool
  | .non => some true
  | .ref _ => none
  | _ => some false
def gIsN : D → D → Sto → Option (D × Sto)
  | a, .non, S => (isNon a).map fun b => (.bl b, S)
  | _, _, _ => none
def gNotN : D → D → Sto → Option (D × Sto)
  | a, .non, S => (isNon a).map fun b => (.bl (!b), S)
  | _, _, _ => none
theorem isNon_ok {m : Lbl} {H : Hp} {a : D} {x : V} {b : Bool} (r : Rep K m H a x) (e : isNon a = some b) : decide (x = .non) = b := by
  cases a with
  | non => cases e; cases rep_non r; rfl
  | bl _ => cases e; cases rep_bl r; rfl
  | int _ => cases e; cases rep_int r; rfl
  | str _ => cases e; cases rep_str r; rfl
  | rep _ => cases e; cases rep_rep r; rfl
  | tup _ => cases e; obtain ⟨p, vs, rfl, _⟩ := tup_at r; rfl
  | tud _ => cases e; obtain ⟨p, vs, od, rfl, _⟩ := tud_at r; rfl
  | lst _ => cases e; unfold Rep at r; obtain ⟨p, vs, rfl, _⟩ := r; rfl
  | arg _ => cases e; unfold Rep at r; obtain ⟨p, vs, rfl, _⟩ := r; rfl
  | ref _ => cases e
  | nod => cases e; unfold Rep at r; obtain ⟨p, rfl, _⟩ := r; rfl
theorem ok_isN : Op2Ok K (fun x y H Q => y = .non ∧ Q (.bl (decide (x = .non))) H) gIsN := by
  intro m S H a b d x y S' Q s ra rb e q
  unfold gIsN at e
  split at e
  · obtain ⟨c, e1, e⟩ := Option.map_eq_some_iff.mp e
    cases e
    exact ⟨rep_non rb, by rw [isNon_ok ra e1]; exact q m H _ (Ext.refl m H) s bl_rep⟩
  · cases e
theorem ok_notN : Op2Ok K (fun x y H Q => y = .non ∧ Q (.bl (!decide (x = .non))) H) gNotN := by
  intro m S H a b d x y S' Q s ra rb e q
  unfold gNotN at e
  split at e
  · obtain ⟨c, e1, e⟩ := Option.map_eq_some_iff.mp e
    cases e
    exact ⟨rep_non rb, by rw [isNon_ok ra e1]; exact q m H _ (Ext.refl m H) s bl_rep⟩
  · cases e
end
/-- a <= b <= c -/
def eChain (g g' : D → D → Sto → Option (D × Sto)) (f1 f2 f3 : EF) : EF := fun L S => (f1 L S).bind fun p => (f2 L p.2).bind fun q => (g p.1 q.1 q.2).bind fun r => match r.1 with
  | .bl true => (f3 L r.2).bind fun t => g' q.1 t.1 t.2
  | .bl false => some (.bl false, r.2)
  | _ => none
section
variable {X : Cx} {a b c : Expr} {f1 f2 f3 : EF} {pos : Pos}
theorem chain_of {K : PySem.W.Frag} {r r' : R2} {g g' : D → D → Sto → Option (D × Sto)} (ho : Op2Ok K r g) (ho' : Op2Ok K r' g') {σ : L2.St} {H : Hp} {Q : VK} (h : teOf K (eChain g g' f1 f2 f3) σ H Q) : tChain r r' (teOf K f1) (teOf K f2) (teOf K f3) σ H Q := by
  obtain ⟨m, L, S, d, S', hl, hs, e, q⟩ := h
  obtain ⟨⟨a, S1⟩, e1, e⟩ := Option.bind_eq_some_iff.mp e
  obtain ⟨⟨b, S2⟩, e2, e⟩ := Option.bind_eq_some_iff.mp e
  obtain ⟨⟨z, S3⟩, e3, e⟩ := Option.bind_eq_some_iff.mp e
  refine ⟨m, L, S, a, S1, hl, hs, e1, fun m1 H1 x x1 s1 r1 => ?_⟩
  refine ⟨m1, L, S1, b, S2, hl.ext x1, s1, e2, fun m2 H2 y x2 s2 r2 => ?_⟩
  refine ho m2 S2 H2 a b z x y S3 _ s2 (Rep.ext x2 _ _ r1) r2 e3 fun m3 H3 v x3 s3 r3 => ?_
  cases z with
  | bl k =>
    cases rep_bl r3
    refine ⟨k, rfl, ?_⟩
    cases k with
    | true =>
      obtain ⟨⟨w, S4⟩, e4, e⟩ := Option.bind_eq_some_iff.mp e
      refine iteT ⟨m3, L, S3, w, S4, ((hl.ext x1).ext x2).ext x3, s3, e4, fun m4 H4 u x4 s4 r4 => ?_⟩
      exact ho' m4 S4 H4 b w d y u S' Q s4 (Rep.ext x4 _ _ (Rep.ext x3 _ _ r2)) r4 e fun m5 H5 v x5 s5 r5 => q m5 H5 v (x1.trans (x2.trans (x3.trans (x4.trans x5)))) s5 r5
    | false =>
      cases e
      exact iteF (q m3 H3 _ (x1.trans (x2.trans x3)) s3 bl_rep)
  | _ => cases e
theorem de_chain {op op' : CmpOp} {r r' : R2} {g g' : D → D → Sto → Option (D × Sto)} (ho : OpR X (compareOp op) r) (ho' : OpR X (compareOp op') r') (hk : Op2Ok X.K r g) (hk' : Op2Ok X.K r' g') (ha : PE X a (teOf X.K f1)) (hb : PE X b (teOf X.K f2)) (hc : PE X c (teOf X.K f3))
    {t : PE X (.Compare a [op, op'] [b, c] pos) (tChain r r' (teOf X.K f1) (teOf X.K f2) (teOf X.K f3))} : PE X (.Compare a [op, op'] [b, c] pos) (teOf X.K (eChain g g' f1 f2 f3)) :=
  pe_imp t fun _ _ _ h => chain_of hk hk' h
end
end DS
namespace DS
open PySem PySem.Spec PyProof.Rows L2

/-! ### as plain data of the model: ==, in, repr -/
mutual
def toPy : D → PyData
  | .non => .none
  | .bl b => .bool b
  | .int i => .int i
  | .str s => .str s
  | .rep s => .str s
  | .tup xs => .tuple (toPys xs)
  | .tud xs => .tuple (toPys xs)
  | .lst xs => .list (toPys xs)
  | .arg xs => .list (toPys xs)
  | .ref _ => .dict []
  | .nod => .dict []
def toPys : List D → List PyData
  | [] => []
  | d :: ds => toPy d :: toPys ds
end
/-- a mutable list as it stands now -/
def res (S : Sto) : D → D
  | .ref k => match S[k]? with | some (.lst xs) => .lst xs | _ => .ref k
  | d => d
theorem SqT_of {K : PySem.W.Frag} {H : Hp} {p : Addr} {vs : List V} (h : H p = some (.tup vs)) : SqT K H p vs := SqT.of h
mutual
theorem dp_of {K : PySem.W.Frag} {m : Lbl} {H : Hp} : ∀ (d : D) (v : V), Rep K m H d v → (toPy d).canLay0 = true → Dp K H v (toPy d)
  | .non, v, r, _ => by cases rep_non r; unfold toPy; exact .non
  | .bl b, v, r, _ => by cases rep_bl r; unfold toPy; exact .bl b
  | .int b, v, r, _ => by cases rep_int r; unfold toPy; exact .int b
  | .str b, v, r, _ => by cases rep_str r; unfold toPy; exact .str b
  | .rep b, v, r, _ => by cases rep_rep r; unfold toPy; exact .str b
  | .tup xs, v, r, h => by
    obtain ⟨p, vs, rfl, hp, rr⟩ := tup_at r
    unfold toPy at h ⊢
    exact .tup (SqT.of hp) (dps_of xs vs rr (by simpa [PyData.canLay0] using h))
  | .tud xs, v, r, h => by
    obtain ⟨p, vs, od, rfl, _, _, hp, rr⟩ := tud_at r
    unfold toPy at h ⊢
    exact .tup hp (dps_of xs vs rr (by simpa [PyData.canLay0] using h))
  | .lst xs, v, r, h => by
    unfold Rep at r
    obtain ⟨p, vs, rfl, hp, _, rr⟩ := r
    unfold toPy at h ⊢
    exact .lst (SqL.of hp) (dps_of xs vs rr (by simpa [PyData.canLay0] using h))
  | .arg xs, v, r, h => by
    unfold Rep at r
    obtain ⟨p, vs, rfl, hp, rr⟩ := r
    unfold toPy at h ⊢
    exact .lst hp.sq (dps_of xs vs rr (by simpa [PyData.canLay0] using h))
  | .ref k, v, r, h => by unfold toPy at h; simp [PyData.canLay0] at h
  | .nod, v, r, h => by unfold toPy at h; simp [PyData.canLay0] at h
theorem dps_of {K : PySem.W.Frag} {m : Lbl} {H : Hp} : ∀ (ds : List D) (vs : List V), Reps K m H ds vs → PyData.canLayAll0 (toPys ds) = true → DpAll K H vs (toPys ds)
  | [], vs, r, _ => by rw [r.of_nil]; unfold toPys; exact .nil
  | d :: ds, vs, r, h => by
    obtain ⟨v, r', rfl, h1, h2⟩ := r.of_cons
    unfold toPys at h ⊢
    have h : (toPy d).canLay0 = true ∧ PyData.canLayAll0 (toPys ds) = true := by simpa [PyData.canLayAll0] using h
    exact .cons (dp_of d v h1 h.1) (dps_of ds r' h2 h.2)
end
theorem dp_res {K : PySem.W.Frag} {m : Lbl} {S : Sto} {H : Hp} {d : D} {v : V} (s : RelS K m S H) (r : Rep K m H d v) (h : (toPy (res S d)).canLay0 = true) : Dp K H v (toPy (res S d)) := by
  cases d with
  | ref k =>
    unfold res at h ⊢
    cases ho : S[k]? with
    | none => simp only [ho] at h; unfold toPy at h; simp [PyData.canLay0] at h
    | some o =>
      cases o with
      | lst xs =>
        simp only [ho] at h ⊢
        obtain ⟨p, vs, e1, e2, e3⟩ := s.at_ k _ ho
        unfold Rep at r
        cases r.2 p e1
        unfold toPy at h ⊢
        exact .lst (SqL.of e2) (dps_of xs vs e3 (by simpa [PyData.canLay0] using h))
      | _ => simp only [ho] at h; unfold toPy at h; simp [PyData.canLay0] at h
  | _ => exact dp_of _ v r h

def pyS (S : Sto) (d : D) : PyData := toPy (res S d)
def gEq : D → D → Sto → Option (D × Sto)
  | .rep x, .rep y, S => some (.bl (decide (x = y)), S)
  | a, b, S => if SeqAt.shaped (pyS S a) = true ∧ SeqAt.shaped (pyS S b) = true then some (.bl (PyData.eqv (pyS S a) (pyS S b)), S) else none
def gNe : D → D → Sto → Option (D × Sto)
  | .rep x, .rep y, S => some (.bl (!decide (x = y)), S)
  | a, b, S => if SeqAt.shaped (pyS S a) = true ∧ SeqAt.shaped (pyS S b) = true then some (.bl (!PyData.eqv (pyS S a) (pyS S b)), S) else none
section
variable {K : PySem.W.Frag}
def rEqA (K : PySem.W.Frag) : R2 := fun x y H Q => rEq x y H Q ∨ rEqD K x y H Q
def rNeA (K : PySem.W.Frag) : R2 := fun x y H Q => rNe x y H Q ∨ rNeD K x y H Q
theorem op_eqA {X : Cx} (hu : X.A.units + 64 < cLine) : OpR X (compareOp .Eq) (rEqA X.K) := op_eq.or (op_eqD hu)
theorem op_neA {X : Cx} (hu : X.A.units + 64 < cLine) : OpR X (compareOp .NotEq) (rNeA X.K) := op_ne.or (op_neD hu)
theorem dec_strV {x y : Str} : decide (V.str x = V.str y) = decide (x = y) := by
  by_cases h : x = y
  · subst h; simp
  · have : V.str x ≠ V.str y := fun e => h (by cases e; rfl)
    simp [h, this]
theorem ok_eq : Op2Ok K (rEqA K) gEq := by
  intro m S H a b d x y S' Q s ra rb e q
  unfold gEq at e
  split at e
  · cases e
    cases rep_rep ra
    cases rep_rep rb
    refine .inl ⟨rfl, ?_⟩
    rw [dec_strV]
    exact q m H _ (Ext.refl m H) s bl_rep
  · split at e
    · rename_i h
      cases e
      exact .inr ⟨_, _, dp_res s ra (SeqAt.canLay_of_shaped h.1), dp_res s rb (SeqAt.canLay_of_shaped h.2), h.1, h.2, q m H _ (Ext.refl m H) s bl_rep⟩
    · cases e
theorem ok_ne : Op2Ok K (rNeA K) gNe := by
  intro m S H a b d x y S' Q s ra rb e q
  unfold gNe at e
  split at e
  · cases e
    cases rep_rep ra
    cases rep_rep rb
    refine .inl ⟨rfl, ?_⟩
    rw [dec_strV]
    exact q m H _ (Ext.refl m H) s bl_rep
  · split at e
    · rename_i h
      cases e
      exact .inr ⟨_, _, dp_res s ra (SeqAt.canLay_of_shaped h.1), dp_res s rb (SeqAt.canLay_of_shaped h.2), h.1, h.2, q m H _ (Ext.refl m H) s bl_rep⟩
    · cases e

/-! ### keys -/
def keyD : D → Option Key
  | .int i => some (.inl i)
  | .str s => some (.inr s)
  | _ => none
def keysD : List D → Option (List Key)
  | [] => some []
  | d :: ds => (keyD d).bind fun k => (keysD ds).bind fun r => some (k :: r)
def valD {κ : Type} [DecidableEq κ] (kvs : List (κ × D)) (k : κ) : Option D := (kvs.find? fun kv => decide (kv.1 = k)).map (·.2)
def putD {κ : Type} [DecidableEq κ] (kvs : List (κ × D)) (k : κ) (v : D) : List (κ × D) :=
  if (kvs.any fun kv => decide (kv.1 = k)) = true then kvs.map fun kv => if kv.1 = k then (kv.1, v) else kv else kvs ++ [(k, v)]
theorem keyD_ok {m : Lbl} {H : Hp} {d : D} {v : V} {k : Key} (r : Rep K m H d v) (e : keyD d = some k) : v = kV k := by
  cases d with
  | int i => cases e; exact rep_int r
  | str s => cases e; exact rep_str r
  | _ => cases e
theorem keysD_ok {m : Lbl} {H : Hp} : ∀ {ds : List D} {vs : List V} {ks : List Key}, Reps K m H ds vs → keysD ds = some ks → vs = ks.map kV
  | [], vs, ks, r, e => by rw [r.of_nil]; cases e; rfl
  | d :: ds, vs, ks, r, e => by
    obtain ⟨v, r', rfl, h1, h2⟩ := r.of_cons
    obtain ⟨k, e1, e⟩ := Option.bind_eq_some_iff.mp e
    obtain ⟨k', e2, e⟩ := Option.bind_eq_some_iff.mp e
    cases e
    rw [keyD_ok h1 e1, keysD_ok h2 e2]
    rfl
theorem repK_val {κ : Type} [DecidableEq κ] {m : Lbl} {H : Hp} (k : κ) : ∀ {kvs : List (κ × D)} {vs : List (κ × V)}, RepKs K m H kvs vs →
    (valD kvs k = none → valV vs k = none) ∧ ∀ d, valD kvs k = some d → ∃ v, valV vs k = some v ∧ Rep K m H d v
  | [], vs, r => by
    have r : vs = [] := r
    subst r
    exact ⟨fun _ => rfl, fun d e => nomatch e⟩
  | p :: kvs, vs, r => by
    obtain ⟨v, r', rfl, h1, h2⟩ := r
    by_cases hk : p.1 = k
    · have e1 : valD (p :: kvs) k = some p.2 := by simp [valD, List.find?_cons, hk]
      refine ⟨fun e => (by rw [e1] at e; cases e), fun d e => ?_⟩
      rw [e1] at e; cases e
      exact ⟨v, valV_pos hk, h1⟩
    · have e1 : valD (p :: kvs) k = valD kvs k := by simp [valD, List.find?_cons, hk]
      have ih := repK_val k h2
      rw [e1]
      refine ⟨fun e => ?_, fun d e => ?_⟩
      · rw [valV_neg hk]; exact ih.1 e
      · obtain ⟨w, h3, h4⟩ := ih.2 d e
        exact ⟨w, by rw [valV_neg hk]; exact h3, h4⟩
theorem repK_any {κ : Type} [DecidableEq κ] {m : Lbl} {H : Hp} (k : κ) : ∀ {kvs : List (κ × D)} {vs : List (κ × V)}, RepKs K m H kvs vs → (kvs.any fun kv => decide (kv.1 = k)) = (vs.any fun kv => decide (kv.1 = k))
  | [], vs, r => by
    have r : vs = [] := r
    subst r; rfl
  | p :: kvs, vs, r => by
    obtain ⟨v, r', rfl, h1, h2⟩ := r
    rw [List.any_cons, List.any_cons, repK_any k h2]
theorem repK_map {κ : Type} [DecidableEq κ] {m : Lbl} {H : Hp} (k : κ) {d : D} {v : V} (hv : Rep K m H d v) : ∀ {kvs : List (κ × D)} {vs : List (κ × V)}, RepKs K m H kvs vs → RepKs K m H (kvs.map fun kv => if kv.1 = k then (kv.1, d) else kv) (vs.map fun kv => if kv.1 = k then (kv.1, v) else kv)
  | [], vs, r => by
    have r : vs = [] := r
    subst r; rfl
  | p :: kvs, vs, r => by
    obtain ⟨w, r', rfl, h1, h2⟩ := r
    have ih := repK_map k hv h2
    by_cases hk : p.1 = k
    · simp only [List.map_cons, hk, if_true]
      exact ⟨v, _, rfl, hv, ih⟩
    · simp only [List.map_cons, hk, if_false]
      exact ⟨w, _, rfl, h1, ih⟩
theorem repK_app {κ : Type} {m : Lbl} {H : Hp} {k : κ} {d : D} {v : V} (hv : Rep K m H d v) : ∀ {kvs : List (κ × D)} {vs : List (κ × V)}, RepKs K m H kvs vs → RepKs K m H (kvs ++ [(k, d)]) (vs ++ [(k, v)])
  | [], vs, r => by
    have r : vs = [] := r
    subst r
    exact ⟨v, [], rfl, hv, rfl⟩
  | p :: kvs, vs, r => by
    obtain ⟨w, r', rfl, h1, h2⟩ := r
    exact ⟨w, _, rfl, h1, repK_app hv h2⟩
theorem repK_put {κ : Type} [DecidableEq κ] {m : Lbl} {H : Hp} (k : κ) {d : D} {v : V} (hv : Rep K m H d v) {kvs : List (κ × D)} {vs : List (κ × V)} (r : RepKs K m H kvs vs) : RepKs K m H (putD kvs k d) (putK vs k v) := by
  unfold putD putK
  rw [repK_any k r]
  split
  · exact repK_map k hv r
  · exact repK_app hv r
theorem repK_len {κ : Type} {m : Lbl} {H : Hp} : ∀ {kvs : List (κ × D)} {vs : List (κ × V)}, RepKs K m H kvs vs → vs.length = kvs.length
  | [], vs, r => by
    have r : vs = [] := r
    subst r; rfl
  | p :: kvs, vs, r => by
    obtain ⟨w, r', rfl, h1, h2⟩ := r
    simp [repK_len h2]
theorem repK_keys {κ : Type} {m : Lbl} {H : Hp} : ∀ {kvs : List (κ × D)} {vs : List (κ × V)}, RepKs K m H kvs vs → vs.map (·.1) = kvs.map (·.1)
  | [], vs, r => by
    have r : vs = [] := r
    subst r; rfl
  | p :: kvs, vs, r => by
    obtain ⟨w, r', rfl, h1, h2⟩ := r
    simp [repK_keys h2]

/-- what a dict holds at a key -/
def dictGet (S : Sto) (k : Nat) (y : D) : Option (Option D) := match S[k]? with
  | some (.dic kvs) => (keyD y).map fun key => valD kvs key
  | some (.dit kvs) => match y with | .tup ys => (keysD ys).map fun key => valD kvs key | _ => none
  | some (.dil kvs) => (keyD y).map fun key => valD kvs key
  | _ => none
theorem dictGet_ok {m : Lbl} {S : Sto} {H : Hp} {k : Nat} {y : D} {x v : V} {o : Option D} (s : RelS K m S H) (rx : Rep K m H (.ref k) x) (ry : Rep K m H y v) (e : dictGet S k y = some o) :
    ∃ a w, x = .ref a ∧ DGet H a v w ∧ (o = none → w = none) ∧ ∀ d, o = some d → ∃ z, w = some z ∧ Rep K m H d z := by
  unfold dictGet at e
  unfold Rep at rx
  split at e
  · rename_i kvs ho
    obtain ⟨key, ek, e⟩ := Option.map_eq_some_iff.mp e
    obtain ⟨a, vs, e1, e2, e3⟩ := s.at_ k _ ho
    cases rx.2 a e1
    cases keyD_ok ry ek
    have q := repK_val key e3
    subst e
    exact ⟨a, valV vs key, rfl, DGet.k e2, q.1, q.2⟩
  · rename_i kvs ho
    split at e
    · rename_i ys
      obtain ⟨key, ek, e⟩ := Option.map_eq_some_iff.mp e
      obtain ⟨a, vs, e1, e2, e3⟩ := s.at_ k _ ho
      cases rx.2 a e1
      obtain ⟨p, us, rfl, hp, rr⟩ := tup_at ry
      cases keysD_ok rr ek
      have q := repK_val key e3
      subst e
      exact ⟨a, valV vs key, rfl, DGet.t e2 hp, q.1, q.2⟩
    · cases e
  · rename_i kvs ho
    obtain ⟨key, ek, e⟩ := Option.map_eq_some_iff.mp e
    obtain ⟨a, vs, e1, ⟨o2, e2⟩, e3⟩ := s.at_ k _ ho
    cases rx.2 a e1
    cases keyD_ok ry ek
    have q := repK_val key e3
    subst e
    exact ⟨a, valV vs key, rfl, .inl ⟨vs, key, .inr ⟨o2, e2⟩, rfl, rfl⟩, q.1, q.2⟩
  · cases e

/-! ### in, not in -/
def inD (neg : Bool) : D → D → Sto → Option (D × Sto)
  | a, .ref k, S => match S[k]? with
    | some (.lst xs) => if SeqAt.shaped (pyS S a) = true ∧ SeqAt.shaped (.list (toPys xs)) = true then some (.bl (neg.xor ((toPys xs).any fun z => PyData.eqv z (pyS S a))), S) else none
    | _ => (dictGet S k a).map fun o => (.bl (neg.xor o.isSome), S)
  | a, .tup xs, S => if SeqAt.shaped (pyS S a) = true ∧ SeqAt.shaped (.list (toPys xs)) = true then some (.bl (neg.xor ((toPys xs).any fun z => PyData.eqv z (pyS S a))), S) else none
  | a, .tud xs, S => if SeqAt.shaped (pyS S a) = true ∧ SeqAt.shaped (.list (toPys xs)) = true then some (.bl (neg.xor ((toPys xs).any fun z => PyData.eqv z (pyS S a))), S) else none
  | a, .lst xs, S => if SeqAt.shaped (pyS S a) = true ∧ SeqAt.shaped (.list (toPys xs)) = true then some (.bl (neg.xor ((toPys xs).any fun z => PyData.eqv z (pyS S a))), S) else none
  | _, _, _ => none
end
section
variable {X : Cx}
def rInT (K : PySem.W.Frag) (neg : Bool) : R2 := fun x y H Q => ∃ d ds, Dp K H x d ∧ Dp K H y (.tuple ds) ∧ SeqAt.shaped d = true ∧ SeqAt.shaped (.list ds) = true ∧ Q (.bl (neg.xor (ds.any fun z => PyData.eqv z d))) H
theorem op_inT (hu : X.A.units + 65 < cLine) : OpR X (compareOp .In) (rInT X.K false) := by
  intro pins s σ H x y v u Q I rx ry h
  obtain ⟨d, ds, hd, he, sd, se, q⟩ := h
  obtain ⟨as, r1⟩ := Dp.reads I d x v hd rx
  obtain ⟨bs, r2⟩ := Dp.reads I (.tuple ds) y u he ry
  have se' : PyData.canLayAll0 ds = true := SeqAt.canLay_of_shaped se
  exact SeqAt.in_tuple_reads r2 r1 se' (SeqAt.canLay_of_shaped sd) (room_in_shaped sd hu) ⟨.bl _, H, I, rfl, by simpa using q⟩
theorem op_notInT (hu : X.A.units + 65 < cLine) : OpR X (compareOp .NotIn) (rInT X.K true) := by
  intro pins s σ H x y v u Q I rx ry h
  obtain ⟨d, ds, hd, he, sd, se, q⟩ := h
  obtain ⟨as, r1⟩ := Dp.reads I d x v hd rx
  obtain ⟨bs, r2⟩ := Dp.reads I (.tuple ds) y u he ry
  have se' : PyData.canLayAll0 ds = true := SeqAt.canLay_of_shaped se
  exact SeqAt.notIn_tuple_reads r2 r1 se' (SeqAt.canLay_of_shaped sd) (room_in_shaped sd hu) ⟨.bl _, H, I, rfl, by simpa using q⟩
def rInDict (neg : Bool) : R2 := fun y x H Q => ∃ a o, x = .ref a ∧ DGet H a y o ∧ Q (.bl (neg.xor o.isSome)) H
theorem op_inDict (hu : X.A.units + 1 < cLine) : OpR X (compareOp .In) (rInDict false) := by
  intro pins s σ H y x v u Q I ry rx h
  obtain ⟨a, o, rfl, g, q⟩ := h
  cases rx
  exact d_in hu I g ry fun s3 I3 => ⟨.bl o.isSome, H, I3, rfl, by simpa using q⟩
theorem op_notInDict (hu : X.A.units + 1 < cLine) : OpR X (compareOp .NotIn) (rInDict true) := by
  intro pins s σ H y x v u Q I ry rx h
  obtain ⟨a, o, rfl, g, q⟩ := h
  cases rx
  exact d_notIn hu I g ry fun s3 I3 => ⟨.bl (!o.isSome), H, I3, rfl, by simpa using q⟩
def rInA (K : PySem.W.Frag) : R2 := fun x y H Q => rInD K x y H Q ∨ rInT K false x y H Q ∨ rInDict false x y H Q
def rNotInA (K : PySem.W.Frag) : R2 := fun x y H Q => rNotInD K x y H Q ∨ rInT K true x y H Q ∨ rInDict true x y H Q
theorem op_inA (hu : X.A.units + 65 < cLine) : OpR X (compareOp .In) (rInA X.K) := (op_inD hu).or ((op_inT hu).or (op_inDict (by omega)))
theorem op_notInA (hu : X.A.units + 65 < cLine) : OpR X (compareOp .NotIn) (rNotInA X.K) := (op_notInD hu).or ((op_notInT hu).or (op_notInDict (by omega)))
end
section
variable {K : PySem.W.Frag}
theorem shaped_list {ds : List PyData} (h : SeqAt.shaped (.list ds) = true) : PyData.canLayAll0 ds = true := SeqAt.canLay_of_shaped h
theorem ok_in : Op2Ok K (rInA K) (inD false) := by
  intro m S H a b d x y S' Q s ra rb e q
  unfold inD at e
  split at e
  · rename_i k
    split at e
    · rename_i xs ho
      split at e
      · rename_i h
        cases e
        obtain ⟨p, vs, e1, e2, e3⟩ := s.at_ k _ ho
        unfold Rep at rb
        cases rb.2 p e1
        exact .inl ⟨pyS S a, _, dp_res s ra (SeqAt.canLay_of_shaped h.1), .lst (SqL.of e2) (dps_of xs vs e3 (shaped_list h.2)), h.1, h.2, by simpa using q m H _ (Ext.refl m H) s bl_rep⟩
      · cases e
    · obtain ⟨o, e1, e⟩ := Option.map_eq_some_iff.mp e
      cases e
      obtain ⟨p, w, rfl, g, g1, g2⟩ := dictGet_ok s rb ra e1
      have hw : w.isSome = o.isSome := by
        cases o with
        | none => rw [g1 rfl]; rfl
        | some d => obtain ⟨z, hz, _⟩ := g2 d rfl; rw [hz]; rfl
      exact .inr (.inr ⟨p, w, rfl, g, by rw [hw]; exact q m H _ (Ext.refl m H) s bl_rep⟩)
  · rename_i xs
    split at e
    · rename_i h
      cases e
      obtain ⟨p, vs, rfl, hp, rr⟩ := tup_at rb
      exact .inr (.inl ⟨pyS S a, _, dp_res s ra (SeqAt.canLay_of_shaped h.1), .tup (SqT.of hp) (dps_of xs vs rr (shaped_list h.2)), h.1, h.2, q m H _ (Ext.refl m H) s bl_rep⟩)
    · cases e
  · rename_i xs
    split at e
    · rename_i h
      cases e
      obtain ⟨p, vs, od, rfl, _, _, hp, rr⟩ := tud_at rb
      exact .inr (.inl ⟨pyS S a, _, dp_res s ra (SeqAt.canLay_of_shaped h.1), .tup hp (dps_of xs vs rr (shaped_list h.2)), h.1, h.2, q m H _ (Ext.refl m H) s bl_rep⟩)
    · cases e
  · rename_i xs
    split at e
    · rename_i h
      cases e
      unfold Rep at rb
      obtain ⟨p, vs, rfl, hp, _, rr⟩ := rb
      exact .inl ⟨pyS S a, _, dp_res s ra (SeqAt.canLay_of_shaped h.1), .lst (SqL.of hp) (dps_of xs vs rr (shaped_list h.2)), h.1, h.2, by simpa using q m H _ (Ext.refl m H) s bl_rep⟩
    · cases e
  · cases e
theorem ok_notIn : Op2Ok K (rNotInA K) (inD true) := by
  intro m S H a b d x y S' Q s ra rb e q
  unfold inD at e
  split at e
  · rename_i k
    split at e
    · rename_i xs ho
      split at e
      · rename_i h
        cases e
        obtain ⟨p, vs, e1, e2, e3⟩ := s.at_ k _ ho
        unfold Rep at rb
        cases rb.2 p e1
        exact .inl ⟨pyS S a, _, dp_res s ra (SeqAt.canLay_of_shaped h.1), .lst (SqL.of e2) (dps_of xs vs e3 (shaped_list h.2)), h.1, h.2, by simpa using q m H _ (Ext.refl m H) s bl_rep⟩
      · cases e
    · obtain ⟨o, e1, e⟩ := Option.map_eq_some_iff.mp e
      cases e
      obtain ⟨p, w, rfl, g, g1, g2⟩ := dictGet_ok s rb ra e1
      have hw : w.isSome = o.isSome := by
        cases o with
        | none => rw [g1 rfl]; rfl
        | some d => obtain ⟨z, hz, _⟩ := g2 d rfl; rw [hz]; rfl
      exact .inr (.inr ⟨p, w, rfl, g, by rw [hw]; exact q m H _ (Ext.refl m H) s bl_rep⟩)
  · rename_i xs
    split at e
    · rename_i h
      cases e
      obtain ⟨p, vs, rfl, hp, rr⟩ := tup_at rb
      exact .inr (.inl ⟨pyS S a, _, dp_res s ra (SeqAt.canLay_of_shaped h.1), .tup (SqT.of hp) (dps_of xs vs rr (shaped_list h.2)), h.1, h.2, q m H _ (Ext.refl m H) s bl_rep⟩)
    · cases e
  · rename_i xs
    split at e
    · rename_i h
      cases e
      obtain ⟨p, vs, od, rfl, _, _, hp, rr⟩ := tud_at rb
      exact .inr (.inl ⟨pyS S a, _, dp_res s ra (SeqAt.canLay_of_shaped h.1), .tup hp (dps_of xs vs rr (shaped_list h.2)), h.1, h.2, q m H _ (Ext.refl m H) s bl_rep⟩)
    · cases e
  · rename_i xs
    split at e
    · rename_i h
      cases e
      unfold Rep at rb
      obtain ⟨p, vs, rfl, hp, _, rr⟩ := rb
      exact .inl ⟨pyS S a, _, dp_res s ra (SeqAt.canLay_of_shaped h.1), .lst (SqL.of hp) (dps_of xs vs rr (shaped_list h.2)), h.1, h.2, by simpa using q m H _ (Ext.refl m H) s bl_rep⟩
    · cases e
  · cases e
end

/-! ### a[i], d[k] -/
section
variable {X : Cx}
def rIxDict : R2 := fun x y H Q => ∃ a v, x = .ref a ∧ DGet H a y (some v) ∧ Q v H
theorem ix_dict (hu : X.A.units + 1 < cLine) : IxR X rIxDict := by
  intro value slice pins s σ H x y v u Q I rx ry h hs
  obtain ⟨a, w, rfl, g, q⟩ := h
  cases rx
  exact tail_any (dict_typeIs I g) PySem.F.slot_dict_getitem.lookup (d_getItem hu I g ry fun w' s3 I3 rw' => ⟨w, H, I3, rw', q⟩) hs
def rIxA (K : PySem.W.Frag) : R2 := fun x y H Q => rIxL K x y H Q ∨ rIxT K x y H Q ∨ rIxDict x y H Q
theorem ix_A (hu : X.A.units + 1 < cLine) : IxR X (rIxA X.K) := ix_list.or (ix_tup.or (ix_dict hu))
end
def gIx : D → D → Sto → Option (D × Sto)
  | .tup xs, .int i, S => (atI xs i).map fun d => (d, S)
  | .tud xs, .int i, S => (atI xs i).map fun d => (d, S)
  | .lst xs, .int i, S => (atI xs i).map fun d => (d, S)
  | .ref k, y, S => match S[k]? with
    | some (.lst xs) => match y with | .int i => (atI xs i).map fun d => (d, S) | _ => none
    | _ => (dictGet S k y).bind fun o => o.map fun d => (d, S)
  | _, _, _ => none
section
variable {K : PySem.W.Frag}
theorem atI_rep {m : Lbl} {H : Hp} {xs : List D} {vs : List V} {i : Int} {d : D} (r : Reps K m H xs vs) (e : atI xs i = some d) : ∃ v, atI vs i = some v ∧ Rep K m H d v := by
  unfold atI at e ⊢
  obtain ⟨j, e1, e2⟩ := Option.bind_eq_some_iff.mp e
  obtain ⟨v, h1, h2⟩ := r.get e2
  exact ⟨v, by rw [r.length, e1]; exact h1, h2⟩
theorem ok_ix : Op2Ok K (rIxA K) gIx := by
  intro m S H a b d x y S' Q s ra rb e q
  unfold gIx at e
  split at e
  · obtain ⟨z, e1, e⟩ := Option.map_eq_some_iff.mp e
    cases e
    cases rep_int rb
    obtain ⟨p, vs, rfl, hp, rr⟩ := tup_at ra
    obtain ⟨v, h1, h2⟩ := atI_rep rr e1
    exact .inr (.inl ⟨p, vs, _, v, rfl, rfl, SqT.of hp, h1, q m H _ (Ext.refl m H) s h2⟩)
  · obtain ⟨z, e1, e⟩ := Option.map_eq_some_iff.mp e
    cases e
    cases rep_int rb
    obtain ⟨p, vs, od, rfl, _, _, hp, rr⟩ := tud_at ra
    obtain ⟨v, h1, h2⟩ := atI_rep rr e1
    exact .inr (.inl ⟨p, vs, _, v, rfl, rfl, hp, h1, q m H _ (Ext.refl m H) s h2⟩)
  · obtain ⟨z, e1, e⟩ := Option.map_eq_some_iff.mp e
    cases e
    cases rep_int rb
    unfold Rep at ra
    obtain ⟨p, vs, rfl, hp, _, rr⟩ := ra
    obtain ⟨v, h1, h2⟩ := atI_rep rr e1
    exact .inl ⟨p, vs, _, v, rfl, rfl, SqL.of hp, h1, q m H _ (Ext.refl m H) s h2⟩
  · rename_i k
    split at e
    · rename_i xs ho
      split at e
      · obtain ⟨z, e1, e⟩ := Option.map_eq_some_iff.mp e
        cases e
        cases rep_int rb
        obtain ⟨p, vs, g1, g2, g3⟩ := s.at_ k _ ho
        unfold Rep at ra
        cases ra.2 p g1
        obtain ⟨v, h1, h2⟩ := atI_rep g3 e1
        exact .inl ⟨p, vs, _, v, rfl, rfl, SqL.of g2, h1, q m H _ (Ext.refl m H) s h2⟩
      · cases e
    · obtain ⟨o, e1, e⟩ := Option.bind_eq_some_iff.mp e
      obtain ⟨z, e2, e⟩ := Option.map_eq_some_iff.mp e
      cases e
      obtain ⟨p, w, rfl, g, g1, g2⟩ := dictGet_ok s ra rb e1
      obtain ⟨u, rfl, h2⟩ := g2 _ e2
      exact .inr (.inr ⟨p, u, rfl, g, q m H _ (Ext.refl m H) s h2⟩)
  · cases e
end

/-! ### o[i] = v -/
def gSet (o i v : D) (S : Sto) : Option Sto := match o with
  | .ref k => match S[k]? with
    | some (.lst xs) => match i with | .int j => (ixN xs.length j).map fun n => S.set k (.lst (xs.set n v)) | _ => none
    | some (.dic kvs) => (keyD i).bind fun key => if kvs.length < sizeLine then some (S.set k (.dic (putD kvs key v))) else none
    | some (.dit kvs) => match i with | .tup ys => (keysD ys).bind fun key => if kvs.length < sizeLine then some (S.set k (.dit (putD kvs key v))) else none | _ => none
    | _ => none
  | _ => none
def sPut (f o i : EF) : SF := fun L S => (f L S).bind fun p => (o L p.2).bind fun q => (i L q.2).bind fun r => (gSet q.1 r.1 p.1 r.2).bind fun S' => some (.nx, L, S')
theorem PSet_or {X : Cx} {t t' : TSet} (h : PSet X t) (h' : PSet X t') : PSet X (fun o i v H Q => t o i v H Q ∨ t' o i v H Q) := fun pins s σ H o i v ov iv u Q I ro ri rv q =>
  q.elim (fun q => h pins s σ H o i v ov iv u Q I ro ri rv q) fun q => h' pins s σ H o i v ov iv u Q I ro ri rv q
theorem gSet_ok {K : PySem.W.Frag} {m : Lbl} {S S' : Sto} {H : Hp} {o i d : D} {x y v : V} {Q : Hp → Prop} (s : RelS K m S H) (ro : Rep K m H o x) (ri : Rep K m H i y) (rd : Rep K m H d v) (e : gSet o i d S = some S') (q : ∀ H', Ext m m H H' → RelS K m S' H' → Q H') :
    rSetL x y v H Q ∨ rSetD x y v H Q := by
  unfold gSet at e
  split at e
  · rename_i k
    unfold Rep at ro
    split at e
    · rename_i xs ho
      split at e
      · obtain ⟨n, e1, e⟩ := Option.map_eq_some_iff.mp e
        cases e
        cases rep_int ri
        obtain ⟨p, vs, g1, g2, g3⟩ := s.at_ k _ ho
        cases ro.2 p g1
        refine .inl ⟨p, vs, _, n, rfl, rfl, g2, by rw [g3.length]; exact e1, q _ (Ext.put s g1 (nfz g2)) (s.put g1 (nfz g2) ⟨p, _, g1, upd_same, ?_⟩)⟩
        exact Reps.set n (Rep.ext (Ext.put s g1 (nfz g2)) _ _ rd) (Reps.ext (Ext.put s g1 (nfz g2)) _ _ g3)
      · cases e
    · rename_i kvs ho
      obtain ⟨key, e1, e⟩ := Option.bind_eq_some_iff.mp e
      split at e
      · rename_i hz
        cases e
        obtain ⟨p, vs, g1, g2, g3⟩ := s.at_ k _ ho
        cases ro.2 p g1
        cases keyD_ok ri e1
        refine .inr ⟨p, _, rfl, DPut.k g2 (by rw [repK_len g3]; exact hz), q _ (Ext.put s g1 (nfz g2)) (s.put g1 (nfz g2) ⟨p, _, g1, upd_same, ?_⟩)⟩
        exact repK_put key (Rep.ext (Ext.put s g1 (nfz g2)) _ _ rd) (RepKs.ext (Ext.put s g1 (nfz g2)) g3)
      · cases e
    · rename_i kvs ho
      split at e
      · obtain ⟨key, e1, e⟩ := Option.bind_eq_some_iff.mp e
        split at e
        · rename_i hz
          cases e
          obtain ⟨p, vs, g1, g2, g3⟩ := s.at_ k _ ho
          cases ro.2 p g1
          obtain ⟨p', us, rfl, hp, rr⟩ := tup_at ri
          cases keysD_ok rr e1
          refine .inr ⟨p, _, rfl, DPut.t g2 hp (by rw [repK_len g3]; exact hz), q _ (Ext.put s g1 (nfz g2)) (s.put g1 (nfz g2) ⟨p, _, g1, upd_same, ?_⟩)⟩
          exact repK_put key (Rep.ext (Ext.put s g1 (nfz g2)) _ _ rd) (RepKs.ext (Ext.put s g1 (nfz g2)) g3)
        · cases e
      · cases e
    · cases e
  · cases e
theorem ds_put {X : Cx} {o i e : Expr} {pos pos' : Pos} {f fo fi : EF} (hu : X.A.units + 1 < cLine) (he : PE X e (teOf X.K f)) (ho : PE X o (teOf X.K fo)) (hi : PE X i (teOf X.K fi))
    (ha : ∀ v, assign (.Subscript o i pos') X.env v = (do
      let ov ← holding [v] (eval o X.env)
      let iv ← holding [v, ov] (eval i X.env)
      standAt pos'
      holding [v, ov, iv] (setItem ov iv v)
      release [v, ov, iv] []) := by intro _; rfl) (hs : swapsWithSole [.Subscript o i pos'] e pos.line X.env = pure false := by rfl) (hw : swappedStores [.Subscript o i pos'] e X.env = pure none := by rfl) (h1 : (assignEach [.Subscript o i pos'] X.env).map (·.2) = [assign (.Subscript o i pos') X.env] := by rfl) :
    PS X (.Assign [.Subscript o i pos'] e pos) (tsOf X.K (sPut f fo fi)) :=
  ps_imp (ps_asg he (pg_sub ho hi (PSet_or set_list (set_dict hu)) ha) hs hw h1) fun E σ H ⟨m, L, S, r, L', S', hl, hs, e, q⟩ => by
    obtain ⟨⟨z, S1⟩, e1, e⟩ := Option.bind_eq_some_iff.mp e
    obtain ⟨⟨zo, S2⟩, e2, e⟩ := Option.bind_eq_some_iff.mp e
    obtain ⟨⟨zi, S3⟩, e3, e⟩ := Option.bind_eq_some_iff.mp e
    obtain ⟨S4, e4, e⟩ := Option.bind_eq_some_iff.mp e
    cases e
    refine ⟨m, L, S, z, S1, hl, hs, e1, fun m1 H1 x x1 s1 r1 => ?_⟩
    refine ⟨m1, L, S1, zo, S2, hl.ext x1, s1, e2, fun m2 H2 y x2 s2 r2 => ?_⟩
    refine ⟨m2, L, S2, zi, S3, (hl.ext x1).ext x2, s2, e3, fun m3 H3 w x3 s3 r3 => ?_⟩
    exact gSet_ok s3 (Rep.ext x3 _ _ r2) r3 (Rep.ext x3 _ _ (Rep.ext x2 _ _ r1)) e4 fun H4 x4 s4 => q m3 σ H4 (x1.trans (x2.trans (x3.trans x4))) ((((hl.ext x1).ext x2).ext x3).ext x4) s4
end DS
namespace DS
open PySem PySem.Spec PyProof.Rows L2

/-! ### a fresh list, to be frozen or not -/
def mkL (fr : Bool) (xs : List D) (S : Sto) : D × Sto := if fr = true then (.ref S.length, S ++ [.lst xs]) else (.lst xs, S)
section
variable {K : PySem.W.Frag} {m : Lbl} {H : Hp} {S : Sto}
theorem mk_new (fr : Bool) {ds : List D} {vs : List V} {p : Addr} (s : RelS K m S H) (r : Reps K m H ds vs) (hp : H p = none) :
    ∃ m', Ext m m' H (upd H p (.lst vs)) ∧ RelS K m' (mkL fr ds S).2 (upd H p (.lst vs)) ∧ Rep K m' (upd H p (.lst vs)) (mkL fr ds S).1 (.ref p) := by
  cases fr with
  | true => exact ⟨_, ref_new s r hp⟩
  | false => exact ⟨_, lst_new s r hp⟩
end

/-! ### sorted -/
section
variable {X : Cx} {pins : List (Addr × Obj)} {σ : L2.St} {H : Hp} {s : Shared}
/-- what sorted(u) draws together -/
def Col (X : Cx) (s : Shared) (u : Value) (xs : List V) : Prop := ∀ (R : List Value → Shared → Prop) (E' : Value → Shared → Prop),
  (∀ (h' : Heap) (tk : Nat) (us : List Value), (∀ b o, s.heap.get? b = some o → h'.get? b = some o) → Vals xs us → R us { s with heap := h', toks := tk }) → wpAny (model X.prog X.w) X.A.in1 (collect u) R E' s
theorem each_of (K : PySem.W.Frag) (I : Inv X pins σ H s) {m : Lbl} : ∀ {ds : List D} {vs : List V} {us : List Value}, Reps X.K m H ds vs → Vals vs us → (∀ d, d ∈ ds → (toPy d).canLay0 = true) →
    PySem.W.EachIs (fun v (b : D × V) => RelV b.2 v ∧ Rep X.K m H b.1 b.2) us (ds.zip vs) ∧ PySem.W.EachIs (fun v (b : D × V) => ∃ as, Reads s.heap v (toPy b.1) as) us (ds.zip vs)
  | [], vs, us, r, rv, _ => by
    rw [r.of_nil] at rv ⊢
    cases rv
    exact ⟨.nil, .nil⟩
  | d :: ds, vs, us, r, rv, h => by
    obtain ⟨v, r', rfl, h1, h2⟩ := r.of_cons
    cases rv with
    | cons g1 g2 =>
      obtain ⟨e1, e2⟩ := each_of K I h2 g2 fun d hd => h d (List.mem_cons_of_mem _ hd)
      exact ⟨.cons ⟨g1, h1⟩ e1, .cons (Dp.reads I _ _ _ (dp_of d v h1 (h d List.mem_cons_self)) g1) e2⟩
theorem each_back {m : Lbl} {K : PySem.W.Frag} : ∀ {us : List Value} {bs : List (D × V)}, PySem.W.EachIs (fun v (b : D × V) => RelV b.2 v ∧ Rep K m H b.1 b.2) us bs → Vals (bs.map (·.2)) us ∧ Reps K m H (bs.map (·.1)) (bs.map (·.2))
  | _, _, .nil => ⟨.nil, Reps.nil⟩
  | _, _, .cons h t => ⟨.cons h.1 (each_back t).1, Reps.cons h.2 (each_back t).2⟩
/-- what may be sorted -/
def SrtOk (xs : List D) : Prop := (∀ d, d ∈ xs → (toPy d).canLay0 = true) ∧ PySem.W.AllAlike (xs.map toPy) ∧ PySem.W.Sortable (xs.map toPy) ∧ ∀ d, d ∈ xs → (toPy d).depth ≤ 64
def sortD (rev : Bool) (xs : List D) : List D := xs.mergeSort (PySem.W.dataLe rev toPy)
theorem zip_fst : ∀ {ds : List D} {vs : List V}, vs.length = ds.length → (ds.zip vs).map (·.1) = ds
  | [], [], _ => rfl
  | d :: ds, v :: vs, h => by
    rw [List.zip_cons_cons, List.map_cons, zip_fst (by simpa using h)]
  | [], _ :: _, h => by simp at h
  | _ :: _, [], h => by simp at h
theorem sorted_col2 {m : Lbl} {u : Value} {ds : List D} {vs : List V} {Q : VK} (I : Inv X pins σ H s) (hc : Col X s u vs) (r : Reps X.K m H ds vs) (ok : SrtOk ds) (hz : ds.length ≤ sizeLine) (hu : X.A.units + 66 < cLine)
    (q : ∀ p ws, H p = none → Reps X.K m H (sortD false ds) ws → Q (.ref p) (upd H p (.lst ws))) : wpAny (model X.prog X.w) X.A (call (.builtin "sorted") [u]) (EP X pins σ Q) X.xe s := by
  refine Calls.call_function_entry kind_sorted plain_sorted entry_sorted (args_sorted1 _) ?_
  unfold Builtin.«sorted»
  refine wpAny_bind (m := checkCount "sorted" 1 1 _) (wpAny_pure ?_)
  refine wpAny_bind (hc _ _ fun h' tk us hk rv => ?_)
  have I1 : Inv X pins σ H { s with heap := h', toks := tk } := I.kept hk
  have hL : us.length ≤ sizeLine := by rw [← rv.length, r.length]; exact hz
  refine wpAny_bind (wpAny_newList ?_ hL)
  have hat : (h'.push (seqObj "list" us.toArray 0)).get? h'.objs.size = some (seqObj "list" us.toArray 0) := Heap.get?_push_size _ rfl
  refine wpAny_bind (wpAny_holding (wpAny_call_entry slot_list_sort ⟨_, hat, rfl⟩ entry_list_sort ?_ (args_list_sort _)))
  have keepS : ∀ b o, h'.get? b = some o → (PySem.W.sortingHeap (h'.push (seqObj "list" us.toArray 0)) h'.objs.size us).get? b = some o := fun b o e =>
    PySem.W.sortingHeap_old (Nat.ne_of_lt (Heap.lt_size e)) (Heap.get?_push_of_some _ e)
  obtain ⟨e1, e2⟩ := each_of X.K I1 r rv ok.1
  have e2' : PySem.W.EachIs (fun v (b : D × V) => ∃ as, Reads (PySem.W.sortingHeap (h'.push (seqObj "list" us.toArray 0)) h'.objs.size us) v (toPy b.1) as) us (ds.zip vs) := e2.mono fun _ _ ⟨as, r⟩ => ⟨as, PyProof.Rows.Reads.keeps keepS r⟩
  have em : (ds.zip vs).map (fun b => toPy b.1) = ds.map toPy := by
    have hm : (ds.zip vs).map (fun b => toPy b.1) = ((ds.zip vs).map (·.1)).map toPy := by rw [List.map_map]; rfl
    rw [hm, zip_fst r.length]
  have hal : PySem.W.AllAlike ((ds.zip vs).map fun b => toPy b.1) := by rw [em]; exact ok.2.1
  have hsk : PySem.W.Sortable ((ds.zip vs).map fun b => toPy b.1) := by rw [em]; exact ok.2.2.1
  have hdp : ∀ d, d ∈ (ds.zip vs).map (fun b => toPy b.1) → X.A.units + 2 + d.depth < cLine := fun d hd => by
    rw [em] at hd
    obtain ⟨b, hb, rfl⟩ := List.mem_map.mp hd
    have := ok.2.2.2 b hb
    omega
  refine PySem.W.list_sort_vals (s := { s with heap := h'.push (seqObj "list" us.toArray 0), toks := tk }) (κ := PySem.W.dataKind (PySem.W.sortingHeap (h'.push (seqObj "list" us.toArray 0)) h'.objs.size us) ((ds.zip vs).map fun b => toPy b.1)) hat
    (PySem.W.SortsAt.data (s := { s with heap := PySem.W.sortingHeap (h'.push (seqObj "list" us.toArray 0)) h'.objs.size us, toks := tk }) (PySem.W.each_map (R := fun v d => ∃ as, Reads (PySem.W.sortingHeap (h'.push (seqObj "list" us.toArray 0)) h'.objs.size us) v d as) (fun b : D × V => toPy b.1) e2') hal hsk hdp) hL ⟨.none, rfl, ?_⟩
  refine wpAny_pure ⟨_, rfl, ?_⟩
  have es := PySem.W.sortVals_data (enc := fun b : D × V => toPy b.1) false e1 e2' hal
  obtain ⟨g1, g2⟩ := each_back es
  obtain ⟨ep, he'⟩ := PyProof.Rows.sortedHeap_at (vs := us) (out := (PySem.W.sortVals (PySem.W.dataKind (PySem.W.sortingHeap (h'.push (seqObj "list" us.toArray 0)) h'.objs.size us) ((ds.zip vs).map fun b => toPy b.1)) false us us).toArray) hat
  have hs : ((ds.zip vs).mergeSort (PySem.W.dataLe false fun b => toPy b.1)).map (·.1) = sortD false ds := by
    unfold sortD
    have hm := List.map_mergeSort (r := PySem.W.dataLe false fun b : D × V => toPy b.1) (s := PySem.W.dataLe false toPy) (f := fun b : D × V => b.1) (l := ds.zip vs) (fun a _ b _ => rfl)
    rw [zip_fst r.length] at hm
    exact hm
  rw [hs] at g2
  have hlen : (((ds.zip vs).mergeSort (PySem.W.dataLe false fun b => toPy b.1)).map (·.2)).length ≤ sizeLine := by
    rw [List.length_map, (List.mergeSort_perm _ _).length_eq, List.length_zip]
    exact Nat.le_trans (Nat.min_le_left _ _) hz
  refine ⟨.ref h'.objs.size, upd H h'.objs.size (.lst (((ds.zip vs).mergeSort (PySem.W.dataLe false fun b => toPy b.1)).map (·.2))), ?_, rfl, q _ _ (I1.hok.fresh (Nat.le_refl _)) g2⟩
  refine I1.laid (t' := tk) (fun b o e => (PyProof.Rows.sortedHeap_old (Nat.ne_of_lt (Heap.lt_size e)) (by
    exact Heap.lt_size (Heap.get?_push_of_some (seqObj "list" us.toArray 0) e))).trans (Heap.get?_push_of_some _ e)) (Nat.le_refl _) ⟨hlen, _, ep, g1, he'⟩
/-- one item at most: nothing is compared -/
theorem sorted_col1 {m : Lbl} {u : Value} {ds : List D} {vs : List V} {Q : VK} (I : Inv X pins σ H s) (hc : Col X s u vs) (r : Reps X.K m H ds vs) (h1 : ds.length ≤ 1) (hz : ds.length ≤ sizeLine)
    (q : ∀ p ws, H p = none → Reps X.K m H (sortD false ds) ws → Q (.ref p) (upd H p (.lst ws))) : wpAny (model X.prog X.w) X.A (call (.builtin "sorted") [u]) (EP X pins σ Q) X.xe s := by
  refine Calls.call_function_entry kind_sorted plain_sorted entry_sorted (args_sorted1 _) ?_
  unfold Builtin.«sorted»
  refine wpAny_bind (m := checkCount "sorted" 1 1 _) (wpAny_pure ?_)
  refine wpAny_bind (hc _ _ fun h' tk us hk rv => ?_)
  have I1 : Inv X pins σ H { s with heap := h', toks := tk } := I.kept hk
  have hL : us.length ≤ sizeLine := by rw [← rv.length, r.length]; exact hz
  have hus : us.length ≤ 1 := by rw [← rv.length, r.length]; exact h1
  refine wpAny_bind (wpAny_newList ?_ hL)
  have hat : (h'.push (seqObj "list" us.toArray 0)).get? h'.objs.size = some (seqObj "list" us.toArray 0) := Heap.get?_push_size _ rfl
  refine wpAny_bind (wpAny_holding (wpAny_call_entry slot_list_sort ⟨_, hat, rfl⟩ entry_list_sort ?_ (args_list_sort _)))
  refine Srt.list_sort_any (s := { s with heap := h'.push (seqObj "list" us.toArray 0), toks := tk }) hat hL (fun h2 => absurd h2 (by omega)) fun out hp => ⟨.none, rfl, ?_⟩
  have ho : out = us := by
    have hl := hp.length_eq
    match us, out, hl, hp with
    | [], [], _, _ => rfl
    | [a], [b], _, hp => exact List.perm_singleton.mp hp
    | [], _ :: _, hl, _ => simp at hl
    | [_], [], hl, _ => simp at hl
    | [_], _ :: _ :: _, hl, _ => simp at hl
    | _ :: _ :: _, _, _, _ => simp at hus
  subst ho
  refine wpAny_pure ⟨_, rfl, ?_⟩
  obtain ⟨ep, he'⟩ := PyProof.Rows.sortedHeap_at (vs := out) (out := out.toArray) hat
  have hsd : sortD false ds = ds := by
    unfold sortD
    match ds, h1 with
    | [], _ => simp
    | [_], _ => simp
    | _ :: _ :: _, h => simp at h
  refine ⟨.ref h'.objs.size, upd H h'.objs.size (.lst vs), ?_, rfl, q _ _ (I1.hok.fresh (Nat.le_refl _)) (by rw [hsd]; exact r)⟩
  refine I1.laid (t' := tk) (fun b o e => (PyProof.Rows.sortedHeap_old (Nat.ne_of_lt (Heap.lt_size e)) (by
    exact Heap.lt_size (Heap.get?_push_of_some (seqObj "list" out.toArray 0) e))).trans (Heap.get?_push_of_some _ e)) (Nat.le_refl _) ⟨by rw [r.length]; exact hz, _, ep, rv, he'⟩
def SrtAny (xs : List D) : Prop := SrtOk xs ∨ xs.length ≤ 1
theorem sorted_col {m : Lbl} {u : Value} {ds : List D} {vs : List V} {Q : VK} (I : Inv X pins σ H s) (hc : Col X s u vs) (r : Reps X.K m H ds vs) (ok : SrtAny ds) (hz : ds.length ≤ sizeLine) (hu : X.A.units + 66 < cLine)
    (q : ∀ p ws, H p = none → Reps X.K m H (sortD false ds) ws → Q (.ref p) (upd H p (.lst ws))) : wpAny (model X.prog X.w) X.A (call (.builtin "sorted") [u]) (EP X pins σ Q) X.xe s :=
  ok.elim (fun ok => sorted_col2 I hc r ok hz hu q) fun h1 => sorted_col1 I hc r h1 hz q
end
end DS
namespace DS
open PySem PySem.Spec PyProof.Rows L2

def kD : Key → D
  | .inl i => .int i
  | .inr s => .str s
section
variable {K : PySem.W.Frag} {m : Lbl} {H : Hp} {S : Sto}
theorem rep_kD : ∀ k : Key, Rep K m H (kD k) (kV k)
  | .inl i => by unfold kD Rep; rfl
  | .inr i => by unfold kD Rep; rfl
theorem keys_reps : ∀ ks : List Key, Reps K m H (ks.map kD) (ks.map kV)
  | [] => Reps.nil
  | k :: ks => Reps.cons (rep_kD k) (keys_reps ks)
theorem tup_noLbl (s : RelS K m S H) {b : Addr} {vs : List V} (h : H b = some (.tup vs)) : NoLbl m b := by
  refine ⟨fun k e => ?_, fun hm => ?_⟩
  · have hk : k < S.length := by
      rw [← s.len]
      exact (List.getElem?_eq_some_iff.mp e).1
    have q := s.at_ k S[k] (List.getElem?_eq_getElem hk)
    cases ho : S[k] with
    | dead => rw [ho] at q; unfold ObAt at q; rw [q] at e; cases e
    | lst xs => rw [ho] at q; obtain ⟨c, vs, e1, e2, _⟩ := q; rw [e1] at e; cases e; rw [h] at e2; cases e2
    | dic xs => rw [ho] at q; obtain ⟨c, vs, e1, e2, _⟩ := q; rw [e1] at e; cases e; rw [h] at e2; cases e2
    | dit xs => rw [ho] at q; obtain ⟨c, vs, e1, e2, _⟩ := q; rw [e1] at e; cases e; rw [h] at e2; cases e2
    | dil xs => rw [ho] at q; obtain ⟨c, vs, e1, ⟨o, e2⟩, _⟩ := q; rw [e1] at e; cases e; rw [h] at e2; cases e2
  · obtain ⟨⟨o, e, nt⟩, _⟩ := s.rsv b hm
    rw [h] at e; cases e
    exact nt vs rfl
theorem dt_reps (s : RelS K m S H) : ∀ {kvs : List (List Key × V)} {bs : List Addr}, IsKeys H kvs bs → Reps K m H (kvs.map fun kv => D.tup (kv.1.map kD)) (bs.map V.ref)
  | _, _, .nil => Reps.nil
  | _, _, .cons h t => Reps.cons (by unfold Rep; exact ⟨_, _, rfl, h, tup_noLbl s h, keys_reps _⟩) (dt_reps s t)
end

/-- as a collection: the items of a list, a tuple; the keys of a dict -/
def itemsD (S : Sto) : D → Option (List D)
  | .ref k => match S[k]? with
    | some (.lst xs) => some xs
    | some (.dic kvs) => some ((kvs.map (·.1)).map kD)
    | some (.dit kvs) => some ((kvs.map (·.1)).map fun ks => .tup (ks.map kD))
    | _ => none
  | .tup xs => some xs
  | .tud xs => some xs
  | .lst xs => some xs
  | .arg xs => some xs
  | _ => none
/-- the three kinds of collection, as they stand -/
theorem items_at {K : PySem.W.Frag} {m : Lbl} {S : Sto} {H : Hp} {d : D} {v : V} {xs : List D} (s : RelS K m S H) (r : Rep K m H d v) (e : itemsD S d = some xs) :
    (∃ a vs, v = .ref a ∧ (SqL K H a vs ∨ SqT K H a vs) ∧ Reps K m H xs vs) ∨ (∃ a kvs, v = .ref a ∧ H a = some (.dK kvs) ∧ xs = (kvs.map (·.1)).map kD) ∨
    (∃ a kvs, v = .ref a ∧ H a = some (.dT kvs) ∧ xs = kvs.map fun kv => .tup (kv.1.map kD)) := by
  cases d with
  | tup ys => cases e; exact .inl (seqQ_or s r (by unfold asQ seqD; rfl))
  | tud ys => cases e; exact .inl (seqQ_or s r (by unfold asQ seqD; rfl))
  | lst ys => cases e; exact .inl (seqQ_or s r (by unfold asQ seqD; rfl))
  | arg ys => cases e; exact .inl (seqQ_or s r (by unfold asQ seqD; rfl))
  | ref k =>
    unfold itemsD at e
    cases ho : S[k]? with
    | none => simp only [ho] at e; cases e
    | some o =>
      cases o with
      | dead => simp only [ho] at e; cases e
      | dil ys => simp only [ho] at e; cases e
      | lst ys =>
        simp only [ho] at e
        cases e
        exact .inl (seqQ_or s r (by unfold asQ seqD; simp only [ho]; rfl))
      | dic ys =>
        simp only [ho] at e
        cases e
        obtain ⟨p, vs, e1, e2, e3⟩ := s.at_ k _ ho
        unfold Rep at r
        cases r.2 p e1
        exact .inr (.inl ⟨p, vs, rfl, e2, by rw [repK_keys e3]⟩)
      | dit ys =>
        simp only [ho] at e
        cases e
        obtain ⟨p, vs, e1, e2, e3⟩ := s.at_ k _ ho
        unfold Rep at r
        cases r.2 p e1
        refine .inr (.inr ⟨p, vs, rfl, e2, ?_⟩)
        rw [← repK_keys e3, List.map_map]
        rfl
  | _ => cases e

/-! ### len, list, tuple, sorted -/
def gLen : List D → Sto → Option (D × Sto)
  | [d], S => (itemsD S d).map fun xs => (.int xs.length, S)
  | _, _ => none
def gList (fr : Bool) : List D → Sto → Option (D × Sto)
  | [d], S => (itemsD S d).map fun xs => mkL fr xs S
  | _, _ => none
def isTud : D → Bool
  | .tud _ => true
  | _ => false
def gTuple : List D → Sto → Option (D × Sto)
  | [d], S => if isTud d = true then some (d, S) else (asQ S d).map fun xs => (.tup xs, S)
  | _, _ => none
noncomputable def gSorted (fr : Bool) : List D → Sto → Option (D × Sto)
  | [d], S => (itemsD S d).bind fun xs => chk (SrtAny xs ∧ xs.length ≤ sizeLine) (some (mkL fr (sortD false xs) S))
  | _, _ => none
section
variable {X : Cx}
def rLenA (K : PySem.W.Frag) : List V → Hp → VK → Prop := fun xs H Q => (∃ p ys, xs = [.ref p] ∧ (SqL K H p ys ∨ SqT K H p ys) ∧ Q (.int ys.length) H) ∨ (∃ a kvs, xs = [V.ref a] ∧ H a = some (.dK kvs) ∧ Q (.int kvs.length) H) ∨ rLenT xs H Q
theorem call_lenA : CallR X (.builtin "len") (rLenA X.K) := call_len_seq.or (call_lenD.or call_len_dT)
theorem len_ok {K : PySem.W.Frag} : CallOk K (rLenA K) gLen := by
  intro m S H ds d xs S' Q s r e q
  match ds, e with
  | [a], e =>
    obtain ⟨x, rfl, rx⟩ := one_of r
    obtain ⟨ys, e1, e⟩ := Option.map_eq_some_iff.mp e
    cases e
    rcases items_at s rx e1 with ⟨p, vs, rfl, h, rr⟩ | ⟨p, kvs, rfl, h, rfl⟩ | ⟨p, kvs, rfl, h, rfl⟩
    · exact .inl ⟨p, vs, rfl, h, by rw [rr.length]; exact q m H _ (Ext.refl m H) s int_rep⟩
    · refine .inr (.inl ⟨p, kvs, rfl, h, ?_⟩)
      have := q m H _ (Ext.refl m H) s int_rep
      simpa using this
    · refine .inr (.inr ⟨p, kvs, rfl, h, ?_⟩)
      have := q m H _ (Ext.refl m H) s int_rep
      rw [List.length_map] at this
      exact this
  | [], e => cases e
  | _ :: _ :: _, e => cases e
def rListA (K : PySem.W.Frag) : List V → Hp → VK → Prop := fun xs H Q => (∃ p ys, xs = [.ref p] ∧ (SqL K H p ys ∨ SqT K H p ys) ∧ ∀ l, H l = none → Q (.ref l) (upd H l (.lst ys))) ∨ rListD xs H Q ∨
  (∃ d kvs, xs = [V.ref d] ∧ Rd H d (.dT kvs) ∧ ∀ p bs, H p = none → IsKeys H kvs bs → Q (.ref p) (upd H p (.lst (bs.map V.ref))))
theorem call_listA (hc : X.calm = true) : CallR X (.type "list") (rListA X.K) := call_list_of.or ((call_list_dK hc).or (call_list_dT hc))
theorem list_ok {K : PySem.W.Frag} (fr : Bool) : CallOk K (rListA K) (gList fr) := by
  intro m S H ds d xs S' Q s r e q
  match ds, e with
  | [a], e =>
    obtain ⟨x, rfl, rx⟩ := one_of r
    obtain ⟨ys, e1, e⟩ := Option.map_eq_some_iff.mp e
    have new : ∀ (l : Addr) (vs : List V), H l = none → Reps K m H ys vs → Q (.ref l) (upd H l (.lst vs)) := fun l vs hl rr => by
      obtain ⟨m', y1, y2, y3⟩ := mk_new fr s rr hl
      rw [e] at y2 y3
      exact q m' _ _ y1 y2 y3
    rcases items_at s rx e1 with ⟨p, vs, rfl, h, rr⟩ | ⟨p, kvs, rfl, h, rfl⟩ | ⟨p, kvs, rfl, h, rfl⟩
    · exact .inl ⟨p, vs, rfl, h, fun l hl => new l vs hl rr⟩
    · refine .inr (.inl ⟨p, kvs, rfl, h, fun l hl => ?_⟩)
      have := new l ((kvs.map (·.1)).map kV) hl (keys_reps _)
      rw [List.map_map] at this
      exact this
    · exact .inr (.inr ⟨p, kvs, rfl, Rd.of h, fun l bs hl ik => new l _ hl (dt_reps s ik)⟩)
  | [], e => cases e
  | _ :: _ :: _, e => cases e
def rTupA (K : PySem.W.Frag) : List V → Hp → VK → Prop := fun xs H Q => ∃ p ys, xs = [.ref p] ∧ ((SqL K H p ys ∧ ∀ l, H l = none → Q (.ref l) (upd H l (.tup ys))) ∨ (SqT K H p ys ∧ Q (.ref p) H))
theorem tup_ok {K : PySem.W.Frag} : CallOk K (rTupA K) gTuple := by
  intro m S H ds d xs S' Q s r e q
  match ds, e with
  | [a], e =>
    obtain ⟨x, rfl, rx⟩ := one_of r
    have e : (if isTud a = true then some (a, S) else (asQ S a).map fun xs => (D.tup xs, S)) = some (d, S') := e
    by_cases ht : isTud a = true
    · rw [if_pos ht] at e
      obtain ⟨rfl, rfl⟩ := Prod.mk.inj (Option.some.inj e)
      cases a with
      | tud zs =>
        obtain ⟨p, vs, od, rfl, _, _, hp, rr⟩ := tud_at rx
        exact ⟨p, vs, rfl, .inr ⟨hp, q m H _ (Ext.refl m H) s rx⟩⟩
      | _ => cases ht
    · rw [if_neg ht] at e
      obtain ⟨ys, e1, e⟩ := Option.map_eq_some_iff.mp e
      cases e
      cases a with
      | tud zs => exact absurd rfl ht
      | tup zs =>
        have : ys = zs := by unfold asQ seqD at e1; cases e1; rfl
        subst this
        obtain ⟨p, vs, rfl, hp, rr⟩ := tup_at rx
        exact ⟨p, vs, rfl, .inr ⟨SqT.of hp, q m H _ (Ext.refl m H) s rx⟩⟩
      | _ =>
        obtain ⟨p, vs, rfl, h, rr⟩ := seqQ s rx e1
        refine ⟨p, vs, rfl, .inl ⟨h, fun l hl => ?_⟩⟩
        obtain ⟨y1, y2, y3⟩ := tup_new s rr hl
        exact q m _ _ y1 y2 y3
  | [], e => cases e
  | _ :: _ :: _, e => cases e
/-- sorted -/
def rSrt (K : PySem.W.Frag) (fr : Bool) : List V → Hp → VK → Prop := fun xs H Q => ∃ (m : Lbl) (S : Sto) (a : D) (x : V) (ys : List D), xs = [x] ∧ RelS K m S H ∧ Rep K m H a x ∧ itemsD S a = some ys ∧ SrtAny ys ∧ ys.length ≤ sizeLine ∧
  ∀ p ws, H p = none → Reps K m H (sortD false ys) ws → Q (.ref p) (upd H p (.lst ws))
theorem vals_keys {kvs : List (Key × V)} {vs : List (Key × Value)} {us : List Value} (rk : KV kvs vs) (hl : us.length = vs.length) (h : ∀ (j : Nat) (w : Value), us[j]? = some w → ∃ k y, vs[j]? = some (k, y) ∧ keyIs k w = true) : Vals ((kvs.map (·.1)).map kV) us := by
  have hl2 : kvs.length = vs.length := Paired.length rk
  refine vals_of_at (by rw [List.length_map, List.length_map, hl, hl2]) fun j x w h1 h2 => ?_
  obtain ⟨k, y, hky, hi⟩ := h j w h2
  have e1 : (kvs.map (·.1))[j]? = some k := by
    rw [KV.keys rk, List.getElem?_map, hky] <;> rfl
  rw [List.getElem?_map, e1] at h1
  cases h1
  exact keyIs_rel hi
theorem call_srt (hc : X.calm = true) (hu : X.A.units + 66 < cLine) (fr : Bool) : CallR X (.builtin "sorted") (rSrt X.K fr) := by
  intro pins s σ H xs us Q I rv h
  obtain ⟨m, S, a, x, ys, rfl, hs, ra, e, ok, hz, q⟩ := h
  obtain ⟨u, rfl, rx⟩ := vals1 rv
  rcases items_at hs ra e with ⟨p, vs, rfl, h, rr⟩ | ⟨p, kvs, rfl, h, rfl⟩ | ⟨p, kvs, rfl, h, rfl⟩
  · obtain rfl : u = Value.ref p := rx
    refine sorted_col I (fun R E' hR => ?_) rr ok hz hu q
    rcases h with h | h
    · obtain ⟨its, r, ht, hz⟩ := I.list h
      obtain ⟨o, n, e1, e2, e3, e4⟩ := ht
      exact wpAny_collect_seq p (.inl rfl) e1 e2 e4 (fun h' hk => hR h' s.toks its hk r) (by rw [List.size_toArray, ← r.length]; exact hz)
    · obtain ⟨its, r, ht, hz⟩ := I.tuple h
      obtain ⟨o, e1, e2, n, e3⟩ := ht
      exact wpAny_collect_seq p (.inr rfl) e1 e2 e3 (fun h' hk => hR h' s.toks its hk r) (by rw [List.size_toArray, ← r.length]; exact hz)
  · obtain rfl : u = Value.ref p := rx
    refine sorted_col I (vs := (kvs.map (·.1)).map kV) (fun R E' hR => ?_) (keys_reps _) ok hz hu q
    obtain ⟨z, lo, vs, rk, hd⟩ := (show ObjOk X.prog X.w H s.heap p (.dK kvs) from I.hok p _ h)
    obtain ⟨ep, hat⟩ := hd.dictAt
    have hl : kvs.length = vs.length := Paired.length rk
    refine PySem.W.kdu_collect (PySem.W.kdl_dict (knd := mixKind X.prog X.w) (kvs := vs) (ep := ep) lo) (I.ok.hd hc) hat (by rw [← hl]; exact z) fun h' tk acc hk hacc => ?_
    refine hR h' tk _ hk (vals_keys rk (by rw [Array.length_toList, hacc.1]) fun j w hj => ?_)
    exact hacc.2 j w (by rw [← Array.getElem?_toList]; exact hj)
  · obtain rfl : u = Value.ref p := rx
    obtain ⟨z, hs0, ks, pr, o, es, ep, ho, hx, hdt, he, hn⟩ := (show ObjOk X.prog X.w H s.heap p (.dT kvs) from I.hok p _ h)
    have l1 : es.size = ks.length := size_of_entries he
    have l2 : kvs.length = ks.length := Paired.length pr
    refine sorted_col I (vs := (ks.map fun x => x.2.1).map V.ref) (fun R E' hR => ?_) (dt_reps hs (isKeys_of pr)) ok hz hu q
    refine PySem.W.kdu_collect (kdl_raw hs0 hx hdt) (I.ok.hd hc) ho (by omega) fun h' tk acc' kp it => ?_
    have ea : acc'.toList = ks.map fun x => Value.ref x.2.1 := by
      have hl : acc'.toList.length = ks.length := by rw [Array.length_toList, it.1]; exact l1
      apply List.ext_getElem?
      intro j
      rw [List.getElem?_map]
      cases hj : acc'.toList[j]? with
      | none =>
        have h1 := List.getElem?_eq_none_iff.mp hj
        rw [List.getElem?_eq_none (by omega)]
        all_goals rfl
      | some v =>
        obtain ⟨en, hen, hv⟩ := it.2 j v (by rw [← Array.getElem?_toList]; exact hj)
        have qe := entry_at he j
        rw [hen] at qe
        cases hb : ks[j]? with
        | none =>
          rw [hb] at qe
          exact nomatch (show some en = none from qe)
        | some b =>
          rw [hb] at qe
          have e2 : en = entryOfKey (tupleKind (mixKind X.prog X.w)) b := Option.some.inj qe
          rw [hv, e2]
          all_goals rfl
    have eb : acc'.toList = (ks.map fun x => x.2.1).map Value.ref := by rw [ea, List.map_map]; all_goals rfl
    exact hR h' tk _ kp (by rw [eb]; exact vals_refs _)
theorem srt_ok {K : PySem.W.Frag} (fr : Bool) : CallOk K (rSrt K fr) (gSorted fr) := by
  intro m S H ds d xs S' Q s r e q
  match ds, e with
  | [a], e =>
    obtain ⟨x, rfl, rx⟩ := one_of r
    obtain ⟨ys, e1, e⟩ := Option.bind_eq_some_iff.mp e
    obtain ⟨⟨ok, hz⟩, e⟩ := chk_some e
    refine ⟨m, S, a, x, ys, rfl, s, rx, e1, ok, hz, fun p ws hp rr => ?_⟩
    obtain ⟨m', y1, y2, y3⟩ := mk_new fr s rr hp
    rw [Option.some.inj e] at y2 y3
    exact q m' _ _ y1 y2 y3
  | [], e => cases e
  | _ :: _ :: _, e => cases e
end
end DS
namespace DS
open PySem PySem.Spec PyProof.Rows L2

/-! ### bools, ints -/
def boolsD : List D → Option (List Bool)
  | [] => some []
  | .bl b :: ds => (boolsD ds).map (b :: ·)
  | _ :: _ => none
def intsD : List D → Option (List Int)
  | [] => some []
  | .int b :: ds => (intsD ds).map (b :: ·)
  | _ :: _ => none
/-- a list (not a tuple) that is read -/
def asK (S : Sto) (d : D) : Option (List D) := if kdD d = true then asQ S d else none
section
variable {K : PySem.W.Frag} {m : Lbl} {H : Hp} {S : Sto}
theorem bools_ok : ∀ {ds : List D} {vs : List V} {bs : List Bool}, Reps K m H ds vs → boolsD ds = some bs → vs = bs.map V.bl
  | [], vs, bs, r, e => by rw [r.of_nil]; cases e; rfl
  | d :: ds, vs, bs, r, e => by
    obtain ⟨v, r', rfl, h1, h2⟩ := r.of_cons
    cases d with
    | bl b =>
      obtain ⟨cs, e1, e⟩ := Option.map_eq_some_iff.mp e
      cases e
      rw [rep_bl h1, bools_ok h2 e1]
      rfl
    | _ => cases e
theorem ints_ok : ∀ {ds : List D} {vs : List V} {bs : List Int}, Reps K m H ds vs → intsD ds = some bs → vs = bs.map V.int
  | [], vs, bs, r, e => by rw [r.of_nil]; cases e; rfl
  | d :: ds, vs, bs, r, e => by
    obtain ⟨v, r', rfl, h1, h2⟩ := r.of_cons
    cases d with
    | int b =>
      obtain ⟨cs, e1, e⟩ := Option.map_eq_some_iff.mp e
      cases e
      rw [rep_int h1, ints_ok h2 e1]
      rfl
    | _ => cases e
theorem seqK {d : D} {v : V} {xs : List D} (s : RelS K m S H) (r : Rep K m H d v) (e : asK S d = some xs) : ∃ a vs, v = .ref a ∧ SqL K H a vs ∧ Reps K m H xs vs := by
  unfold asK at e
  split at e
  · rename_i h
    obtain ⟨a, vs, rfl, q, rr⟩ := seqQ s r e
    rw [h] at q
    exact ⟨a, vs, rfl, q, rr⟩
  · cases e
def gAny : List D → Sto → Option (D × Sto)
  | [d], S => (asK S d).bind fun xs => (boolsD xs).map fun bs => (.bl (bs.any id), S)
  | _, _ => none
def gAll : List D → Sto → Option (D × Sto)
  | [d], S => (asK S d).bind fun xs => (boolsD xs).map fun bs => (.bl (bs.all id), S)
  | _, _ => none
def gSum : List D → Sto → Option (D × Sto)
  | [d], S => (asK S d).bind fun xs => (intsD xs).map fun bs => (.int bs.sum, S)
  | _, _ => none
theorem any_ok : CallOk K (rAny K) gAny := by
  intro m S H ds d xs S' Q s r e q
  match ds, e with
  | [a], e =>
    obtain ⟨x, rfl, rx⟩ := one_of r
    obtain ⟨ys, e1, e⟩ := Option.bind_eq_some_iff.mp e
    obtain ⟨bs, e2, e⟩ := Option.map_eq_some_iff.mp e
    cases e
    obtain ⟨p, vs, rfl, h, rr⟩ := seqK s rx e1
    cases bools_ok rr e2
    exact ⟨p, bs, rfl, h, q m H _ (Ext.refl m H) s bl_rep⟩
  | [], e => cases e
  | _ :: _ :: _, e => cases e
theorem all_ok : CallOk K (rAll K) gAll := by
  intro m S H ds d xs S' Q s r e q
  match ds, e with
  | [a], e =>
    obtain ⟨x, rfl, rx⟩ := one_of r
    obtain ⟨ys, e1, e⟩ := Option.bind_eq_some_iff.mp e
    obtain ⟨bs, e2, e⟩ := Option.map_eq_some_iff.mp e
    cases e
    obtain ⟨p, vs, rfl, h, rr⟩ := seqK s rx e1
    cases bools_ok rr e2
    exact ⟨p, bs, rfl, h, q m H _ (Ext.refl m H) s bl_rep⟩
  | [], e => cases e
  | _ :: _ :: _, e => cases e
theorem sum_ok : CallOk K (rSum K) gSum := by
  intro m S H ds d xs S' Q s r e q
  match ds, e with
  | [a], e =>
    obtain ⟨x, rfl, rx⟩ := one_of r
    obtain ⟨ys, e1, e⟩ := Option.bind_eq_some_iff.mp e
    obtain ⟨bs, e2, e⟩ := Option.map_eq_some_iff.mp e
    cases e
    obtain ⟨p, vs, rfl, h, rr⟩ := seqK s rx e1
    cases ints_ok rr e2
    exact ⟨p, bs, rfl, h, q m H _ (Ext.refl m H) s int_rep⟩
  | [], e => cases e
  | _ :: _ :: _, e => cases e
def gMax2 : List D → Sto → Option (D × Sto)
  | [.int i, .int j], S => some (.int (max i j), S)
  | _, _ => none
def gMin2 : List D → Sto → Option (D × Sto)
  | [.int i, .int j], S => some (.int (min i j), S)
  | _, _ => none
def gAbs : List D → Sto → Option (D × Sto)
  | [.int i], S => some (.int i.natAbs, S)
  | _, _ => none
def gInt : List D → Sto → Option (D × Sto)
  | [.int i], S => some (.int i, S)
  | [.bl b], S => some (.int (if b then 1 else 0), S)
  | _, _ => none
theorem max2_ok : CallOk K (fun xs H Q => ∃ i j, xs = [.int i, .int j] ∧ Q (.int (if j > i then j else i)) H) gMax2 := by
  intro m S H ds d xs S' Q s r e q
  unfold gMax2 at e
  split at e
  · rename_i i j
    cases e
    obtain ⟨x, y, rfl, rx, ry⟩ := two_ofL r
    cases rep_int rx
    cases rep_int ry
    refine ⟨i, j, rfl, ?_⟩
    have e : (if j > i then j else i) = max i j := by split <;> omega
    rw [e]
    exact q m H _ (Ext.refl m H) s int_rep
  · cases e
theorem min2_ok : CallOk K (fun xs H Q => ∃ i j, xs = [.int i, .int j] ∧ Q (.int (if j < i then j else i)) H) gMin2 := by
  intro m S H ds d xs S' Q s r e q
  unfold gMin2 at e
  split at e
  · rename_i i j
    cases e
    obtain ⟨x, y, rfl, rx, ry⟩ := two_ofL r
    cases rep_int rx
    cases rep_int ry
    refine ⟨i, j, rfl, ?_⟩
    have e : (if j < i then j else i) = min i j := by split <;> omega
    rw [e]
    exact q m H _ (Ext.refl m H) s int_rep
  · cases e
theorem abs_ok : CallOk K (fun xs H Q => ∃ i, xs = [.int i] ∧ Q (.int (if i < 0 then -i else i)) H) gAbs := by
  intro m S H ds d xs S' Q s r e q
  unfold gAbs at e
  split at e
  · rename_i i
    cases e
    obtain ⟨x, rfl, rx⟩ := one_of r
    cases rep_int rx
    refine ⟨i, rfl, ?_⟩
    have e : (if i < 0 then -i else i) = (i.natAbs : Int) := by split <;> omega
    rw [e]
    exact q m H _ (Ext.refl m H) s int_rep
  · cases e
theorem int_ok : CallOk K (fun xs H Q => (∃ i, xs = [.int i] ∧ Q (.int i) H) ∨ ∃ k, xs = [.bl k] ∧ Q (.int (if k then 1 else 0)) H) gInt := by
  intro m S H ds d xs S' Q s r e q
  unfold gInt at e
  split at e
  · rename_i i
    cases e
    obtain ⟨x, rfl, rx⟩ := one_of r
    cases rep_int rx
    exact .inl ⟨i, rfl, q m H _ (Ext.refl m H) s int_rep⟩
  · rename_i i
    cases e
    obtain ⟨x, rfl, rx⟩ := one_of r
    cases rep_bl rx
    exact .inr ⟨i, rfl, q m H _ (Ext.refl m H) s int_rep⟩
  · cases e

/-! ### dict(pairs) -/
def pairsD : List D → Option (List (Key × D))
  | [] => some []
  | .tup [k, v] :: ds => (keyD k).bind fun k => (pairsD ds).map fun r => (k, v) :: r
  | _ :: _ => none
def mergeD {κ : Type} [DecidableEq κ] (kvs more : List (κ × D)) : List (κ × D) := more.foldl (fun acc kv => putD acc kv.1 kv.2) kvs
theorem repK_merge : ∀ {more : List (Key × D)} {ms : List (Key × V)} {kvs : List (Key × D)} {vs : List (Key × V)}, RepKs K m H more ms → RepKs K m H kvs vs → RepKs K m H (mergeD kvs more) (mergeK vs ms)
  | [], ms, kvs, vs, r, r0 => by
    have r : ms = [] := r
    subst r; exact r0
  | p :: more, ms, kvs, vs, r, r0 => by
    obtain ⟨v, r', rfl, h1, h2⟩ := r
    show RepKs K m H (mergeD (putD kvs p.1 p.2) more) (mergeK (putK vs p.1 v) r')
    exact repK_merge h2 (repK_put p.1 h1 r0)
theorem repK_nil {κ : Type} : RepKs (κ := κ) K m H [] [] := rfl
theorem pairs_at {xs : List D} : ∀ {vs : List V} {kvs : List (Key × D)}, Reps K m H xs vs → pairsD xs = some kvs → ∃ (ps : List Addr) (us : List (Key × V)), vs = ps.map V.ref ∧ Paired (fun p kv => SqT K H p [kV kv.1, kv.2]) ps us ∧ RepKs K m H kvs us := by
  induction xs with
  | nil =>
    intro vs kvs r e
    rw [r.of_nil]; cases e
    exact ⟨[], [], rfl, .nil, rfl⟩
  | cons d ds ih =>
    intro vs kvs r e
    obtain ⟨v, r', rfl, h1, h2⟩ := r.of_cons
    cases d with
    | tup zs =>
      match zs, e, h1 with
      | [k, z], e, h1 =>
        obtain ⟨k', e1, e⟩ := Option.bind_eq_some_iff.mp e
        obtain ⟨rs, e2, e⟩ := Option.map_eq_some_iff.mp e
        cases e
        obtain ⟨ps, us, rfl, hp, hr⟩ := ih h2 e2
        obtain ⟨p, ws, rfl, hpt, rr⟩ := tup_at h1
        obtain ⟨x, y, rfl, rx, ry⟩ := two_ofL rr
        cases keyD_ok rx e1
        exact ⟨p :: ps, (k', y) :: us, rfl, .cons (SqT.of hpt) hp, y, us, rfl, ry, hr⟩
      | [], e, _ => cases e
      | [_], e, _ => cases e
      | _ :: _ :: _ :: _, e, _ => cases e
    | _ => cases e
def gDictP : List D → Sto → Option (D × Sto)
  | [d], S => (asK S d).bind fun xs => (pairsD xs).map fun kvs => (.ref S.length, S ++ [.dic (mergeD [] kvs)])
  | _, _ => none
def rDictP (K : PySem.W.Frag) : List V → Hp → VK → Prop := fun xs H Q => ∃ (a : Addr) (ps : List Addr) (kvs : List (Key × V)), xs = [.ref a] ∧ SqL K H a (ps.map V.ref) ∧ Paired (fun p kv => SqT K H p [kV kv.1, kv.2]) ps kvs ∧
    ∀ p, H p = none → Q (.ref p) (upd H p (.dK (mergeK [] kvs)))
theorem dic_new {p : Addr} {ds : List (Key × D)} {vs : List (Key × V)} (s : RelS K m S H) (r : RepKs K m H ds vs) (hp : H p = none) :
    Ext m (m.push p) H (upd H p (.dK vs)) ∧ RelS K (m.push p) (S ++ [.dic ds]) (upd H p (.dK vs)) ∧ Rep K (m.push p) (upd H p (.dK vs)) (.ref S.length) (.ref p) := by
  have e : (m.push p).l[m.l.length]? = some (some p) := by simp [Lbl.push]
  refine ⟨Ext.born s hp, s.born hp ⟨p, vs, e, upd_same, RepKs.ext (Ext.born s hp) r⟩, ?_⟩
  unfold Rep
  rw [← s.len]
  exact ⟨by simp [Lbl.push], fun q eq => by rw [e] at eq; cases eq; rfl⟩
theorem dit_new {p : Addr} {ds : List (List Key × D)} {vs : List (List Key × V)} (s : RelS K m S H) (r : RepKs K m H ds vs) (hp : H p = none) :
    Ext m (m.push p) H (upd H p (.dT vs)) ∧ RelS K (m.push p) (S ++ [.dit ds]) (upd H p (.dT vs)) ∧ Rep K (m.push p) (upd H p (.dT vs)) (.ref S.length) (.ref p) := by
  have e : (m.push p).l[m.l.length]? = some (some p) := by simp [Lbl.push]
  refine ⟨Ext.born s hp, s.born hp ⟨p, vs, e, upd_same, RepKs.ext (Ext.born s hp) r⟩, ?_⟩
  unfold Rep
  rw [← s.len]
  exact ⟨by simp [Lbl.push], fun q eq => by rw [e] at eq; cases eq; rfl⟩
theorem dictP_ok : CallOk K (rDictP K) gDictP := by
  intro m S H ds d xs S' Q s r e q
  match ds, e with
  | [a], e =>
    obtain ⟨x, rfl, rx⟩ := one_of r
    obtain ⟨ys, e1, e⟩ := Option.bind_eq_some_iff.mp e
    obtain ⟨kvs, e2, e⟩ := Option.map_eq_some_iff.mp e
    cases e
    obtain ⟨p, vs, rfl, h, rr⟩ := seqK s rx e1
    obtain ⟨ps, us, rfl, hp, hr⟩ := pairs_at rr e2
    refine ⟨p, ps, us, rfl, h, hp, fun l hl => ?_⟩
    obtain ⟨y1, y2, y3⟩ := dic_new s (repK_merge hr repK_nil) hl
    exact q _ _ _ y1 y2 y3
  | [], e => cases e
  | _ :: _ :: _, e => cases e
end
section
variable {X : Cx} {K : PySem.W.Frag} {pos : Pos}
def eDicN : EF := fun _ S => some (.ref S.length, S ++ [.dic []])
def eDitN : EF := fun _ S => some (.ref S.length, S ++ [.dit []])
theorem de_dicN : PE X (.Dict [] [] pos) (teOf X.K eDicN) := pe_imp pe_dnewK fun σ H Q ⟨m, L, S, d, S', hl, hs, e, q⟩ => fun p hp => by
  cases e
  obtain ⟨y1, y2, y3⟩ := dic_new (ds := []) (vs := []) hs rfl hp
  exact q _ _ _ y1 y2 y3
theorem de_ditN : PE X (.Dict [] [] pos) (teOf X.K eDitN) := pe_imp pe_dnewT fun σ H Q ⟨m, L, S, d, S', hl, hs, e, q⟩ => fun p hp => by
  cases e
  obtain ⟨y1, y2, y3⟩ := dit_new (ds := []) (vs := []) hs rfl hp
  exact q _ _ _ y1 y2 y3

/-! ### {k: v, ..} -/
def dispF : List (EF × EF) → Loc → Sto → Option (List (Key × D) × Sto)
  | [], _, S => some ([], S)
  | (fk, fv) :: r, L, S => (fk L S).bind fun p => (keyD p.1).bind fun k => (fv L p.2).bind fun q => (dispF r L q.2).bind fun z => some ((k, q.1) :: z.1, z.2)
def eDisp (fs : List (EF × EF)) : EF := fun L S => if fs.length ≤ 15 then (dispF fs L S).bind fun p => some (.ref p.2.length, p.2 ++ [.dic (mergeD [] p.1)]) else none
theorem repK_label {κ : Type} {m : Lbl} {H : Hp} {p : Addr} {ds : List (κ × D)} {vs : List (κ × V)} (r : RepKs K (m.hold p) H ds vs) : RepKs K (m.push p) H ds vs := r.map Rep.label
theorem disp_pairs {p : Addr} : ∀ (fs : List (EF × EF)) {σ : L2.St} {m : Lbl} {H : Hp} {L : Loc} {S S' : Sto} {kvs : List (Key × D)} {Q : List (V × V) → Hp → Prop}, RelL K (m.hold p) H L σ → RelS K (m.hold p) S H → dispF fs L S = some (kvs, S') →
    (∀ m' H' us, Ext (m.hold p) m' H H' → RelS K m' S' H' → RepKs K m' H' kvs us → Q (us.map fun kv => (kV kv.1, kv.2)) H') →
    tPairs (fs.map fun f => (teOf K f.1, teOf K f.2)) σ H Q := by
  intro fs
  have gen : ∀ (fs : List (EF × EF)) {σ : L2.St} {m : Lbl} {H : Hp} {L : Loc} {S S' : Sto} {kvs : List (Key × D)} {Q : List (V × V) → Hp → Prop}, RelL K m H L σ → RelS K m S H → dispF fs L S = some (kvs, S') →
    (∀ m' H' us, Ext m m' H H' → RelS K m' S' H' → RepKs K m' H' kvs us → Q (us.map fun kv => (kV kv.1, kv.2)) H') →
    tPairs (fs.map fun f => (teOf K f.1, teOf K f.2)) σ H Q := by
    intro fs
    induction fs with
    | nil =>
      intro σ m H L S S' kvs Q hl hs e q
      cases e
      exact q m H [] (Ext.refl m H) hs rfl
    | cons f r ih =>
      intro σ m H L S S' kvs Q hl hs e q
      obtain ⟨⟨kd, S1⟩, e1, e⟩ := Option.bind_eq_some_iff.mp e
      obtain ⟨k, e2, e⟩ := Option.bind_eq_some_iff.mp e
      obtain ⟨⟨vd, S2⟩, e3, e⟩ := Option.bind_eq_some_iff.mp e
      obtain ⟨⟨zs, S3⟩, e4, e⟩ := Option.bind_eq_some_iff.mp e
      cases e
      refine ⟨m, L, S, kd, S1, hl, hs, e1, fun m1 H1 x x1 s1 r1 => ?_⟩
      cases keyD_ok r1 e2
      refine ⟨m1, L, S1, vd, S2, hl.ext x1, s1, e3, fun m2 H2 y x2 s2 r2 => ?_⟩
      refine ih ((hl.ext x1).ext x2) s2 e4 fun m3 H3 us x3 s3 r3 => ?_
      exact q m3 H3 ((k, y) :: us) (x1.trans (x2.trans x3)) s3 ⟨y, us, rfl, Rep.ext x3 _ _ r2, r3⟩
  intro σ m H L S S' kvs Q hl hs e q
  exact gen fs hl hs e q
theorem de_disp {keys : List (Option Expr)} {values : List Expr} {fs : List (EF × EF)} (h : PPs X pos keys values (fs.map fun f => (teOf X.K f.1, teOf X.K f.2))) (hall : keys.all (·.isSome) = true := by rfl) (hl : keys.length = values.length := by rfl) (h0 : keys ≠ [] := by exact List.cons_ne_nil _ _)
    (h15 : keys.length ≤ 15 := by decide) : PE X (.Dict keys values pos) (teOf X.K (eDisp fs)) :=
  pe_imp (pe_disp h hall hl h0 h15) fun σ H Q ⟨m, L, S, d, S', hl, hs, e, q⟩ => fun p hp => by
    unfold eDisp at e
    split at e
    · rename_i hf
      obtain ⟨⟨kvs, S1⟩, e1, e⟩ := Option.bind_eq_some_iff.mp e
      cases e
      refine disp_pairs fs (hl.hold (o := .dK []) hp) (hs.hold hp) e1 fun m' H' us x s r => ?_
      have hpH : H' p = some (.dK []) := by rw [x.fix p List.mem_cons_self]; exact upd_same
      have hlen : ∀ {ds : List (Key × D)} {vs : List (Key × V)} , RepKs X.K m' H' ds vs → vs.length = ds.length := fun r => repK_len r
      have hk : ∀ (fs : List (EF × EF)) {L S kvs S'}, dispF fs L S = some (kvs, S') → kvs.length = fs.length := by
        intro fs
        induction fs with
        | nil => intro L S kvs S' e; cases e; rfl
        | cons f r ih =>
          intro L S kvs S' e
          obtain ⟨⟨kd, S1⟩, e1, e⟩ := Option.bind_eq_some_iff.mp e
          obtain ⟨k, e2, e⟩ := Option.bind_eq_some_iff.mp e
          obtain ⟨⟨vd, S2⟩, e3, e⟩ := Option.bind_eq_some_iff.mp e
          obtain ⟨⟨zs, S3⟩, e4, e⟩ := Option.bind_eq_some_iff.mp e
          cases e
          simp [ih e4]
      refine ⟨hpH, us, rfl, by rw [hlen r, hk fs e1]; exact hf, ?_⟩
      have hr : m'.r = p :: m.r := x.res
      obtain ⟨mm, rfl⟩ : ∃ mm : Lbl, m' = mm.hold p := ⟨⟨m'.l, m.r⟩, by cases m'; simp only at hr; subst hr; rfl⟩
      have hmr : mm.r = m.r := (List.cons.inj hr).2
      -- the dict now stands filled
      have s2 : RelS X.K (mm.hold p) S1 (upd H' p (.dK (mergeK [] us))) := s.fill
      have r2 : RepKs X.K (mm.hold p) (upd H' p (.dK (mergeK [] us))) (mergeD [] kvs) (mergeK [] us) := (repK_merge r repK_nil).map Rep.fill
      have e0 : (mm.push p).l[mm.l.length]? = some (some p) := by simp [Lbl.push]
      have hpm : p ∉ mm.r := fun hm => by
        rw [hmr] at hm
        obtain ⟨⟨o, e, _⟩, _⟩ := hs.rsv p hm
        rw [hp] at e; cases e
      have x0 : Ext m ⟨mm.l, m.r⟩ H (upd H' p (.dK (mergeK [] us))) := {
        keep := fun a o e n => by
          have hne := ne_of_none e hp
          rw [upd_ne hne]
          exact x.keep a o (by rw [upd_ne hne]; exact e) (n.hold hne)
        stay := fun a e => by
          by_cases h : a = p
          · subst h; exact hp
          · rw [upd_ne h] at e
            have := x.stay a e
            rw [upd_ne h] at this
            exact this
        new := fun k a e => by
          rcases x.new k a e with q | q
          · exact .inl q
          · by_cases h : a = p
            · subst h; exact .inr hp
            · rw [upd_ne h] at q; exact .inr q
        old := fun k hk => x.old k hk
        len := x.len
        res := rfl
        fix := fun a h => by
          obtain ⟨⟨u, e, _⟩, _⟩ := hs.rsv a h
          have hne := ne_of_none e hp
          rw [upd_ne hne, x.fix a (List.mem_cons_of_mem _ h), upd_ne hne]
        frz := fun a o u e => by
          have hne := ne_of_none e hp
          rw [upd_ne hne]
          exact x.frz a o u (by rw [upd_ne hne]; exact e) }
      have hl2 : S1.length = mm.l.length := by have := s.len; simp [Lbl.hold] at this; exact this.symm
      refine q (mm.push p) _ _ ?_ ?_ ?_
      · exact ⟨x0.keep, x0.stay, fun k a e => by
          rcases Lbl.push_at e with ⟨_, z⟩ | ⟨_, z⟩
          · exact x0.new k a z
          · exact .inr (z ▸ hp), fun k hk => by
          have : (mm.push p).l[k]? = mm.l[k]? := List.getElem?_append_left (Nat.lt_of_lt_of_le hk x0.len)
          rw [this]; exact x0.old k hk, Nat.le_trans x0.len (by simp [Lbl.push]), hmr, x0.fix, x0.frz⟩
      · refine ⟨by simp [Lbl.push, hl2], fun k u e => ?_, fun i j a e1 e2 => ?_, fun a ha => ?_⟩
        · by_cases hk : k < S1.length
          · rw [List.getElem?_append_left hk] at e
            exact (s2.at_ k u e).map Rep.label Reps.label (List.getElem?_append_left (by omega)) fun a _ => rfl
          · have hk2 : k = S1.length := by
              have := (List.getElem?_eq_some_iff.mp e).1
              simp at this; omega
            subst hk2
            rw [List.getElem?_append_right (Nat.le_refl _)] at e
            simp at e
            subst e
            rw [hl2]
            exact ⟨p, _, e0, upd_same, repK_label r2⟩
        · rcases Lbl.push_at e1 with ⟨_, q1⟩ | ⟨q1, z1⟩ <;> rcases Lbl.push_at e2 with ⟨_, q2⟩ | ⟨q2, z2⟩
          · exact s2.inj i j a q1 q2
          · subst z2
            exact absurd q1 ((s2.rsv _ List.mem_cons_self).2 i)
          · subst z1
            exact absurd q2 ((s2.rsv _ List.mem_cons_self).2 j)
          · omega
        · obtain ⟨q1, q2⟩ := s2.rsv a (List.mem_cons_of_mem _ ha)
          refine ⟨q1, fun k ek => ?_⟩
          rcases Lbl.push_at ek with ⟨_, z⟩ | ⟨_, z⟩
          · exact q2 k z
          · exact hpm (z ▸ ha)
      · unfold Rep
        rw [hl2]
        exact ⟨by simp [Lbl.push], fun q eq => by rw [e0] at eq; cases eq; rfl⟩
    · cases e
end
end DS
namespace DS
open PySem PySem.Spec PyProof.Rows L2

/-! ### methods of a list that is written -/
/-- o.m(xs): what it gives, what stands behind -/
abbrev MF := Nat → List D → List D → Sto → Option (D × Sto)
/-- on a label that holds a list -/
def eMet (g : MF) (fo : EF) (fa : AF) : EF := fun L S => (fo L S).bind fun p => match p.1 with
  | .ref k => (asL p.2 (.ref k)).bind fun _ => (fa L p.2).bind fun q => (asL q.2 (.ref k)).bind fun xs => g k xs q.1 q.2
  | _ => none
theorem asL_ref {S : Sto} {k : Nat} {xs : List D} (e : asL S (.ref k) = some xs) : S[k]? = some (.lst xs) := by
  have e : (match S[k]? with | some (.lst xs) => some xs | _ => none) = some xs := e
  split at e
  · rename_i h; cases e; exact h
  · cases e
def mAppend : MF := fun k xs as S => match as with | [d] => if xs.length < sizeLine then some (.non, S.set k (.lst (xs ++ [d]))) else none | _ => none
def mExtend : MF := fun k xs as S => match as with | [d] => (asL S d).bind fun ys => if xs.length + ys.length ≤ sizeLine then some (.non, S.set k (.lst (xs ++ ys))) else none | _ => none
def mPop : MF := fun k xs as S => match as with | [] => (xs[xs.length - 1]?).map fun d => (d, S.set k (.lst xs.dropLast)) | _ => none
noncomputable def mPopAt : MF := fun k xs as S => match as with | [.int i] => chk (-(2 ^ 63) ≤ i ∧ i < 2 ^ 63) ((ixN xs.length i).bind fun n => (xs[n]?).map fun d => (d, S.set k (.lst (xs.eraseIdx n)))) | _ => none
def MetOk (K : PySem.W.Frag) (r : V → List V → Hp → VK → Prop) (g : MF) : Prop :=
  ∀ (m : Lbl) (S : Sto) (H : Hp) (k : Nat) (xs : List D) (ds : List D) (d : D) (x : V) (us : List V) (S' : Sto) (Q : VK), RelS K m S H → Rep K m H (.ref k) x → S[k]? = some (.lst xs) → Reps K m H ds us → g k xs ds S = some (d, S') →
    (∀ m' H' v, Ext m m' H H' → RelS K m' S' H' → Rep K m' H' d v → Q v H') → r x us H Q
section
variable {K : PySem.W.Frag}
theorem Reps.dropLast {m : Lbl} {H : Hp} : ∀ {ds : List D} {vs : List V}, Reps K m H ds vs → Reps K m H ds.dropLast vs.dropLast
  | [], vs, r => by rw [r.of_nil]; exact Reps.nil
  | [d], vs, r => by
    obtain ⟨v, r', rfl, h1, h2⟩ := r.of_cons
    rw [h2.of_nil]; exact Reps.nil
  | d :: e :: ds, vs, r => by
    obtain ⟨v, r', rfl, h1, h2⟩ := r.of_cons
    obtain ⟨w, r'', rfl, h3, h4⟩ := h2.of_cons
    exact Reps.cons h1 (Reps.dropLast h2)
theorem Reps.eraseIdx {m : Lbl} {H : Hp} : ∀ {ds : List D} {vs : List V} (i : Nat), Reps K m H ds vs → Reps K m H (ds.eraseIdx i) (vs.eraseIdx i)
  | [], vs, i, r => by rw [r.of_nil]; exact Reps.nil
  | d :: ds, vs, i, r => by
    obtain ⟨v, r', rfl, h1, h2⟩ := r.of_cons
    cases i with
    | zero => exact h2
    | succ i => exact Reps.cons h1 (Reps.eraseIdx i h2)
theorem put_lst {m : Lbl} {S : Sto} {H : Hp} {k : Nat} {p : Addr} {ds : List D} {vs : List V} (s : RelS K m S H) (e : m.l[k]? = some (some p)) {ws : List V} (e2 : H p = some (.lst ws)) (r : Reps K m H ds vs) : Ext m m H (upd H p (.lst vs)) ∧ RelS K m (S.set k (.lst ds)) (upd H p (.lst vs)) :=
  ⟨Ext.put s e (nfz e2), s.put e (nfz e2) ⟨p, vs, e, upd_same, Reps.ext (Ext.put s e (nfz e2)) _ _ r⟩⟩
theorem append_ok : MetOk K rAppend mAppend := by
  intro m S H k xs ds d x us S' Q s rx ho r e q
  match ds, e with
  | [a], e =>
    obtain ⟨y, rfl, ry⟩ := one_of r
    unfold mAppend at e
    simp only at e
    split at e
    · rename_i hz
      cases e
      obtain ⟨p, vs, e1, e2, e3⟩ := s.at_ k _ ho
      unfold Rep at rx
      cases rx.2 p e1
      obtain ⟨y1, y2⟩ := put_lst s e1 e2 (Reps.append e3 (Reps.cons ry Reps.nil))
      exact ⟨p, vs, y, rfl, rfl, e2, by rw [e3.length]; exact hz, q m _ _ y1 y2 non_rep⟩
    · cases e
  | [], e => cases e
  | _ :: _ :: _, e => cases e
theorem extend_ok : MetOk K rExtend mExtend := by
  intro m S H k xs ds d x us S' Q s rx ho r e q
  match ds, e with
  | [a], e =>
    obtain ⟨y, rfl, ry⟩ := one_of r
    unfold mExtend at e
    simp only at e
    obtain ⟨ys, e0, e⟩ := Option.bind_eq_some_iff.mp e
    split at e
    · rename_i hz
      cases e
      obtain ⟨p, vs, e1, e2, e3⟩ := s.at_ k _ ho
      unfold Rep at rx
      cases rx.2 p e1
      obtain ⟨b, ws, rfl, hb, rr⟩ := lst_at s ry e0
      obtain ⟨y1, y2⟩ := put_lst s e1 e2 (Reps.append e3 rr)
      exact ⟨p, b, vs, ws, rfl, rfl, e2, hb, by rw [e3.length, rr.length]; exact hz, q m _ _ y1 y2 non_rep⟩
    · cases e
  | [], e => cases e
  | _ :: _ :: _, e => cases e
theorem pop_ok : MetOk K rPop mPop := by
  intro m S H k xs ds d x us S' Q s rx ho r e q
  match ds, e with
  | [], e =>
    rw [r.of_nil]
    obtain ⟨z, e0, e⟩ := Option.map_eq_some_iff.mp e
    cases e
    obtain ⟨p, vs, e1, e2, e3⟩ := s.at_ k _ ho
    unfold Rep at rx
    cases rx.2 p e1
    obtain ⟨v, h1, h2⟩ := e3.get e0
    obtain ⟨y1, y2⟩ := put_lst s e1 e2 (Reps.dropLast e3)
    exact ⟨p, vs, v, rfl, rfl, e2, by rw [e3.length]; exact h1, q m _ _ y1 y2 (Rep.ext y1 _ _ h2)⟩
  | _ :: _, e => cases e
theorem popAt_ok : MetOk K rPopAt mPopAt := by
  intro m S H k xs ds d x us S' Q s rx ho r e q
  unfold mPopAt at e
  split at e
  · rename_i i
    obtain ⟨hi, e⟩ := chk_some e
    · obtain ⟨n, e4, e⟩ := Option.bind_eq_some_iff.mp e
      obtain ⟨z, e0, e⟩ := Option.map_eq_some_iff.mp e
      cases e
      obtain ⟨y, rfl, ry⟩ := one_of r
      cases rep_int ry
      obtain ⟨p, vs, e1, e2, e3⟩ := s.at_ k _ ho
      unfold Rep at rx
      cases rx.2 p e1
      obtain ⟨v, h1, h2⟩ := e3.get e0
      obtain ⟨y1, y2⟩ := put_lst s e1 e2 (Reps.eraseIdx n e3)
      exact ⟨p, vs, i, n, v, rfl, rfl, e2, hi.1, hi.2, by rw [e3.length]; exact (ixN_seq e4).1, h1, q m _ _ y1 y2 (Rep.ext y1 _ _ h2)⟩
  · cases e
end
section
variable {X : Cx} {o e : Expr} {es : List Expr} {name : Str} {apos cpos : Pos} {id : String} {r : V → List V → Hp → VK → Prop} {g : MF} {fo : EF} {fa : AF}
theorem ty_list {K : PySem.W.Frag} {H : Hp} {p : Addr} {vs : List V} (h : H p = some (.lst vs)) : tyV K "list" (.ref p) H := Or.inl ⟨rfl, vs, SqL.of h⟩
/-- the label's list stands also while the arguments are made -/
theorem de_met0 (slot : Slot "list" name id) (hty : typeOf (.builtin id) = pure (.type "method_descriptor")) (hm : MtR X id r) (hk : MetOk X.K r g) (ho : PE X o (teOf X.K fo))
    (hbase : attributeBase o name X.env (eval o X.env) = eval o X.env := by rfl) (hline : (apos.endLine == cpos.line) = true := by rfl) : PE X (.Call (.Attribute o name apos) [] [] cpos) (teOf X.K (eMet g fo aNil)) :=
  pe_imp (pe_bm0 PySem.F.plainAttrs_list slot hty hm ho hbase hline) fun σ H Q ⟨m, L, S, d, S', hl, hs, e, q⟩ => by
    obtain ⟨⟨z, S1⟩, e1, e⟩ := Option.bind_eq_some_iff.mp e
    refine ⟨m, L, S, z, S1, hl, hs, e1, fun m1 H1 x x1 s1 r1 => ?_⟩
    cases z with
    | ref k =>
      obtain ⟨ys, e0, e⟩ := Option.bind_eq_some_iff.mp e
      obtain ⟨⟨as, S2⟩, e2, e⟩ := Option.bind_eq_some_iff.mp e
      cases e2
      obtain ⟨xs, e3, e⟩ := Option.bind_eq_some_iff.mp e
      have hxs := asL_ref e3
      obtain ⟨p, vs, g1, g2, g3⟩ := s1.at_ k _ hxs
      have rx := r1
      unfold Rep at rx
      cases rx.2 p g1
      exact ⟨ty_list g2, hk m1 _ H1 k xs [] d _ [] S' Q s1 r1 hxs Reps.nil e fun m2 H2 v x2 s2 r2 => q m2 H2 v (x1.trans x2) s2 r2⟩
    | _ => cases e
theorem de_met (slot : Slot "list" name id) (hty : typeOf (.builtin id) = pure (.type "method_descriptor")) (hm : MtR X id r) (hk : MetOk X.K r g) (ho : PE X o (teOf X.K fo)) (ha : PA X (e :: es) (taOf X.K fa))
    (hbase : attributeBase o name X.env (eval o X.env) = eval o X.env := by rfl)
    (hfew : ((backTo cpos (starEach (e :: es) X.env)).all (fun x => !x.1) && (backToKw cpos (keywordEach [] X.env)).all (fun x => x.1.isSome)
      && decide ((e :: es).length + ([] : List Keyword).length + (if ([] : List Keyword).isEmpty then 0 else 1) < 30)) = true := by rfl)
    (hline : (apos.endLine == cpos.line) = true := by rfl) (hs : starEach (e :: es) X.env = (false, eval e X.env) :: starEach es X.env := by rfl) (hplain : (backTo cpos (starEach es X.env)).any (·.1) = false := by rfl) : PE X (.Call (.Attribute o name apos) (e :: es) [] cpos) (teOf X.K (eMet g fo fa)) :=
  pe_imp (pe_bm PySem.F.plainAttrs_list slot hty hm ho ha hbase hfew hline hs hplain) fun σ H Q ⟨m, L, S, d, S', hl, hs, e, q⟩ => by
    obtain ⟨⟨z, S1⟩, e1, e⟩ := Option.bind_eq_some_iff.mp e
    refine ⟨m, L, S, z, S1, hl, hs, e1, fun m1 H1 x x1 s1 r1 => ?_⟩
    cases z with
    | ref k =>
      obtain ⟨ys, e0, e⟩ := Option.bind_eq_some_iff.mp e
      obtain ⟨⟨as, S2⟩, e2, e⟩ := Option.bind_eq_some_iff.mp e
      obtain ⟨xs, e3, e⟩ := Option.bind_eq_some_iff.mp e
      have hys := asL_ref e0
      have hxs := asL_ref e3
      obtain ⟨p, vs, g1, g2, g3⟩ := s1.at_ k _ hys
      have rx := r1
      unfold Rep at rx
      cases rx.2 p g1
      refine ⟨ty_list g2, m1, L, S1, as, S2, hl.ext x1, s1, e2, fun m2 H2 us x2 s2 r2 => ?_⟩
      exact hk m2 _ H2 k xs as d _ us S' Q s2 (Rep.ext x2 _ _ r1) hxs r2 e fun m3 H3 v x3 s3 r3 => q m3 H3 v (x1.trans (x2.trans x3)) s3 r3
    | _ => cases e
end
end DS
namespace DS
open PySem PySem.Spec PyProof.Rows L2

/-! ### slices -/
abbrev OF := Loc → Sto → Option (Option Int × Sto)
def oNone : OF := fun _ S => some (none, S)
def oSome (f : EF) : OF := fun L S => (f L S).bind fun p => match p.1 with | .int i => some (some i, p.2) | _ => none
def toOf (K : PySem.W.Frag) (f : OF) : TO := fun σ H Q => ∃ m L S o S', RelL K m H L σ ∧ RelS K m S H ∧ f L S = some (o, S') ∧ ∀ m' H', Ext m m' H H' → RelS K m' S' H' → Q o H'
def cutD (xs : List D) (lo hi : Option Int) : List D := (xs.drop (HT.sIx xs.length 0 lo)).take (HT.sIx xs.length xs.length hi - HT.sIx xs.length 0 lo)
def gSl (fr : Bool) (d : D) (lo hi : Option Int) (S : Sto) : Option (D × Sto) := match d with
  | .tup xs => some (.tup (cutD xs lo hi), S)
  | .tud xs => some (if HT.sIx xs.length 0 lo = 0 ∧ HT.sIx xs.length xs.length hi = xs.length then .tud xs else .tup (cutD xs lo hi), S)
  | d => (asK S d).map fun xs => mkL fr (cutD xs lo hi) S
def eSl (fr : Bool) (f : EF) (lo hi : OF) : EF := fun L S => (f L S).bind fun p => (lo L p.2).bind fun a => (hi L a.2).bind fun b => gSl fr p.1 a.1 b.1 b.2
section
variable {X : Cx} {K : PySem.W.Frag} {lo hi : Option Expr} {e : Expr} {f : EF} {pos p2 : Pos}
theorem do_none : PO X none (toOf X.K oNone) := ⟨fun pins s σ H Q I ⟨m, L, S, o, S', hl, hs, e, q⟩ => by
  cases e
  exact po_none.run pins s σ H Q I (q m H (Ext.refl m H) hs)⟩
theorem do_some (h : PE X e (teOf X.K f)) : PO X (some e) (toOf X.K (oSome f)) := ⟨fun pins s σ H Q I ⟨m, L, S, o, S', hl, hs, e, q⟩ => by
  obtain ⟨⟨z, S1⟩, e1, e⟩ := Option.bind_eq_some_iff.mp e
  refine (po_some h).run pins s σ H Q I ⟨m, L, S, z, S1, hl, hs, e1, fun m1 H1 x x1 s1 r1 => ?_⟩
  cases z with
  | int i =>
    cases e
    exact ⟨i, rep_int r1, q m1 H1 x1 s1⟩
  | _ => cases e⟩
theorem Reps.cut {m : Lbl} {H : Hp} {ds : List D} {vs : List V} (r : Reps K m H ds vs) (lo hi : Option Int) : Reps K m H (cutD ds lo hi) (cutV vs lo hi) := by
  unfold cutD cutV
  rw [r.length]
  exact (r.drop _).take _
def rSlAll (K : PySem.W.Frag) : V → Option Int → Option Int → Hp → VK → Prop := fun x lo hi H Q => rSlL K x lo hi H Q ∨ rSlA K x lo hi H Q
theorem sl_all : SlR X (rSlAll X.K) := sl_list.or sl_tupA
theorem sl_okD {m : Lbl} {S S' : Sto} {H : Hp} {d z : D} {x : V} {lo hi : Option Int} {fr : Bool} {Q : VK} (s : RelS K m S H) (r : Rep K m H d x) (e : gSl fr d lo hi S = some (z, S')) (q : ∀ m' H' v, Ext m m' H H' → RelS K m' S' H' → Rep K m' H' z v → Q v H') :
    rSlAll K x lo hi H Q := by
  unfold gSl at e
  split at e
  · rename_i xs
    cases e
    obtain ⟨p, vs, rfl, hp, rr⟩ := tup_at r
    refine .inr ⟨p, vs, rfl, SqT.of hp, fun hw => ?_, fun _ l hl => ?_⟩
    · have hc : cutD xs lo hi = xs := by
        unfold cutD
        rw [rr.length] at hw
        rw [hw.1, hw.2]
        simp
      refine q m H _ (Ext.refl m H) s ?_
      rw [hc]; exact r
    · obtain ⟨y1, y2, y3⟩ := tup_new s (rr.cut lo hi) hl
      exact q m _ _ y1 y2 y3
  · rename_i xs
    obtain ⟨p, vs, od, rfl, _, _, hp, rr⟩ := tud_at r
    cases e
    refine .inr ⟨p, vs, rfl, hp, fun hw => ?_, fun hw l hl => ?_⟩
    · refine q m H _ (Ext.refl m H) s ?_
      rw [rr.length] at hw
      rw [if_pos hw]; exact r
    · obtain ⟨y1, y2, y3⟩ := tup_new s (rr.cut lo hi) hl
      rw [rr.length] at hw
      rw [if_neg hw] at q
      exact q m _ _ y1 y2 y3
  · obtain ⟨xs, e1, e⟩ := Option.map_eq_some_iff.mp e
    obtain ⟨p, vs, rfl, hp, rr⟩ := seqK s r e1
    refine .inl ⟨p, vs, rfl, hp, fun l hl => ?_⟩
    obtain ⟨m', y1, y2, y3⟩ := mk_new fr s (rr.cut lo hi) hl
    rw [e] at y2 y3
    exact q m' _ _ y1 y2 y3
theorem de_sl (fr : Bool) {fl fh : OF} (he : PE X e (teOf X.K f)) (hl : PO X lo (toOf X.K fl)) (hu : PO X hi (toOf X.K fh)) : PE X (.Subscript e (.Slice lo hi none p2) pos) (teOf X.K (eSl fr f fl fh)) :=
  pe_imp (pe_slice sl_all he hl hu) fun σ H Q ⟨m, L, S, d, S', hl, hs, e, q⟩ => by
    obtain ⟨⟨z, S1⟩, e1, e⟩ := Option.bind_eq_some_iff.mp e
    obtain ⟨⟨a, S2⟩, e2, e⟩ := Option.bind_eq_some_iff.mp e
    obtain ⟨⟨b, S3⟩, e3, e⟩ := Option.bind_eq_some_iff.mp e
    refine ⟨m, L, S, z, S1, hl, hs, e1, fun m1 H1 x x1 s1 r1 => ?_⟩
    refine ⟨m1, L, S1, a, S2, hl.ext x1, s1, e2, fun m2 H2 x2 s2 => ?_⟩
    refine ⟨m2, L, S2, b, S3, (hl.ext x1).ext x2, s2, e3, fun m3 H3 x3 s3 => ?_⟩
    exact sl_okD s3 (Rep.ext x3 _ _ (Rep.ext x2 _ _ r1)) e fun m4 H4 v x4 s4 r4 => q m4 H4 v (x1.trans (x2.trans (x3.trans x4))) s4 r4
def eRev (fr : Bool) (f : EF) : EF := fun L S => (f L S).bind fun p => (asK p.2 p.1).map fun xs => mkL fr xs.reverse p.2
theorem de_rev (fr : Bool) {k : Nat} {q1 q2 q3 : Pos} (he : PE X e (teOf X.K f)) : PE X (.Subscript e (.Slice none none (some (.UnaryOp .USub (.Constant (.int 1) k q1) q2)) q3) pos) (teOf X.K (eRev fr f)) :=
  pe_imp (pe_revL he) fun σ H Q ⟨m, L, S, d, S', hl, hs, e, q⟩ => by
    obtain ⟨⟨z, S1⟩, e1, e⟩ := Option.bind_eq_some_iff.mp e
    obtain ⟨xs, e2, e⟩ := Option.map_eq_some_iff.mp e
    refine ⟨m, L, S, z, S1, hl, hs, e1, fun m1 H1 x x1 s1 r1 => ?_⟩
    obtain ⟨p, vs, rfl, hp, rr⟩ := seqK s1 r1 e2
    refine ⟨p, vs, rfl, hp, fun l hl => ?_⟩
    obtain ⟨m', y1, y2, y3⟩ := mk_new fr s1 rr.reverse hl
    rw [e] at y2 y3
    exact q m' _ _ (x1.trans y1) y2 y3

/-! ### list(range(..)), tuple(range(..)) -/
def rgF1 (f : EF) : Loc → Sto → Option ((Int × Int) × Sto) := fun L S => (f L S).bind fun p => match p.1 with | .int n => some ((0, n), p.2) | _ => none
def rgF2 (f g : EF) : Loc → Sto → Option ((Int × Int) × Sto) := fun L S => (f L S).bind fun p => (g L p.2).bind fun q => match p.1, q.1 with | .int a, .int b => some ((a, b), q.2) | _, _ => none
def trOf (K : PySem.W.Frag) (f : Loc → Sto → Option ((Int × Int) × Sto)) : L2.St → Hp → (Int → Int → Hp → Prop) → Prop := fun σ H Q => ∃ m L S a b S', RelL K m H L σ ∧ RelS K m S H ∧ f L S = some ((a, b), S') ∧ ∀ m' H', Ext m m' H H' → RelS K m' S' H' → Q a b H'
theorem prg_imp {t t' : L2.St → Hp → (Int → Int → Hp → Prop) → Prop} (h : PRg X e t) (i : ∀ σ H Q, t' σ H Q → t σ H Q) : PRg X e t' := fun pins s σ H Q I q => h pins s σ H Q I (i σ H Q q)
theorem dr_1 {a : Expr} {p : Pos} (hm : X.mg "range" = none) (ha : PE X a (teOf X.K f)) (hg : Gl X "range" := by rfl) (na : starEach [a] X.env = (false, eval a X.env) :: starEach [] X.env := by rfl) : PRg X (.Call (.Name "range" p) [a] [] pos) (trOf X.K (rgF1 f)) :=
  prg_imp (prg_1 hg hm ha na) fun σ H Q ⟨m, L, S, i, j, S', hl, hs, e, q⟩ => by
    obtain ⟨⟨z, S1⟩, e1, e⟩ := Option.bind_eq_some_iff.mp e
    refine ⟨m, L, S, z, S1, hl, hs, e1, fun m1 H1 x x1 s1 r1 => ?_⟩
    cases z with
    | int n => cases e; exact ⟨_, rep_int r1, q m1 H1 x1 s1⟩
    | _ => cases e
theorem dr_2 {a b : Expr} {g : EF} {p : Pos} (hm : X.mg "range" = none) (ha : PE X a (teOf X.K f)) (hb : PE X b (teOf X.K g)) (hg : Gl X "range" := by rfl) (na : starEach [a, b] X.env = (false, eval a X.env) :: starEach [b] X.env := by rfl)
    (nb : starEach [b] X.env = (false, eval b X.env) :: starEach [] X.env := by rfl) (hp : (backTo pos (starEach [b] X.env)).any (·.1) = false := by rfl) : PRg X (.Call (.Name "range" p) [a, b] [] pos) (trOf X.K (rgF2 f g)) :=
  prg_imp (prg_2 hg hm ha hb na nb hp) fun σ H Q ⟨m, L, S, i, j, S', hl, hs, e, q⟩ => by
    obtain ⟨⟨z, S1⟩, e1, e⟩ := Option.bind_eq_some_iff.mp e
    obtain ⟨⟨w, S2⟩, e2, e⟩ := Option.bind_eq_some_iff.mp e
    refine ⟨m, L, S, z, S1, hl, hs, e1, fun m1 H1 x x1 s1 r1 => ?_⟩
    refine ⟨m1, L, S1, w, S2, hl.ext x1, s1, e2, fun m2 H2 y x2 s2 r2 => ?_⟩
    cases z with
    | int n =>
      cases w with
      | int k => cases e; exact ⟨_, _, rep_int r1, rep_int r2, q m2 H2 (x1.trans x2) s2⟩
      | _ => cases e
    | _ => cases e
noncomputable def eLRg (fr : Bool) (f : Loc → Sto → Option ((Int × Int) × Sto)) : EF := fun L S => (f L S).bind fun p => chk (RgOk p.1.1 p.1.2) (some (mkL fr (rngD p.1.1 (p.1.2 - p.1.1).toNat) p.2))
noncomputable def eTRg (f : Loc → Sto → Option ((Int × Int) × Sto)) : EF := fun L S => (f L S).bind fun p => chk (RgOk p.1.1 p.1.2) (some (.tup (rngD p.1.1 (p.1.2 - p.1.1).toNat), p.2))
theorem rng_reps {m : Lbl} {H : Hp} (a b : Int) : Reps K m H (rngD a (b - a).toNat) (rgV a b) := by
  unfold rngD rgV
  induction List.range (b - a).toNat with
  | nil => exact Reps.nil
  | cons i r ih => exact Reps.cons int_rep ih
theorem de_lrg (fr : Bool) {g : Loc → Sto → Option ((Int × Int) × Sto)} {p : Pos} (hc : X.calm = true) (hm : X.mg "list" = none) (he : PRg X e (trOf X.K g)) (hg : Gl X "list" := by rfl) (na : starEach [e] X.env = (false, eval e X.env) :: starEach [] X.env := by rfl) : PE X (.Call (.Name "list" p) [e] [] pos) (teOf X.K (eLRg fr g)) :=
  pe_imp (pe_listRg hc hg hm he na) fun σ H Q ⟨m, L, S, d, S', hl, hs, e, q⟩ => by
    obtain ⟨⟨⟨a, b⟩, S1⟩, e1, e⟩ := Option.bind_eq_some_iff.mp e
    refine ⟨m, L, S, a, b, S1, hl, hs, e1, fun m1 H1 x1 s1 => ?_⟩
    obtain ⟨hz, e⟩ := chk_some e
    refine ⟨hz, fun l hl => ?_⟩
    obtain ⟨m', y1, y2, y3⟩ := mk_new fr s1 (rng_reps a b) hl
    rw [Option.some.inj e] at y2 y3
    exact q m' _ _ (x1.trans y1) y2 y3
theorem de_trg {g : Loc → Sto → Option ((Int × Int) × Sto)} {p : Pos} (hc : X.calm = true) (hm : X.mg "tuple" = none) (he : PRg X e (trOf X.K g)) (hg : Gl X "tuple" := by rfl) (na : starEach [e] X.env = (false, eval e X.env) :: starEach [] X.env := by rfl) : PE X (.Call (.Name "tuple" p) [e] [] pos) (teOf X.K (eTRg g)) :=
  pe_imp (pe_tupRg hc hg hm he na) fun σ H Q ⟨m, L, S, d, S', hl, hs, e, q⟩ => by
    obtain ⟨⟨⟨a, b⟩, S1⟩, e1, e⟩ := Option.bind_eq_some_iff.mp e
    refine ⟨m, L, S, a, b, S1, hl, hs, e1, fun m1 H1 x1 s1 => ?_⟩
    obtain ⟨hz, e⟩ := chk_some e
    cases e
    refine ⟨hz, fun l hl => ?_⟩
    obtain ⟨y1, y2, y3⟩ := tup_new s1 (rng_reps a b) hl
    exact q m1 _ _ (x1.trans y1) y2 y3

/-! ### repr -/
def ShowOk (d : PyData) : Prop := d.canLay0 = true ∧ d.showable = true ∧ d.depth ≤ 64 ∧ d.shown.length ≤ sizeLine
noncomputable def gRepr : List D → Sto → Option (D × Sto)
  | [d], S => chk (ShowOk (pyS S d) ∧ (∃ xs, pyS S d = .list xs ∨ pyS S d = .tuple xs)) (some (.rep (pyS S d).shown, S))
  | _, _ => none
def rRepr (K : PySem.W.Frag) : List V → Hp → VK → Prop := fun xs H Q => ∃ (x : V) (d : PyData), xs = [x] ∧ Dp K H x d ∧ ShowOk d ∧ (∃ ds, d = .list ds ∨ d = .tuple ds) ∧ Q (.str d.shown) H
theorem call_repr (hg : X.A.guards = some []) (hu : X.A.units + 66 < cLine) : CallR X (.builtin "repr") (rRepr X.K) := by
  intro pins s σ H xs us Q I rv h
  obtain ⟨x, d, rfl, hd, ok, hs, q⟩ := h
  obtain ⟨u, rfl, rx⟩ := vals1 rv
  obtain ⟨as, r⟩ := Dp.reads I d x u hd rx
  have hr : ∃ a, u = Value.ref a := by
    obtain ⟨ds, rfl | rfl⟩ := hs
    · cases hd <;> exact ⟨_, rx⟩
    · cases hd <;> exact ⟨_, rx⟩
  obtain ⟨a, rfl⟩ := hr
  refine repr_of_reads' r ok.2.1 (PyData.noDict_hsm (PyData.hasDict_of_canLay d ok.1)) hg (by have := ok.2.2.1; omega) (fun _ _ e => e) (fun h' u tk hk => ?_) ok.2.2.2
  exact ⟨.str _, H, I.kept hk, ⟨_, rfl⟩, q⟩
theorem repr_ok : CallOk K (rRepr K) gRepr := by
  intro m S H ds d xs S' Q s r e q
  match ds, e with
  | [a], e =>
    obtain ⟨x, rfl, rx⟩ := one_of r
    obtain ⟨⟨ok, hs⟩, e⟩ := chk_some e
    cases e
    refine ⟨x, _, rfl, dp_res s rx ok.1, ok, ?_, q m H _ (Ext.refl m H) s rep_rep'⟩
    obtain ⟨xs, h | h⟩ := hs
    · exact ⟨xs, .inl h⟩
    · exact ⟨xs, .inr h⟩
  | [], e => cases e
  | _ :: _ :: _, e => cases e
end
end DS
namespace DS
open PySem PySem.Spec PyProof.Rows L2

/-! ### what leaves a def: the labels made inside are cut off, the fresh lists become frozen -/
def mapO {α β : Type} (f : α → Option β) : List α → Option (List β)
  | [] => some []
  | x :: xs => (f x).bind fun y => (mapO f xs).map (y :: ·)
def frzD (n : Nat) (S : Sto) : Nat → D → Option D
  | 0, _ => none
  | f + 1, .ref k => if k < n then some (.ref k) else match S[k]? with | some (.lst xs) => (mapO (frzD n S f) xs).map .lst | _ => none
  | f + 1, .tup xs => (mapO (frzD n S f) xs).map .tup
  | f + 1, .tud xs => (mapO (frzD n S f) xs).map .tud
  | f + 1, .lst xs => (mapO (frzD n S f) xs).map .lst
  | f + 1, .arg xs => (mapO (frzD n S f) xs).map .arg
  | _ + 1, d => some d
def frzK {κ : Type} (n : Nat) (S : Sto) (f : Nat) (kv : κ × D) : Option (κ × D) := (frzD n S f kv.2).map fun d => (kv.1, d)
def frzO (n : Nat) (S : Sto) (f : Nat) : Ob → Option Ob
  | .dead => some .dead
  | .lst xs => (mapO (frzD n S f) xs).map .lst
  | .dic kvs => (mapO (frzK n S f) kvs).map .dic
  | .dit kvs => (mapO (frzK n S f) kvs).map .dit
  | .dil kvs => (mapO (frzK n S f) kvs).map .dil
def cutR (n : Nat) (d : D) (S : Sto) : Option (D × Sto) := (frzD n S 12 d).bind fun d' => (mapO (frzO n S 12) (S.take n)).map fun S' => (d', S')
def Lbl.cut (m : Lbl) (n : Nat) : Lbl := ⟨m.l.take n, m.r⟩
theorem mapO_get {α β : Type} {f : α → Option β} : ∀ {xs : List α} {ys : List β}, mapO f xs = some ys → ys.length = xs.length ∧ ∀ (i : Nat) (y : β), ys[i]? = some y → ∃ x, xs[i]? = some x ∧ f x = some y
  | [], ys, e => by cases e; exact ⟨rfl, fun i y h => by simp at h⟩
  | x :: xs, ys, e => by
    obtain ⟨y, e1, e⟩ := Option.bind_eq_some_iff.mp e
    obtain ⟨r, e2, e⟩ := Option.map_eq_some_iff.mp e
    cases e
    obtain ⟨h1, h2⟩ := mapO_get e2
    refine ⟨by simp [h1], fun i z h => ?_⟩
    cases i with
    | zero => cases h; exact ⟨x, rfl, e1⟩
    | succ i => exact h2 i z (by simpa using h)
section
variable {K : PySem.W.Frag} {m : Lbl} {H : Hp} {S : Sto} {n : Nat}
theorem cut_lbl {i : Nat} {a : Addr} (e : (m.cut n).l[i]? = some (some a)) : i < n ∧ m.l[i]? = some (some a) := by
  have e : (m.l.take n)[i]? = some (some a) := e
  rw [List.getElem?_take] at e
  split at e
  · exact ⟨‹_›, e⟩
  · cases e
theorem NoLbl.cut {p : Addr} (h : NoLbl m p) : NoLbl (m.cut n) p := ⟨fun k e => h.1 k (cut_lbl e).2, h.2⟩
theorem reps_mapO {f : D → Option D} {H' : Hp} {m' : Lbl} (h : ∀ d v d', Rep K m H d v → f d = some d' → Rep K m' H' d' v) : ∀ {xs ys : List D} {vs : List V}, Reps K m H xs vs → mapO f xs = some ys → Reps K m' H' ys vs
  | [], ys, vs, r, e => by rw [r.of_nil]; cases e; exact Reps.nil
  | x :: xs, ys, vs, r, e => by
    obtain ⟨v, r', rfl, h1, h2⟩ := r.of_cons
    obtain ⟨y, e1, e⟩ := Option.bind_eq_some_iff.mp e
    obtain ⟨z, e2, e⟩ := Option.map_eq_some_iff.mp e
    cases e
    exact Reps.cons (h x v y h1 e1) (reps_mapO h h2 e2)
theorem repK_mapO {κ : Type} {n : Nat} {S : Sto} {f : Nat} {m' : Lbl} (h : ∀ d v d', Rep K m H d v → frzD n S f d = some d' → Rep K m' H d' v) : ∀ {xs ys : List (κ × D)} {vs : List (κ × V)}, RepKs K m H xs vs → mapO (frzK n S f) xs = some ys → RepKs K m' H ys vs
  | [], ys, vs, r, e => by
    have r : vs = [] := r
    subst r; cases e; exact rfl
  | x :: xs, ys, vs, r, e => by
    obtain ⟨v, r', rfl, h1, h2⟩ := r
    obtain ⟨y, e1, e⟩ := Option.bind_eq_some_iff.mp e
    obtain ⟨z, e2, e⟩ := Option.map_eq_some_iff.mp e
    obtain ⟨d, e3, e4⟩ := Option.map_eq_some_iff.mp e1
    cases e
    subst e4
    exact ⟨v, r', rfl, h x.2 v d h1 e3, repK_mapO h h2 e2⟩
theorem rep_frz (s : RelS K m S H) (hn : n ≤ S.length) : ∀ (f : Nat) (d : D) (v : V) (d' : D), Rep K m H d v → frzD n S f d = some d' → Rep K (m.cut n) H d' v
  | 0, d, v, d', _, e => by unfold frzD at e; cases e
  | f + 1, d, v, d', r, e => by
    cases d with
    | ref k =>
      have e : (if k < n then some (.ref k) else match S[k]? with | some (.lst xs) => (mapO (frzD n S f) xs).map .lst | _ => none) = some d' := e
      split at e
      · rename_i hk
        cases e
        unfold Rep at r ⊢
        refine ⟨?_, fun q eq => r.2 q (cut_lbl eq).2⟩
        show k < (m.l.take n).length
        rw [List.length_take, s.len]
        omega
      · rename_i hk
        split at e
        · rename_i xs hx
          obtain ⟨ys, e1, e⟩ := Option.map_eq_some_iff.mp e
          subst e
          obtain ⟨p, vs, g1, g2, g3⟩ := s.at_ k _ hx
          unfold Rep at r
          cases r.2 p g1
          unfold Rep
          refine ⟨p, vs, rfl, g2, ⟨fun j ej => ?_, fun hm => (s.rsv p hm).2 k g1⟩, reps_mapO (rep_frz s hn f) g3 e1⟩
          obtain ⟨h1, h2⟩ := cut_lbl ej
          have := s.inj j k p h2 g1
          omega
        · cases e
    | tup xs =>
      obtain ⟨ys, e1, e⟩ := Option.map_eq_some_iff.mp (show (mapO (frzD n S f) xs).map .tup = some d' from e)
      subst e
      unfold Rep at r ⊢
      obtain ⟨p, vs, rfl, hp, nl, rr⟩ := r
      exact ⟨p, vs, rfl, hp, nl.cut, reps_mapO (rep_frz s hn f) rr e1⟩
    | tud xs =>
      obtain ⟨ys, e1, e⟩ := Option.map_eq_some_iff.mp (show (mapO (frzD n S f) xs).map .tud = some d' from e)
      subst e
      unfold Rep at r ⊢
      obtain ⟨p, vs, od, rfl, hp, hd, nl, rr⟩ := r
      exact ⟨p, vs, od, rfl, hp, hd, nl.cut, reps_mapO (rep_frz s hn f) rr e1⟩
    | lst xs =>
      obtain ⟨ys, e1, e⟩ := Option.map_eq_some_iff.mp (show (mapO (frzD n S f) xs).map .lst = some d' from e)
      subst e
      unfold Rep at r ⊢
      obtain ⟨p, vs, rfl, hp, nl, rr⟩ := r
      exact ⟨p, vs, rfl, hp, nl.cut, reps_mapO (rep_frz s hn f) rr e1⟩
    | arg xs =>
      obtain ⟨ys, e1, e⟩ := Option.map_eq_some_iff.mp (show (mapO (frzD n S f) xs).map .arg = some d' from e)
      subst e
      unfold Rep at r ⊢
      obtain ⟨p, vs, rfl, hp, rr⟩ := r
      exact ⟨p, vs, rfl, hp.imp (fun ⟨z, nl⟩ => ⟨z, nl.cut⟩) id, reps_mapO (rep_frz s hn f) rr e1⟩
    | non => cases e; unfold Rep at r ⊢; exact r
    | bl _ => cases e; unfold Rep at r ⊢; exact r
    | int _ => cases e; unfold Rep at r ⊢; exact r
    | str _ => cases e; unfold Rep at r ⊢; exact r
    | rep _ => cases e; unfold Rep at r ⊢; exact r
    | nod =>
      cases e
      unfold Rep at r ⊢
      obtain ⟨p, e, hp, nl⟩ := r
      exact ⟨p, e, hp, nl.cut⟩
theorem cut_ok {m0 : Lbl} {H0 : Hp} {d d' : D} {v : V} {S' : Sto} (x : Ext m0 m H0 H) (h0 : m0.l.length = n) (s : RelS K m S H) (r : Rep K m H d v) (e : cutR n d S = some (d', S')) :
    Ext m0 (m.cut n) H0 H ∧ RelS K (m.cut n) S' H ∧ Rep K (m.cut n) H d' v := by
  have hn : n ≤ S.length := by rw [← s.len, ← h0]; exact x.len
  obtain ⟨z, e1, e⟩ := Option.bind_eq_some_iff.mp e
  obtain ⟨S2, e2, e⟩ := Option.map_eq_some_iff.mp e
  cases e
  obtain ⟨hl, hg⟩ := mapO_get e2
  rw [List.length_take, Nat.min_eq_left hn] at hl
  have hcl : (m.cut n).l.length = n := by
    show (m.l.take n).length = n
    rw [List.length_take, s.len, Nat.min_eq_left hn]
  refine ⟨⟨x.keep, x.stay, fun k a e => x.new k a (cut_lbl e).2, fun k hk => ?_, by rw [hcl, h0]; exact Nat.le_refl _, x.res, x.fix, x.frz⟩, ⟨by rw [hcl, hl], fun k o ho => ?_, fun i j a e1 e2 => s.inj i j a (cut_lbl e1).2 (cut_lbl e2).2, fun a ha => ⟨(s.rsv a ha).1, fun k e => (s.rsv a ha).2 k (cut_lbl e).2⟩⟩, rep_frz s hn 12 d v d' r e1⟩
  · have hk2 : k < n := by rw [← h0]; exact hk
    have : (m.cut n).l[k]? = m.l[k]? := by
      show (m.l.take n)[k]? = _
      rw [List.getElem?_take, if_pos hk2]
    rw [this]; exact x.old k hk
  · obtain ⟨ob, h1, h2⟩ := hg k o ho
    have hk2 : k < n := by
      have := (List.getElem?_eq_some_iff.mp ho).1
      omega
    rw [List.getElem?_take, if_pos hk2] at h1
    have ck : ∀ {a}, m.l[k]? = some a → (m.cut n).l[k]? = some a := fun e => by
      show (m.l.take n)[k]? = _
      rw [List.getElem?_take, if_pos hk2]; exact e
    have q := s.at_ k ob h1
    cases ob with
    | dead => cases h2; exact ck q
    | lst xs =>
      obtain ⟨ys, e3, h2⟩ := Option.map_eq_some_iff.mp (show (mapO (frzD n S 12) xs).map .lst = some o from h2)
      subst h2
      obtain ⟨p, vs, g1, g2, g3⟩ := q
      exact ⟨p, vs, ck g1, g2, reps_mapO (rep_frz s hn 12) g3 e3⟩
    | dic xs =>
      obtain ⟨ys, e3, h2⟩ := Option.map_eq_some_iff.mp (show (mapO (frzK n S 12) xs).map .dic = some o from h2)
      subst h2
      obtain ⟨p, vs, g1, g2, g3⟩ := q
      exact ⟨p, vs, ck g1, g2, repK_mapO (rep_frz s hn 12) g3 e3⟩
    | dit xs =>
      obtain ⟨ys, e3, h2⟩ := Option.map_eq_some_iff.mp (show (mapO (frzK n S 12) xs).map .dit = some o from h2)
      subst h2
      obtain ⟨p, vs, g1, g2, g3⟩ := q
      exact ⟨p, vs, ck g1, g2, repK_mapO (rep_frz s hn 12) g3 e3⟩
    | dil xs =>
      obtain ⟨ys, e3, h2⟩ := Option.map_eq_some_iff.mp (show (mapO (frzK n S 12) xs).map .dil = some o from h2)
      subst h2
      obtain ⟨p, vs, g1, g2, g3⟩ := q
      exact ⟨p, vs, ck g1, g2, repK_mapO (rep_frz s hn 12) g3 e3⟩
end

/-! ### room, with the guards -/
structure RoomG (k : Nat) (A : Around) : Prop where
  r : Room k A
  g : A.guards = some []
theorem RoomG.mono {j k : Nat} {A : Around} (r : RoomG k A) (h : j ≤ k) : RoomG j A := ⟨r.r.mono h, r.g⟩
theorem RoomG.deeper {k : Nat} {A : Around} (r : RoomG (k + 1) A) (env : Env) : RoomG k (A.deeper env) := ⟨r.r.deeper env, r.g⟩
theorem RoomG.u66 {k : Nat} {A : Around} (r : RoomG k A) : A.units + 66 < cLine := by have := r.r.un; omega
theorem RoomG.u65 {k : Nat} {A : Around} (r : RoomG k A) : A.units + 65 < cLine := by have := r.r.un; omega
theorem RoomG.u64 {k : Nat} {A : Around} (r : RoomG k A) : A.units + 64 < cLine := by have := r.r.un; omega
theorem RoomG.u1 {k : Nat} {A : Around} (r : RoomG k A) : A.units + 1 < cLine := by have := r.r.un; omega

/-! ### a def -/
abbrev FF := List D → Sto → Option (D × Sto)
def outF (cut : Bool) (n : Nat) : Flo × Loc × Sto → Option (D × Sto)
  | (.rt d, _, S) => if cut = true then cutR n d S else some (d, S)
  | (.nx, _, S) => if cut = true then cutR n .non S else some (.non, S)
  | _ => none
def fnF (np tot : Nat) (cut : Bool) (body : SF) : FF := fun ds S => if ds.length = np then (body (ds.map some ++ List.replicate (tot - np) none) S).bind (outF cut S.length) else none
structure FnD (P : Program) (w : World) (K : PySem.W.Frag) (mg : Str → Option Value) (base : Heap) (k : Nat) (f : Addr) (fd : FuncData) (ps : List Str) (F : FF) : Prop where
  len : ∀ ds S r, F ds S = some r → ds.length = ps.length
  run : ∀ (A : Around) (outer : List Env) (s : Shared) (H : Hp) (args : Args) (us : List Value) (vs : List V) (m : Lbl) (S : Sto) (ds : List D) (d : D) (S' : Sto) (Q : VK), RoomG k A → Env0 P w K mg base A outer s H → BindsTo s fd args (ps.zip us) → Vals vs us →
    RelS K m S H → Reps K m H ds vs → F ds S = some (d, S') → (∀ m' H' v, Ext m m' H H' → RelS K m' S' H' → Rep K m' H' d v → Q v H') → codeAny (model P w) A (.call (.ref f) args) (CR CX0 outer P w H s Q E0) s
theorem FnD.mono {P : Program} {w : World} {K : PySem.W.Frag} {mg : Str → Option Value} {base : Heap} {j k : Nat} {f : Addr} {fd : FuncData} {ps : List Str} {F : FF} (h : FnD P w K mg base j f fd ps F) (hj : j ≤ k) : FnD P w K mg base k f fd ps F :=
  ⟨h.len, fun A outer s H args us vs m S ds d S' Q hr => h.run A outer s H args us vs m S ds d S' Q (hr.mono hj)⟩
section
variable {P : Program} {w : World} {K : PySem.W.Frag} {mg : Str → Option Value} {base : Heap}
theorem relL_start {N : List Str} {m : Lbl} {H : Hp} {ds : List D} {vs : List V} {np tot : Nat} (ht : N.length = tot) (hp : ds.length = np) (r : Reps K m H ds vs) : RelL K m H (ds.map some ++ List.replicate (tot - np) none) (L2.start N vs) := by
  unfold L2.start
  refine ⟨by simp [r.length, ht, hp], fun i d e => ?_⟩
  by_cases hi : i < ds.length
  · rw [List.getElem?_append_left (by simpa using hi), List.getElem?_map] at e
    obtain ⟨d', e1, e2⟩ := Option.map_eq_some_iff.mp e
    cases e2
    obtain ⟨v, h1, h2⟩ := r.get e1
    refine ⟨v, ?_, h2⟩
    rw [List.getElem?_append_left (by simp [r.length]; exact hi), List.getElem?_map, h1]
    rfl
  · rw [List.getElem?_append_right (by simp; omega)] at e
    rw [List.getElem?_replicate] at e
    split at e <;> cases e
theorem fnd_of {x qual : Str} {st : Stmt} {f : Addr} {fd : FuncData} {N ps : List Str} {k np tot : Nat} {cut : Bool} {body : SF} (F : Fun K x qual st f fd) (Sc : FnScope N ps (defScope st)) (hn : ps.length = np) (ht : N.length = tot)
    (hbody : ∀ (cdv : Value) (A : Around) (outer : List Env) (s : Shared) (H : Hp), RoomG k (A.deeper (envOfC qual (defScope st) s.heap.objs.size f cdv)) →
      PSs (cxOf CX0 P w K mg base N qual (defScope st) f cdv A outer s H E0).nox (defBody st) (tsOf K body)) : FnD P w K mg base (k + 1) f fd ps (fnF np tot cut body) := by
  obtain ⟨oc, od, kV, doc, pm, an, cdv, ct, osl, rfl, lk, hcd⟩ := F.ex
  have hlen : ∀ ds S r, fnF np tot cut body ds S = some r → ds.length = ps.length := fun ds S r e => by
    unfold fnF at e
    split at e
    · omega
    · cases e
  refine ⟨hlen, fun A outer s H args us vs m S ds d S' Q hr e0 hb r hs hd e q => ?_⟩
  have hl : vs.length = ps.length := by rw [hd.length]; exact hlen _ _ _ e
  have KX : K.In s.heap := e0.mod.kin.keeps fun b o e => (e0.bs b o e).1
  have lim : s.heap.NoLimit := e0.mod.nolimit.keeps fun b o e => (e0.bs b o e).1
  have hkind : ∀ y ∈ ps.zip us, (defScope st).names.lookup y.1 = some .local ∨ ((defScope st).names.lookup y.1 = some .cell ∧ ((cellsFrom (s.heap.objs.size + 1) (defScope st).names []).lookup y.1).isSome = true) := fun ⟨n, v⟩ hy => by
    rcases Sc.par n (List.of_mem_zip hy).1 with q | q
    · exact .inl q
    · exact .inr ⟨q, PySem.W.cellsFrom_some _ _ _ (.inl q)⟩
  refine codeAny_call_function hr.r.depth (KX _ _ lk) rfl Sc.co Sc.gen rfl (PySem.W.codeRec_of KX hcd) (hb _ _ _ _ ?_)
  refine wpAny_newFunctionEnv_cells Sc.kind hkind fun env he s1 x => ?_
  subst he
  refine ⟨lim.keeps x.toInCall.keep, codeAny_func ?_⟩
  have ht2 := hbody cdv A outer s H (hr.deeper _)
  have I : Inv (cxOf CX0 P w K mg base N qual (defScope st) f cdv A outer s H E0) [] (L2.start N vs) H s1 := inv_start Sc hr.r.hd e0 hl r x
  unfold fnF at e
  split at e
  · rename_i hnp
    obtain ⟨⟨fl, L1, S1⟩, e1, e⟩ := Option.bind_eq_some_iff.mp e
    have hm0 : m.l.length = S.length := hs.len
    have done : ∀ {m' : Lbl} {H' : Hp} {v : V} {z : D}, outF cut S.length (.rt z, L1, S1) = some (d, S') → Ext m m' H H' → RelS K m' S1 H' → Rep K m' H' z v → Q v H' := fun {m' H' v z} e x s r => by
      unfold outF at e
      cases cut with
      | false =>
        cases e
        exact q m' H' v x s r
      | true =>
        obtain ⟨y1, y2, y3⟩ := cut_ok x hm0 s r e
        exact q _ H' v y1 y2 y3
    have ts : tsOf K body { nx := fun _ H' => Q .non H', rt := Q } (L2.start N vs) H := by
      refine ⟨m, _, S, fl, L1, S1, relL_start ht hnp hd, hs, e1, ?_⟩
      cases fl with
      | nx =>
        intro m' σ' H' x l s
        exact done (z := .non) e x s non_rep
      | rt z =>
        intro m' H' v x s r
        exact done e x s r
      | bk => cases e
      | ct => cases e
    refine wpAny_mono (ht2.nox.run [] s1 (L2.start N vs) H _ I ts) (fun fl s' hs => ?_) fun e s' hs => hs
    have fin : ∀ {σ' : L2.St} {H' : Hp} {v : V} {u : Value}, Inv (cxOf CX0 P w K mg base N qual (defScope st) f cdv A outer s H E0) [] σ' H' s' → RelV v u → Q v H' → CE outer P w H s Q u s' :=
      fun {σ' H' v u} J rv q => ⟨v, H', J.os, J.bare, J.base, J.hok, rv, q⟩
    cases fl with
    | ret u =>
      obtain ⟨v, σ', H', J, rv, q⟩ := hs
      exact fin J rv q
    | next =>
      obtain ⟨σ', H', J, q⟩ := hs
      exact fin (v := V.non) (u := Value.none) J rfl q
    | brk =>
      obtain ⟨_, _, _, q⟩ := hs
      exact False.elim q
    | cont =>
      obtain ⟨_, _, _, q⟩ := hs
      exact False.elim q
  · cases e
end

/-! ### a call of a def -/
section
variable {X : Cx} {k : Nat} {f : Addr} {fd : FuncData} {ps : List Str} {F : FF} {x : Str} {p pos : Pos} {e : Expr} {es : List Expr} {fa : AF}
theorem run_fnD {pins : List (Addr × Obj)} {σ : L2.St} {H : Hp} {s : Shared} {Q : VK} {us : List Value} {vs : List V} {m : Lbl} {S S' : Sto} {ds : List D} {d : D} (hF : FnD X.prog X.w X.K X.mg X.base k f fd ps F) (hr : RoomG k X.A) (hb : Binds X.K fd ps [])
    (I : Inv X pins σ H s) (r : Vals vs us) (hs : RelS X.K m S H) (hd : Reps X.K m H ds vs) (h : F ds S = some (d, S')) (q : ∀ m' H' v, Ext m m' H H' → RelS X.K m' S' H' → Rep X.K m' H' d v → Q v H') : wpAny (model X.prog X.w) X.A (call (.ref f) us) (EP X pins σ Q) X.xe s := by
  have hl : us.length = ps.length := by rw [← r.length, hd.length]; exact hF.len _ _ _ h
  have b := hb s us I.kIn (by rw [List.append_nil]; exact hl)
  rw [List.append_nil] at b
  refine wpAny_call (codeAny_mono (hF.run X.A X.stack s H ⟨us, []⟩ us vs m S ds d S' Q hr I.env0 b r hs hd h q) fun r s' hq => ?_)
  cases r with
  | error e => exact False.elim hq
  | ok fl =>
    cases fl with
    | ret u => exact I.after hq
    | next => exact False.elim hq
    | brk => exact False.elim hq
    | cont => exact False.elim hq
theorem de_call (hF : FnD X.prog X.w X.K X.mg X.base k f fd ps F) (hr : RoomG k X.A) (hm : X.mg x = some (.ref f)) (hk : PySem.W.keepIn X.K (.ref f) = true) (hb : Binds X.K fd ps []) (ha : PA X (e :: es) (taOf X.K fa)) (hg : Gl X x := by rfl)
    (hdb : (x == ("__debug__" : Str)) = false := by decide) (he : starEach (e :: es) X.env = (false, eval e X.env) :: starEach es X.env := by rfl) (hpl : (backTo pos (starEach es X.env)).any (·.1) = false := by rfl) :
    PE X (.Call (.Name x p) (e :: es) [] pos) (teOf X.K (eFun F fa)) := by
  refine ⟨fun pins s σ H Q I h => ?_⟩
  obtain ⟨m, L, S, d, S', hl, hs, h, q⟩ := h
  obtain ⟨⟨ds, S1⟩, e1, h⟩ := Option.bind_eq_some_iff.mp h
  refine wpAny_Call_Name_kw (ld_glob I hg hm ?_ hdb)
  refine PySem.W.callWith_K (h₀ := X.base) I.ok.mod.kin hk (thn (ha.run pos pins s σ H (fun vs H1 => ∃ m1, Ext m m1 H H1 ∧ RelS X.K m1 S1 H1 ∧ Reps X.K m1 H1 ds vs) I ⟨m, L, S, ds, S1, hl, hs, e1, fun m1 H1 vs x1 s1 r1 => ⟨m1, x1, s1, r1⟩⟩) fun us s1 ⟨vs, H1, I1, r, m1, x1, s1', r1⟩ => ⟨I1.kIn, ?_⟩) he hpl
  exact run_fnD hF hr hb I1 r s1' r1 h fun m2 H2 v x2 s2 r2 => q m2 H2 v (x1.trans x2) s2 r2
theorem de_call0 (hF : FnD X.prog X.w X.K X.mg X.base k f fd ps F) (hr : RoomG k X.A) (hm : X.mg x = some (.ref f)) (hk : PySem.W.keepIn X.K (.ref f) = true) (hb : Binds X.K fd ps []) (hg : Gl X x := by rfl)
    (hdb : (x == ("__debug__" : Str)) = false := by decide) : PE X (.Call (.Name x p) [] [] pos) (teOf X.K (eFun F aNil)) := by
  refine ⟨fun pins s σ H Q I h => ?_⟩
  obtain ⟨m, L, S, d, S', hl, hs, h, q⟩ := h
  obtain ⟨⟨ds, S1⟩, e1, h⟩ := Option.bind_eq_some_iff.mp h
  cases e1
  refine wpAny_Call_Name_kw (ld_glob I hg hm ?_ hdb)
  exact PySem.W.callWith_K0 I.kIn hk (run_fnD (us := []) hF hr hb I .nil hs Reps.nil h q)
end
end DS
namespace DS
open PySem PySem.Spec PyProof.Rows L2

/-- the law's own answer -/
def IsTrueF (F : FF) (ns : List Int) : Prop := ∃ S', F [.arg (ns.map .int)] [] = some (.bl true, S')
section
variable {P : Program} {w : World} {K : PySem.W.Frag} {mg mb : Str → Option Value} {k : Nat} {fa a : Addr} {fd : FuncData} {x : Str} {F : FF} {s₁ : Shared} {vs : List Value} {ns : List Int}
theorem arg_rep {H : Hp} (hS : SqL K H a (ns.map V.int)) : Reps K ⟨[], []⟩ H [.arg (ns.map .int)] [.ref a] := by
  refine Reps.cons ?_ Reps.nil
  unfold Rep
  have hr : Reps K ⟨[], []⟩ H (ns.map .int) (ns.map V.int) := by
    induction ns with
    | nil => exact Reps.nil
    | cons n r ih =>
      exact Reps.cons int_rep (by
        have : ∀ r : List Int, Reps K ⟨[], []⟩ H (r.map .int) (r.map V.int) := fun r => by
          induction r with
          | nil => exact Reps.nil
          | cons n r ih => exact Reps.cons int_rep ih
        exact this r)
  refine ⟨a, _, rfl, ?_, hr⟩
  rcases hS with h | h
  · exact .inl ⟨h, fun k e => by simp at e, by simp⟩
  · exact .inr h
theorem empty_rel {H : Hp} : RelS K ⟨[], []⟩ [] H := ⟨rfl, fun k o e => by simp at e, fun i j a e => by simp at e, fun a h => by simp at h⟩
/-- the call of the law's def behind the top -/
theorem law_callD (KX : K.In s₁.heap) (hns : s₁.heap.Ns mainGlobals mg) (hb : s₁.heap.Ns builtinsNs mb) (hbb : ∀ x : Str, x ≠ "__name__" → mb x = bootBuiltins x) (hlim : s₁.heap.NoLimit) (hg : s₁.gens = #[])
    (ha : s₁.heap.get? a = some { cls := .type "list", data := .seq vs.toArray }) (hi : IntsAre vs ns) (hl : ns.length ≤ sizeLine) (hr : RoomG k callerA)
    (hF : ∀ base : Heap, K.In base → base.Ns mainGlobals mg → FnD P w K mg base k fa fd [x] F) (hbind : ∀ (s : Shared) (u : Value), BindsTo s fd ⟨[u], []⟩ [(x, u)]) (ht : IsTrueF F ns) :
    codeAny (model P w) callerA (.call (.ref fa) ⟨[.ref a], []⟩) (fun r s' => r = .ok (.ret (.bool true)) ∧ OldK s₁.heap s'.heap ∧ s'.os = s₁.os ∧ AllBare s'.gens) s₁ := by
  obtain ⟨S', ht⟩ := ht
  have rv := vals_ints hi
  -- the tracked part: the script alone, or nothing
  have core : ∀ H : Hp, Only H → SqL K H a (ns.map V.int) → HOk P w H s₁.heap → (∀ b, H b ≠ none → b = a) → (H a ≠ none → K.lookup a = none) →
      codeAny (model P w) callerA (.call (.ref fa) ⟨[.ref a], []⟩) (fun r s' => r = .ok (.ret (.bool true)) ∧ OldK s₁.heap s'.heap ∧ s'.os = s₁.os ∧ AllBare s'.gens) s₁ := by
    intro H hO hS hok hA hK
    have off : ∀ {b : Addr} {o : Obj}, s₁.heap.get? b = some o → (b = a → H a ≠ none → False) → H b = none := fun {b o} e n => by
      cases q : H b with
      | none => rfl
      | some u =>
        have e' := hA b (by rw [q]; simp)
        exact (n e' (by rw [← e', q]; simp)).elim
    have nsK : ∀ {b : Addr} {m : Str → Option Value}, s₁.heap.Ns b m → (hidT s₁.heap H).Ns b m := fun {b m} ⟨o, es, ep, e, d, r⟩ => ⟨o, es, ep, hidT_get e (off e fun z _ => by
      subst z
      rw [ha] at e
      cases e
      exact nomatch (show Data.seq vs.toArray _ = Data.dict es ep from d)), d, r⟩
    have hKb : K.In (hidT s₁.heap H) := fun b o e => hidT_get (KX b o e) (off (KX b o e) fun z h => by
      subst z
      rw [hK h] at e
      cases e)
    have hM : Mod K mg (hidT s₁.heap H) := ⟨hKb, nsK hns, ⟨mb, nsK hb, hbb⟩, let ⟨mc, h1, h2⟩ := hlim; ⟨mc, nsK h1, h2⟩⟩
    have e0 : Env0 P w K mg (hidT s₁.heap H) callerA [] s₁ H := ⟨rfl, hM, fun b o e => of_hidT e, Nat.le_of_eq (hidT_size _ _), trivial, fun b hb => absurd (show b ∈ ([] : List Addr) from hb) (by simp), hok, .of_eq hg⟩
    refine codeAny_mono ((hF _ hKb (nsK hns)).run callerA [] s₁ H ⟨[.ref a], []⟩ [.ref a] [.ref a] ⟨[], []⟩ [] _ _ _ (fun v _ => v = .bl true) hr e0 (hbind s₁ (.ref a)) (.cons rfl .nil) empty_rel (arg_rep hS) ht fun m' H' v _ _ r => rep_bl r) fun r s' h => ?_
    cases r with
    | error e => exact False.elim h
    | ok fl =>
      cases fl with
      | next => exact False.elim h
      | brk => exact False.elim h
      | cont => exact False.elim h
      | ret u =>
        obtain ⟨v, H', os, bare, un, hok', r', rfl⟩ := h
        obtain rfl : u = Value.bool true := r'
        refine ⟨rfl, OldK.of_keep fun b o e => ?_, os, bare⟩
        cases q : H b with
        | none => exact un.keep b o e q (by intro z; exact absurd (show b ∈ ([] : List Addr) from z) (by simp)) (by simp)
        | some u =>
          rcases hO b with z | ⟨ob, xs, z⟩
          · rw [q] at z; cases z
          · obtain ⟨e1, _⟩ := hok b _ z
            obtain ⟨e2, _⟩ := hok' b _ (un.frzs b ob _ z)
            rw [e] at e1; cases e1
            exact e2
  cases hk : K.lookup a with
  | some o =>
    have e := KX a o hk
    rw [ha] at e
    cases e
    refine core (fun _ => none) (fun _ => .inl rfl) (.inr ⟨_, vs.toArray, _, hk, rfl, rfl, rfl, by rw [List.size_toArray, hi.length]; exact hl, by simpa using rv⟩) (fun b u z => nomatch (show (none : Option HO) = some u from z)) (fun b z => absurd rfl z) fun z => absurd rfl z
  | none =>
    refine core (upd (fun _ => none) a (.frz { cls := .type "list", data := .seq vs.toArray } (.lst (ns.map V.int)))) (fun b => ?_) (.inl (.inr ⟨{ cls := .type "list", data := .seq vs.toArray }, upd_same⟩)) (fun b u z => ?_) (fun b z => ?_) fun _ => hk
    · by_cases hb : b = a
      · subst hb; exact .inr ⟨_, _, upd_same⟩
      · exact .inl (upd_ne hb)
    · by_cases hb : b = a
      · subst hb
        rw [upd_same] at z
        cases z
        exact ⟨ha, by rw [List.length_map]; exact hl, vs, _, rv, ha⟩
      · rw [upd_ne hb] at z
        cases z
    · by_cases hb : b = a
      · exact hb
      · exact absurd (upd_ne hb) z
end
/-- what the head leaves, from the law's def as a plain function -/
theorem walk_ofD {l : PySem.W.OpenLaw} {n k : Nat} {q : Program} {loose : List Str} {XP : (Str → Option Value) → Heap → Prop} {YP : World → Heap → Prop} {d : DefRec} {K : Params → PySem.W.Frag} {x : Str} {F : FF}
    (hn : l.most = some n) (hn2 : n ≤ sizeLine) (hdf : d.params.defaults = []) (hr : RoomG k callerA) (hY : ∀ (w : World) (h : Heap), YP w h → (K w.params).In h)
    (hF : ∀ (w : World) (mg : Str → Option Value) (fa : Addr) (h : Heap), (K w.params).In h → h.Ns mainGlobals mg → mg d.name = some (.ref fa) →
      ∃ fd : FuncData, (∀ (s : Shared) (u : Value), BindsTo s fd ⟨[u], []⟩ [(x, u)]) ∧ ∀ base : Heap, (K w.params).In base → base.Ns mainGlobals mg → FnD l.prog w (K w.params) mg base k fa fd [x] F)
    (ht : ∀ ns : List Int, ns.length ≤ n → IsTrueF F ns) : PySem.W.WalkO q loose XP YP l.row.toRowW d [] (fun f vs => PySem.call f vs) := by
  refine Att.attach_call hn hdf fun w s₀ s₁ mg mb fa o pm cd doc a vs ns G Y ho hd hcd hmg hobj hints hlen hg => ?_
  have KX := hY w _ Y
  obtain ⟨fd, hb, hF⟩ := hF w mg fa _ KX G.T.g hmg
  exact law_callD KX G.T.g G.T.b G.T.builtins G.T.nolimit hg hobj hints (Nat.le_trans hlen hn2) hr hF hb (ht ns hlen)
end DS
namespace DS
open PySem PySem.Spec PyProof.Rows L2

/-! ### odd values: {}, isinstance, != an empty one, repr of anything -/
section
variable {X : Cx} {K : PySem.W.Frag} {pos : Pos}
def eNod : EF := fun _ S => some (.nod, S)
theorem de_nod : PE X (.Dict [] [] pos) (teOf X.K eNod) := pe_imp pe_dnewK fun σ H Q ⟨m, L, S, d, S', hl, hs, e, q⟩ => fun p hp => by
  cases e
  refine q m _ _ (Ext.laid hs hp) (hs.laid hp) ?_
  unfold Rep
  exact ⟨p, rfl, upd_same, hs.fresh hp⟩

inductive Cl3 where
  | tup | int | bool | str | lst | dct
def Cl3.nm : Cl3 → String
  | .tup => "tuple" | .int => "int" | .bool => "bool" | .str => "str" | .lst => "list" | .dct => "dict"
def isiD : Cl3 → D → Option Bool
  | _, .ref _ => none
  | .tup, .tup _ => some true
  | .tup, .tud _ => some true
  | .int, .int _ => some true
  | .int, .bl _ => some true
  | .bool, .bl _ => some true
  | .str, .str _ => some true
  | .str, .rep _ => some true
  | .lst, .lst _ => some true
  | .lst, .arg _ => some true
  | .dct, .nod => some true
  | _, _ => some false
def eIsi (c : Cl3) (f : EF) : EF := fun L S => (f L S).bind fun p => (isiD c p.1).bind fun b => some (.bl b, p.2)
theorem isi_ok {m : Lbl} {H : Hp} {d : D} {x : V} {c : Cl3} {b : Bool} (r : Rep K m H d x) (e : isiD c d = some b) : ∃ t : String, TyX K H x (.type t) ∧ kitB t c.nm = some b := by
  cases d with
  | non => cases rep_non r; exact ⟨_, .base .non, by cases c <;> cases e <;> decide +kernel⟩
  | bl k => cases rep_bl r; exact ⟨_, .base (.bl k), by cases c <;> cases e <;> decide +kernel⟩
  | int k => cases rep_int r; exact ⟨_, .base (.int k), by cases c <;> cases e <;> decide +kernel⟩
  | str k => cases rep_str r; exact ⟨_, .base (.str k), by cases c <;> cases e <;> decide +kernel⟩
  | rep k => cases rep_rep r; exact ⟨_, .base (.str k), by cases c <;> cases e <;> decide +kernel⟩
  | tup xs => obtain ⟨p, vs, rfl, hp, _⟩ := tup_at r; exact ⟨_, .base (.tup hp), by cases c <;> cases e <;> decide +kernel⟩
  | tud xs => obtain ⟨p, vs, od, rfl, hp, _⟩ := tud_at r; exact ⟨_, .fTuple hp, by cases c <;> cases e <;> decide +kernel⟩
  | lst xs =>
    unfold Rep at r
    obtain ⟨p, vs, rfl, hp, _⟩ := r
    exact ⟨_, .base (.lst hp), by cases c <;> cases e <;> decide +kernel⟩
  | arg xs =>
    unfold Rep at r
    obtain ⟨p, vs, rfl, hp, _⟩ := r
    refine ⟨"list", ?_, by cases c <;> cases e <;> decide +kernel⟩
    rcases hp with ⟨h | ⟨o, h⟩, _⟩ | ⟨o, its, n, h1, h2, _⟩
    · exact .base (.lst h)
    · exact .base (.frz h)
    · exact .kList h1 h2
  | ref k => cases c <;> cases e
  | nod =>
    unfold Rep at r
    obtain ⟨p, rfl, hp, _⟩ := r
    exact ⟨_, .base (.dK hp), by cases c <;> cases e <;> decide +kernel⟩
theorem de_isi {e : Expr} {T : Str} {p p2 : Pos} {f : EF} (c : Cl3) (hm : X.mg "isinstance" = none) (hv : bootBuiltins "isinstance" = some (.builtin "isinstance")) (hm2 : X.mg T = none) (hv2 : bootBuiltins T = some (.type c.nm)) (he : PE X e (teOf X.K f))
    (hg : Gl X "isinstance" := by rfl) (hg2 : Gl X T := by rfl) (hn2 : T ≠ "__name__" := by decide) (hd2 : (T == ("__debug__" : Str)) = false := by decide)
    (h1 : starEach [e, .Name T p2] X.env = (false, eval e X.env) :: starEach [.Name T p2] X.env := by rfl) (h2 : starEach [.Name T p2] X.env = (false, eval (.Name T p2) X.env) :: starEach [] X.env := by rfl)
    (hpl : (backTo pos (starEach [.Name T p2] X.env)).any (·.1) = false := by rfl) : PE X (.Call (.Name "isinstance" p) [e, .Name T p2] [] pos) (teOf X.K (eIsi c f)) :=
  pe_imp (pe_callB call_isi hg hm hv (pa_cons he (pa_cons (pe_bltn (v := .ty c.nm) hg2 hm2 hv2 rfl hn2 hd2) pa_nil h2) h1) (he := h1) (hpl := hpl)) fun σ H Q ⟨m, L, S, d, S', hl, hs, e, q⟩ => by
    obtain ⟨⟨z, S1⟩, e1, e⟩ := Option.bind_eq_some_iff.mp e
    obtain ⟨b, e2, e⟩ := Option.bind_eq_some_iff.mp e
    cases e
    refine ⟨m, L, S, z, S1, hl, hs, e1, fun m1 H1 x x1 s1 r1 => ?_⟩
    obtain ⟨t, ty, k⟩ := isi_ok r1 e2
    exact ⟨x, .ty c.nm, .type t, .type c.nm, b, rfl, .ty _, ty, kit_ty k, q m1 H1 _ x1 s1 bl_rep⟩

/-! ### != (), != [] -/
def gNeE : D → D → Sto → Option (D × Sto)
  | .tup xs, .tup [], S => some (.bl (!xs.isEmpty), S)
  | .lst (_ :: _), .lst [], S => some (.bl true, S)
  | a, b, S => gNe a b S
def rNeE (K : PySem.W.Frag) : R2 := fun x y H Q => ∃ (p q : Addr) (vs : List V), x = .ref p ∧ y = .ref q ∧ ((SqT K H p vs ∧ SqT K H q []) ∨ (vs ≠ [] ∧ SqL K H p vs ∧ SqL K H q [])) ∧ Q (.bl (!vs.isEmpty)) H
theorem op_neE0 (hu : X.A.units + 64 < cLine) : OpR X (compareOp .NotEq) (rNeE X.K) := by
  intro pins s σ H x y v u Q I rx ry h
  obtain ⟨p, q, vs, rfl, rfl, h, hq⟩ := h
  cases (show v = Value.ref p from rx)
  cases (show u = Value.ref q from ry)
  rcases h with ⟨h1, h2⟩ | ⟨hne, h1, h2⟩
  · obtain ⟨i1, r1, ⟨o1, e1, c1, n1, d1⟩, _⟩ := I.tuple h1
    obtain ⟨i2, r2, ⟨o2, e2, c2, n2, d2⟩, _⟩ := I.tuple h2
    cases r2
    have l1 : i1.length = vs.length := r1.length.symm
    refine SeqAt.RcNeAt.tuples (e := fun _ => true) ⟨o1, e1, c1, n1, d1⟩ ⟨o2, e2, c2, n2, d2⟩ (by omega) (fun j a b => absurd b (by simp)) X.prog X.w _ _ ⟨.bl _, H, I, rfl, ?_⟩
    have : (!((List.range (min i1.toArray.size ([] : List Value).toArray.size)).all (fun _ => true) && i1.toArray.size == ([] : List Value).toArray.size)) = !vs.isEmpty := by
      cases vs with
      | nil => cases i1 with
        | nil => rfl
        | cons a b => simp at l1
      | cons v vs => cases i1 with
        | nil => simp at l1
        | cons a b => simp
    rw [this]
    exact hq
  · obtain ⟨i1, r1, ⟨o1, n1, e1, c1, _, d1⟩, _⟩ := I.list h1
    obtain ⟨i2, r2, ⟨o2, n2, e2, c2, _, d2⟩, _⟩ := I.list h2
    cases r2
    have l1 : i1.length = vs.length := r1.length.symm
    cases vs with
    | nil => exact absurd rfl hne
    | cons v vs =>
      refine SeqAt.RcNeAt.lists_lengths ⟨o1, e1, c1, n1, d1⟩ ⟨o2, e2, c2, n2, d2⟩ (by cases i1 <;> simp at l1 ⊢) (by omega) X.prog X.w _ _ ⟨.bl _, H, I, rfl, hq⟩
def rNeX (K : PySem.W.Frag) : R2 := fun x y H Q => rNeA K x y H Q ∨ rNeE K x y H Q
theorem op_neE (hu : X.A.units + 64 < cLine) : OpR X (compareOp .NotEq) (rNeX X.K) := (op_neA hu).or (op_neE0 hu)
theorem ok_neE : Op2Ok K (rNeX K) gNeE := by
  intro m S H a b d x y S' Q s ra rb e q
  unfold gNeE at e
  split at e
  · rename_i xs
    cases e
    obtain ⟨p, vs, rfl, hp, rr⟩ := tup_at ra
    obtain ⟨p2, vs2, rfl, hp2, rr2⟩ := tup_at rb
    rw [rr2.of_nil] at hp2
    refine .inr ⟨p, p2, vs, rfl, rfl, .inl ⟨SqT.of hp, SqT.of hp2⟩, ?_⟩
    have hl := rr.length
    have : vs.isEmpty = xs.isEmpty := by cases vs <;> cases xs <;> simp at hl ⊢
    rw [this]
    exact q m H _ (Ext.refl m H) s bl_rep
  · rename_i w xs
    cases e
    unfold Rep at ra rb
    obtain ⟨p, vs, rfl, hp, _, rr⟩ := ra
    obtain ⟨p2, vs2, rfl, hp2, _, rr2⟩ := rb
    rw [rr2.of_nil] at hp2
    obtain ⟨v, r, rfl, _⟩ := rr.of_cons
    exact .inr ⟨p, p2, v :: r, rfl, rfl, .inr ⟨by simp, SqL.of hp, SqL.of hp2⟩, q m H _ (Ext.refl m H) s bl_rep⟩
  · exact .inl (ok_ne m S H a b d x y S' Q s ra rb e q)

/-! ### repr of anything -/
mutual
inductive Dn (K : PySem.W.Frag) (H : Hp) : V → PyData → Prop
  | non : Dn K H .non .none
  | bl (b : Bool) : Dn K H (.bl b) (.bool b)
  | int (i : Int) : Dn K H (.int i) (.int i)
  | str (x : Str) : Dn K H (.str x) (.str x)
  | lst {a : Addr} {xs : List V} {ds : List PyData} : SqL K H a xs → Dns K H xs ds → Dn K H (.ref a) (.list ds)
  | tup {a : Addr} {xs : List V} {ds : List PyData} : SqT K H a xs → Dns K H xs ds → Dn K H (.ref a) (.tuple ds)
  | nod {a : Addr} : H a = some (.dK []) → Dn K H (.ref a) (.dict [])
inductive Dns (K : PySem.W.Frag) (H : Hp) : List V → List PyData → Prop
  | nil : Dns K H [] []
  | cons {v : V} {vs : List V} {d : PyData} {ds : List PyData} : Dn K H v d → Dns K H vs ds → Dns K H (v :: vs) (d :: ds)
end
mutual
def nrf : D → Bool
  | .ref _ => false
  | .tup xs => nrfs xs
  | .tud xs => nrfs xs
  | .lst xs => nrfs xs
  | .arg xs => nrfs xs
  | _ => true
def nrfs : List D → Bool
  | [] => true
  | d :: ds => nrf d && nrfs ds
end
mutual
theorem dn_of {m : Lbl} {H : Hp} : ∀ (d : D) (v : V), Rep K m H d v → nrf d = true → Dn K H v (toPy d)
  | .non, v, r, _ => by cases rep_non r; unfold toPy; exact .non
  | .bl b, v, r, _ => by cases rep_bl r; unfold toPy; exact .bl b
  | .int b, v, r, _ => by cases rep_int r; unfold toPy; exact .int b
  | .str b, v, r, _ => by cases rep_str r; unfold toPy; exact .str b
  | .rep b, v, r, _ => by cases rep_rep r; unfold toPy; exact .str b
  | .tup xs, v, r, h => by
    obtain ⟨p, vs, rfl, hp, rr⟩ := tup_at r
    unfold toPy
    unfold nrf at h
    exact .tup (SqT.of hp) (dns_of xs vs rr h)
  | .tud xs, v, r, h => by
    obtain ⟨p, vs, od, rfl, _, _, hp, rr⟩ := tud_at r
    unfold toPy
    unfold nrf at h
    exact .tup hp (dns_of xs vs rr h)
  | .lst xs, v, r, h => by
    unfold Rep at r
    obtain ⟨p, vs, rfl, hp, _, rr⟩ := r
    unfold toPy
    unfold nrf at h
    exact .lst (SqL.of hp) (dns_of xs vs rr h)
  | .arg xs, v, r, h => by
    unfold Rep at r
    obtain ⟨p, vs, rfl, hp, rr⟩ := r
    unfold toPy
    unfold nrf at h
    exact .lst hp.sq (dns_of xs vs rr h)
  | .ref k, v, r, h => by unfold nrf at h; cases h
  | .nod, v, r, _ => by
    unfold Rep at r
    obtain ⟨p, rfl, hp, _⟩ := r
    unfold toPy
    exact .nod hp
theorem dns_of {m : Lbl} {H : Hp} : ∀ (ds : List D) (vs : List V), Reps K m H ds vs → nrfs ds = true → Dns K H vs (toPys ds)
  | [], vs, r, _ => by rw [r.of_nil]; unfold toPys; exact .nil
  | d :: ds, vs, r, h => by
    obtain ⟨v, r', rfl, h1, h2⟩ := r.of_cons
    unfold toPys
    unfold nrfs at h
    have h : nrf d = true ∧ nrfs ds = true := by simpa using h
    exact .cons (dn_of d v h1 h.1) (dns_of ds r' h2 h.2)
end
theorem dn_res {m : Lbl} {S : Sto} {H : Hp} {d : D} {v : V} (s : RelS K m S H) (r : Rep K m H d v) (h : nrf (res S d) = true) : Dn K H v (toPy (res S d)) := by
  cases d with
  | ref k =>
    unfold res at h ⊢
    cases ho : S[k]? with
    | none => simp only [ho] at h; unfold nrf at h; cases h
    | some o =>
      cases o with
      | lst xs =>
        simp only [ho] at h ⊢
        obtain ⟨p, vs, e1, e2, e3⟩ := s.at_ k _ ho
        unfold Rep at r
        cases r.2 p e1
        unfold toPy
        unfold nrf at h
        exact .lst (SqL.of e2) (dns_of xs vs e3 h)
      | _ => simp only [ho] at h; unfold nrf at h; cases h
  | _ => exact dn_of _ v r h
end
section
variable {X : Cx} {pins : List (Addr × Obj)} {σ : L2.St} {H : Hp} {s : Shared}
mutual
theorem Dn.reads (I : Inv X pins σ H s) : ∀ (d : PyData) (v : V) (u : Value), Dn X.K H v d → RelV v u → d.showable = true → d.shown.length ≤ sizeLine →
    ∃ as bs, Reads s.heap u d as ∧ ReadAtMost s.heap d.depth bs ∧ ReprK X.prog X.w bs s.heap d.depth u d.shown
  | .none, _, _, h, r, _, _ => by
    cases h; cases r
    exact ⟨_, [], Reads.none, (fun _ h => nomatch h), by simp only [PyData.shown]; exact .of_is ReprIs.none _ _ _⟩
  | .bool b, _, _, h, r, _, _ => by
    cases h; cases r
    exact ⟨_, [], Reads.bool b, (fun _ h => nomatch h), by simp only [PyData.shown]; exact .of_is (ReprIs.bool b) _ _ _⟩
  | .int i, _, _, h, r, hs, _ => by
    cases h
    obtain ⟨t, rfl⟩ := r
    exact ⟨_, [], Reads.int i t, (fun _ h => nomatch h), by simp only [PyData.shown]; exact .of_is (ReprIs.int t (by simpa [PyData.showable] using hs)) _ _ _⟩
  | .str x, _, _, h, r, _, hz => by
    cases h
    obtain ⟨t, rfl⟩ := r
    exact ⟨_, [], Reads.str x t, (fun _ h => nomatch h), by simp only [PyData.shown]; exact .of_is (ReprIs.str x t (by simpa only [PyData.shown] using hz)) _ _ _⟩
  | .list ds, _, _, h, r, hs, hz => by
    cases h with
    | lst hq ha =>
      cases r
      obtain ⟨its, rv, ⟨o, n, ho, hc, _, hd⟩, _⟩ := I.list hq
      have zz : (listText (PyData.shownAll ds)).length ≤ sizeLine := by simpa only [PyData.shown] using hz
      obtain ⟨as, bs, hr, hb, hk⟩ := Dns.reads I ds _ its ha rv (by simpa [PyData.showable] using hs) (fun t ht => Nat.le_trans (listText_mem_le ht) zz)
      have r := Reads.list ho hc hd hr
      have na := not_mem_of_deeper r (by simp only [PyData.depth]; omega) hb
      refine ⟨_, _ :: bs, r, ReadAtMost.cons r (by simp only [PyData.depth]; omega) hb, ?_⟩
      simp only [PyData.depth, PyData.shown]
      cases its with
      | nil =>
        cases hr
        simp only [PyData.shownAll, listText_nil]
        exact ReprK.listEmpty ho hc hd
      | cons x l => exact ReprK.list ho hc hd na (by simpa using hk.length_eq) (fun i y e => hk.item i y (by simpa using e))
  | .tuple ds, _, _, h, r, hs, hz => by
    cases h with
    | tup hq ha =>
      cases r
      obtain ⟨its, rv, ⟨o, ho, hc, n, hd⟩, _⟩ := I.tuple hq
      have zz : (tupleText (PyData.shownAll ds)).length ≤ sizeLine := by simpa only [PyData.shown] using hz
      obtain ⟨as, bs, hr, hb, hk⟩ := Dns.reads I ds _ its ha rv (by simpa [PyData.showable] using hs) (fun t ht => Nat.le_trans (tupleText_mem_le ht) zz)
      have r := Reads.tuple ho hc hd hr
      have na := not_mem_of_deeper r (by simp only [PyData.depth]; omega) hb
      refine ⟨_, _ :: bs, r, ReadAtMost.cons r (by simp only [PyData.depth]; omega) hb, ?_⟩
      simp only [PyData.depth, PyData.shown]
      exact ReprK.tuple ho hc hd na hk
  | .dict kvs, _, _, h, r, hs, hz => by
    cases h with
    | @nod ad hq =>
      cases r
      obtain ⟨_, hsys, vs, kv, hdo⟩ := (show ObjOk X.prog X.w H s.heap _ (.dK []) from I.hok _ _ hq)
      cases kv
      obtain ⟨o, es, ep, h1, h2, h3, _, h4, _⟩ := hdo
      have he : es.toList = [] := by
        cases hl : es.toList with
        | nil => rfl
        | cons a b => rw [hl] at h4; cases h4
      have r := Reads.dict (kvs := []) h1 h2.1 h3 (by rw [he]; exact .nil) (by rw [he]; exact .nil)
      refine ⟨_, [ad], r, fun b hb => ?_, ?_⟩
      · cases List.mem_singleton.mp hb
        exact ⟨_, _, r, Nat.le_refl _⟩
      · simp only [PyData.depth, PyData.shown]
        exact ReprK.dict h1 h2.1 h3 hsys (by simp) (by rw [he]; exact .nil)
theorem Dns.reads (I : Inv X pins σ H s) : ∀ (ds : List PyData) (vs : List V) (us : List Value), Dns X.K H vs ds → Vals vs us → PyData.showableAll ds = true → (∀ t ∈ PyData.shownAll ds, t.length ≤ sizeLine) →
    ∃ as bs, ReadsAll s.heap us ds as ∧ ReadAtMost s.heap (PyData.depthAll ds) bs ∧ ReprAllK X.prog X.w bs s.heap (PyData.depthAll ds) us (PyData.shownAll ds)
  | [], _, _, h, r, _, _ => by
    cases h; cases r
    exact ⟨_, [], ReadsAll.nil, (fun _ h => nomatch h), by simp only [PyData.shownAll]; exact .nil⟩
  | d :: ds, _, _, h, r, hs, hz => by
    cases h with
    | cons h1 h2 =>
      cases r with
      | cons r1 r2 =>
        have hs2 : d.showable = true ∧ PyData.showableAll ds = true := by
          simpa [PyData.showableAll] using hs
        obtain ⟨as, b1, q1, hb1, k1⟩ := Dn.reads I d _ _ h1 r1 hs2.1 (hz _ (by simp only [PyData.shownAll]; exact List.mem_cons_self ..))
        obtain ⟨as2, b2, q2, hb2, k2⟩ := Dns.reads I ds _ _ h2 r2 hs2.2 (fun t ht => hz t (by simp only [PyData.shownAll]; exact List.mem_cons_of_mem _ ht))
        refine ⟨_, b1 ++ b2, ReadsAll.cons q1 q2, ?_, ?_⟩
        · simp only [PyData.depthAll]
          exact (hb1.mono (Nat.le_max_left _ _)).append (hb2.mono (Nat.le_max_right _ _))
        · simp only [PyData.depthAll, PyData.shownAll]
          exact .cons ((k1.more fun b hb => List.mem_append_left _ hb).level_le (Nat.le_max_left _ _)) (k2.more_le (fun b hb => List.mem_append_right _ hb) (Nat.le_max_right _ _))
end
def ShowN (d : PyData) : Prop := d.showable = true ∧ d.depth ≤ 64 ∧ d.shown.length ≤ sizeLine
def topN : PyData → Bool := fun _ => true
noncomputable def gReprN : List D → Sto → Option (D × Sto)
  | [d], S => chk (nrf (res S d) = true ∧ ShowN (pyS S d) ∧ topN (pyS S d) = true) (some (.rep (pyS S d).shown, S))
  | _, _ => none
def rReprN (K : PySem.W.Frag) : List V → Hp → VK → Prop := fun xs H Q => ∃ (x : V) (d : PyData), xs = [x] ∧ Dn K H x d ∧ ShowN d ∧ topN d = true ∧ Q (.str d.shown) H
theorem call_reprN (hg : X.A.guards = some []) (hu : X.A.units + 66 < cLine) : CallR X (.builtin "repr") (rReprN X.K) := by
  intro pins s σ H xs us Q I rv h
  obtain ⟨x, d, rfl, hd, ok, hs, q⟩ := h
  obtain ⟨u, rfl, rx⟩ := vals1 rv
  have hdep := ok.2.1
  have hz := ok.2.2
  have hsh := ok.1
  cases d with
  | none =>
    cases hd
    cases rx
    exact PySem.P.repr_of_none ⟨.str _, H, I.tok _, ⟨_, rfl⟩, q⟩
  | list ds =>
    cases hd with
    | lst hq ha =>
      cases rx
      obtain ⟨its, rv, ⟨o, n, ho, hc, _, hd⟩, _⟩ := I.list hq
      have zz : (listText (PyData.shownAll ds)).length ≤ sizeLine := by simpa only [PyData.shown] using hz
      obtain ⟨as, bs, hr, hb, hk⟩ := Dns.reads I ds _ its ha rv (by simpa [PyData.showable] using hsh) (fun t ht => Nat.le_trans (listText_mem_le ht) zz)
      have na := not_mem_of_deeper (Reads.list ho hc hd hr) (by simp only [PyData.depth]; omega) hb
      simp only [PyData.depth] at hdep
      simp only [PyData.shown] at q
      refine call_repr_slot (by omega) ⟨o, ho, hc⟩ F.slot_list_repr.toG ?_
      cases its with
      | nil =>
        cases hr
        simp only [PyData.shownAll, listText_nil] at q
        exact call_list_repr_empty ⟨o, ho, hc⟩ ho hd ⟨_, _, rfl, .str _, H, I.kept fun _ _ e => e, ⟨_, rfl⟩, q⟩
      | cons x l =>
        exact call_list_reprK ho hc hd na (by simpa using hk.length_eq) (fun i y e => hk.item i y (by simpa using e)) hg (fun b _ => Clear.nil b) (by show X.A.units + 1 + _ < cLine; omega) (fun _ _ e => e) (fun h' u tk hk => ⟨_, _, rfl, .str _, H, I.kept hk, ⟨_, rfl⟩, q⟩) zz
  | tuple ds =>
    cases hd with
    | tup hq ha =>
      cases rx
      obtain ⟨its, rv, ⟨o, ho, hc, n, hd⟩, _⟩ := I.tuple hq
      have zz : (tupleText (PyData.shownAll ds)).length ≤ sizeLine := by simpa only [PyData.shown] using hz
      obtain ⟨as, bs, hr, hb, hk⟩ := Dns.reads I ds _ its ha rv (by simpa [PyData.showable] using hsh) (fun t ht => Nat.le_trans (tupleText_mem_le ht) zz)
      have na := not_mem_of_deeper (Reads.tuple ho hc hd hr) (by simp only [PyData.depth]; omega) hb
      simp only [PyData.depth] at hdep
      simp only [PyData.shown] at q
      refine call_repr_slot (by omega) ⟨o, ho, hc⟩ F.slot_tuple_repr ?_
      exact call_tuple_reprK ho hc hd na hk hg (fun b _ => Clear.nil b) (by show X.A.units + 1 + _ < cLine; omega) (fun _ _ e => e) (fun h' u tk hk => ⟨_, _, rfl, .str _, H, I.kept hk, ⟨_, rfl⟩, q⟩) zz
  | bool b =>
    cases hd
    cases rx
    exact PySem.P.repr_of_bool ⟨.str _, H, I.tok _, ⟨_, rfl⟩, by cases b <;> exact q⟩
  | int i =>
    cases hd
    obtain ⟨t, rfl⟩ := rx
    exact PySem.P.repr_of_int (by simpa [PyData.showable] using hsh) ⟨.str _, H, I.tok _, ⟨_, rfl⟩, q⟩
  | str x =>
    cases hd
    obtain ⟨t, rfl⟩ := rx
    exact PySem.P.repr_of_str ⟨.str _, H, I.tok _, ⟨_, rfl⟩, q⟩ (by simpa only [PyData.shown] using hz)
  | dict kvs =>
    cases hd with
    | @nod ad hq =>
      cases rx
      obtain ⟨_, hsys, vs, kv, hdo⟩ := (show ObjOk X.prog X.w H s.heap _ (.dK []) from I.hok _ _ hq)
      cases kv
      obtain ⟨o, es, ep, h1, h2, h3, _, h4, _⟩ := hdo
      have he : es.toList = [] := by
        cases hl : es.toList with
        | nil => rfl
        | cons a b => rw [hl] at h4; cases h4
      refine call_repr_slot (by omega) ⟨o, h1, h2.1⟩ F.slot_dict_repr ?_
      exact call_dict_reprK (as := []) (d := 0) h1 h2.1 h3 hsys (by simp) (by rw [he]; exact .nil) hg (fun b _ => Clear.nil b) (by show X.A.units + 1 + _ < cLine; omega) (fun _ _ e => e) (fun h' u tk hk => ⟨_, _, rfl, .str _, H, I.kept hk, ⟨_, rfl⟩, q⟩) (by simpa only [PyData.shown] using hz)
theorem reprN_ok {K : PySem.W.Frag} : CallOk K (rReprN K) gReprN := by
  intro m S H ds d xs S' Q s r e q
  match ds, e with
  | [a], e =>
    obtain ⟨x, rfl, rx⟩ := one_of r
    obtain ⟨⟨nr, ok, hs⟩, e⟩ := chk_some e
    cases e
    exact ⟨x, _, rfl, dn_res s rx nr, ok, hs, q m H _ (Ext.refl m H) s rep_rep'⟩
  | [], e => cases e
  | _ :: _ :: _, e => cases e
end
/-! ### t[::-1] -/
section
variable {prog : Program} {w : World} {A : Around} {E : Value → Shared → Prop} {s : Shared}
open HT in
theorem applied_rev {sl : Addr} {v1 v2 v3 : Value} {n : Nat} {R : Int × Int × Nat → Shared → Prop} (hs : s.heap.IsSliceOf sl v1 v2 v3) (p1 : IsPart v1 none) (p2 : IsPart v2 none) (p3 : IsPart v3 (some (-1)))
    (h : R ((n : Int) - 1, -1, n) s) : wpAny (model prog w) A (Builtin.Slice.sliceApplied (.ref sl) (pure (n : Int))) R E s := by
  obtain ⟨o, e1, e2, e3⟩ := id hs
  unfold Builtin.Slice.sliceApplied Builtin.Slice.sliceFields
  refine wpAny_bind (wpAny_bind (wpAny_field e1 e3 (x := v1) rfl (wpAny_bind (wpAny_field e1 e3 (x := v2) rfl (wpAny_bind (wpAny_field e1 e3 (x := v3) rfl (wpAny_pure ?_)))))))
  refine wpAny_bind (slicePart_ p3 ?_)
  show wpAny _ _ (if ((-1 : Int) == 0) = true then _ else _) _ _ s
  rw [if_neg (show ¬ (((-1 : Int) == 0) = true) by decide)]
  refine wpAny_bind (slicePart_ p1 (wpAny_bind (slicePart_ p2 (wpAny_bind (wpAny_pure ?_)))))
  have e : Builtin.Slice.sliceAdjust none none (-1) (n : Int) = ((n : Int) - 1, -1) := rfl
  have e2 : Builtin.Slice.slicePlaces ((n : Int) - 1) (-1) (-1) = n := by
    unfold Builtin.Slice.slicePlaces
    rw [if_neg (show ¬ ((-1 : Int) > 0) by decide)]
    by_cases hn : (n : Int) - 1 > -1
    · rw [if_pos hn, show (- -1 : Int) = 1 by decide, Int.ediv_one]; omega
    · rw [if_neg hn]; omega
  show wpAny _ _ (match Builtin.Slice.sliceAdjust none none (-1) (n : Int) with | (a, b) => pure (a, (-1 : Int), Builtin.Slice.slicePlaces a b (-1))) _ _ s
  rw [e]
  show wpAny _ _ (pure ((n : Int) - 1, (-1 : Int), Builtin.Slice.slicePlaces ((n : Int) - 1) (-1) (-1))) _ _ s
  rw [e2]
  exact wpAny_pure h
theorem fm_congr {α β : Type} {f g : α → Option β} : ∀ {l : List α}, (∀ x, x ∈ l → f x = g x) → l.filterMap f = l.filterMap g
  | [], _ => rfl
  | x :: l, h => by rw [List.filterMap_cons, List.filterMap_cons, h x List.mem_cons_self, fm_congr fun y hy => h y (List.mem_cons_of_mem _ hy)]
theorem pick_rev (xs : Array Value) : ((List.range xs.size).filterMap fun (k : Nat) => xs[(((xs.size : Int) - 1) + (k : Int) * (-1)).toNat]?).toArray = xs.toList.reverse.toArray := by
  have e1 : ((List.range xs.size).filterMap fun (k : Nat) => xs[(((xs.size : Int) - 1) + (k : Int) * (-1)).toNat]?) = (List.range xs.size).filterMap fun k => xs[xs.size - 1 - k]? := by
    refine fm_congr fun k hk => ?_
    have := List.mem_range.mp hk
    rw [show (((xs.size : Int) - 1) + (k : Int) * (-1)).toNat = xs.size - 1 - k by omega]
  have e2 : ((List.range xs.size).filterMap fun k => xs[xs.size - 1 - k]?) = ((List.range xs.size).map fun k => xs.size - 1 - k).filterMap (xs[·]?) := by
    rw [List.filterMap_map]; rfl
  rw [e1, e2, PySem.W.krv_range, List.filterMap_reverse, PySem.W.krv_all]
open HT in
theorem item_rev {t sl : Addr} {xs : Array Value} {v1 v2 v3 : Value} {R : Value → Shared → Prop} (ht : IsTup s.heap t xs) (hs : s.heap.IsSliceOf sl v1 v2 v3) (p1 : IsPart v1 none) (p2 : IsPart v2 none) (p3 : IsPart v3 (some (-1)))
    (h : R (.ref s.heap.objs.size) { s with heap := s.heap.push { cls := .type "tuple", data := .seq xs.toList.reverse.toArray } }) (hz : xs.size ≤ sizeLine) : wpAny (model prog w) A (getItem (.ref t) (.ref sl)) R E s := by
  have hfit : sizeOk (.seq xs.toList.reverse.toArray) := by
    show xs.toList.reverse.toArray.size ≤ sizeLine
    rw [List.size_toArray, List.length_reverse, Array.length_toList]; exact hz
  obtain ⟨o, e1, e2, e3⟩ := id hs
  have hT : s.TypeIs (.ref sl) "slice" := ⟨o, e1, e2⟩
  unfold getItem
  try with_reducible refine wpAny_holding ?_
  first | refine wpAny_bind (wpAny_pure ?_) | skip
  refine wpAny_bind (wpAny_sequenceKey ht.typeIs (by decide) ?_)
  refine wpAny_bind (wpAny_callSpecial?_slot (name := Str.ofString "__getitem__") ht.typeIs PyProof.Rows.slot_tuple_getitem (wpAny_call_entry PyProof.Rows.slot_tuple_getitem ht.typeIs entry_tuple_getitem ?_ (args_tuple_getitem _ _)))
  show wpAny _ _ (Builtin.Tuple.tupleItemsOf (.ref t) >>= _) _ _ s
  refine wpAny_bind (tupleItemsOf_ ht ?_)
  refine wpAny_bind (wpAny_typeOf hT ?_)
  rw [if_pos (show _ by decide)]
  refine wpAny_bind (applied_rev hs p1 p2 p3 ?_)
  show wpAny _ _ (if (((xs.size : Int) - 1) == 0 && (-1 : Int) == 1 && xs.size == xs.size) = true then _ else _) _ _ s
  have hno : ¬ ((((xs.size : Int) - 1) == 0 && (-1 : Int) == 1 && xs.size == xs.size) = true) := by
    rw [show ((-1 : Int) == 1) = false by decide, Bool.and_false, Bool.false_and]
    exact Bool.false_ne_true
  rw [if_neg hno, pick_rev]
  first
    | exact wpAny_bind (m := Builtin.Tuple.tupleExact _) (wpAny_newObj_type (wpAny_pure ⟨_, rfl, wpAny_pure h⟩) hfit)
    | exact wpAny_bind (m := Builtin.Tuple.tupleExact _) (wpAny_newObj_type (wpAny_bind (wpAny_pure (wpAny_pure ⟨_, rfl, wpAny_pure h⟩))) hfit)
    | exact wpAny_bind (wpAny_bind (m := Builtin.Tuple.tupleExact _) (wpAny_newObj_type (wpAny_pure (wpAny_pure ⟨_, rfl, wpAny_pure h⟩)) hfit))
    | exact wpAny_bind (wpAny_bind (m := Builtin.Tuple.tupleExact _) (wpAny_newObj_type (wpAny_pure ⟨_, rfl, wpAny_pure h⟩) hfit))
end
section
variable {X : Cx} {K : PySem.W.Frag} {f : EF} {e : Expr}
def tRevT (K : PySem.W.Frag) (te : TE) : TE := fun σ H Q => te σ H fun x H1 => ∃ a xs, x = .ref a ∧ SqT K H1 a xs ∧ ∀ p, H1 p = none → Q (.ref p) (upd H1 p (.tup xs.reverse))
theorem pe_revT {te : TE} {k : Nat} {q1 q2 q3 pos : Pos} (he : PE X e te) : PE X (.Subscript e (.Slice none none (some (.UnaryOp .USub (.Constant (.int 1) k q1) q2)) q3) pos) (tRevT X.K te) := by
  refine ⟨fun pins s σ H Q I h => ?_⟩
  refine Subscript_ (thn (he.run pins s σ H _ I h) fun v s1 ⟨x, H1, J, r1, g⟩ => ?_)
  obtain ⟨a, xs, rfl, hx, q⟩ := g
  cases r1
  have hst : PO X (some (.UnaryOp .USub (.Constant (.int 1) k q1) q2)) (tPart (tUn (rU fun i => .int (-i)) (tC (.int 1)))) := po_some (pe_un un_neg pe_int)
  refine wpAny_Slice (thn (po_none.run pins s1 σ H1 (fun o G => o = none ∧ G = H1) J ⟨rfl, rfl⟩) fun vl s2 ⟨l, H2, J2, pl, el, g2⟩ => ?_)
  subst el g2
  refine thn (po_none.run pins s2 σ H2 (fun o G => o = none ∧ G = H2) J2 ⟨rfl, rfl⟩) fun vu s3 ⟨u, H3, J3, pu, eu, g3⟩ => ?_
  subst eu g3
  refine thn (hst.run pins s3 σ H3 (fun o G => o = some (-1) ∧ G = H3) J3 ⟨1, rfl, -1, rfl, rfl, rfl⟩) fun vs s4 ⟨o, H4, J4, ps, eo, g4⟩ => ?_
  subst eo g4
  have J5 : Inv X pins σ H4 { s4 with heap := s4.heap.push { cls := .type "slice", data := .fields #[vl, vu, vs] } } := J4.kept (t' := s4.toks) fun b z y => Heap.get?_push_of_some _ y
  obtain ⟨its, r, ht, hz⟩ := J5.tuple hx
  have hlen := r.length
  show wpAny (model X.prog X.w) X.A (subscriptTail e (.Slice none none (some (.UnaryOp .USub (.Constant (.int 1) k q1) q2)) q3) (.ref a) (.ref s4.heap.objs.size)) (EP X pins σ Q) X.xe { s4 with heap := s4.heap.push { cls := .type "slice", data := .fields #[vl, vu, vs] } }
  refine tail_any (ops := [.ref a, .ref s4.heap.objs.size]) ht.typeIs (PyProof.Rows.slot_tuple_getitem.lookup) ?_ (by with_unfolding_all rfl)
  refine item_rev ht (Heap.IsSliceOf.new _ vl vu vs) pl pu ps ?_ (by rw [List.size_toArray]; omega)
  refine ⟨.ref _, _, J5.laid (t' := s4.toks) (o := .tup xs.reverse) (fun b z y => Heap.get?_push_of_some _ y) (Nat.le_refl _) ?_, rfl, q _ (J5.hok.fresh (Nat.le_refl _))⟩
  exact ⟨by rw [List.length_reverse]; exact hz, _, r.reverse, IsTup.new _ _⟩
def eRevT (f : EF) : EF := fun L S => (f L S).bind fun p => match p.1 with
  | .tup xs => some (.tup xs.reverse, p.2)
  | _ => none
theorem de_revT {k : Nat} {q1 q2 q3 pos : Pos} (he : PE X e (teOf X.K f)) : PE X (.Subscript e (.Slice none none (some (.UnaryOp .USub (.Constant (.int 1) k q1) q2)) q3) pos) (teOf X.K (eRevT f)) :=
  pe_imp (pe_revT he) fun σ H Q ⟨m, L, S, d, S', hl, hs, e, q⟩ => by
    obtain ⟨⟨z, S1⟩, e1, e⟩ := Option.bind_eq_some_iff.mp e
    refine ⟨m, L, S, z, S1, hl, hs, e1, fun m1 H1 x x1 s1 r1 => ?_⟩
    cases z with
    | tup xs =>
      cases e
      obtain ⟨p, vs, rfl, hp, rr⟩ := tup_at r1
      refine ⟨p, vs, rfl, SqT.of hp, fun l hl => ?_⟩
      obtain ⟨y1, y2, y3⟩ := tup_new s1 rr.reverse hl
      exact q _ _ _ (x1.trans y1) y2 y3
    | _ => cases e
end
end DS
namespace DS
open PySem PySem.Spec PyProof.Rows L2

/-! ### zip(a, b, strict=True) -/
section
variable {prog : Program} {w : World} {A : Around} {E : Value → Shared → Prop} {s : Shared}
theorem typeKw_meets {T n1 n2 : String} {B1 B2 : Builtin} {args : List Value} {kw : List (Str × Value)} {S : PySem.Spec} {R R1 : Value → Shared → Prop} (ft : TypeCalled T n1 n2)
    (c1 : checkTypeCall T ⟨args, kw⟩ = pure ()) (c2 : checkBuiltinCall n1 ⟨.type T :: args, kw⟩ = pure ())
    (b1 : entryFor table n1 = some B1) (b2 : entryFor table n2 = some B2) (g : Meets (B1 ⟨.type T :: args, kw⟩) S) (h : S A.in1 (wants R1 E) s)
    (hn : ∀ obj s1, R1 obj s1 → s1.TypeIs obj T ∧ argsOk n2 ⟨obj :: args, kw⟩ ∧ ∃ Si, Meets (B2 ⟨obj :: args, kw⟩) Si ∧ Si A.in1 (wants (fun r s2 => r = .none ∧ R obj s2) E) s1) :
    wpAny (model prog w) A (call (.type T) args kw) R E s := by
  obtain ⟨c, tl, hm⟩ := ft.mro
  have hmade := ft.made
  have hsub := ft.sub
  refine wpAny_call (codeAny_of_tree ?_)
  show wpAny _ _ (callAny (.type T) _) _ _ _
  refine wpAny_pure ⟨Code.quiet_builtin _ (by decide +kernel), codeAny_builtin F.entry_type_call ?_⟩
  rw [Around.under_plain (weight_type_call_type T args kw) (units_type_call_type T args kw)]
  have h1 := ft.notType
  have h2 := ft.canCreate
  repeat (any_goals (first | assumption | wp_step))
  refine codeAny_mono (codeAny_call_builtin ft.plain b1 (wpAny_of_eq c2 (g prog w A.in1 _ s h))) fun r s1 hr => ?_
  cases r with
  | error e => exact hr
  | ok fl =>
    cases fl with
    | ret obj =>
      obtain ⟨hT, hok, Si, gi, hsi⟩ := hn _ _ hr
      have hli := ft.init.lookup
      have hbi := ft.init.bind obj
      repeat (any_goals (first | assumption | wp_step))
      refine codeAny_mono (codeAny_call_builtin ft.init.plain b2 (ft.init.check _ _ _ _ _ _ _ _ hT hok (gi prog w A.in1 _ s1 hsi))) fun r2 s2 hr2 => ?_
      cases r2 with
      | error e => exact hr2
      | ok f2 =>
        cases f2 with
        | ret r =>
          obtain ⟨rfl, hq⟩ := hr2
          repeat (any_goals (first | assumption | wp_step))
        | _ => exact hr2.elim
    | _ => exact hr.elim
abbrev kwS : List (Str × Value) := [("strict", .bool true)]
theorem initKw_meets {T newId : String} {self a b : Value} (hl : typeLookup (.type T) "__init__" = pure (some (.builtin "object.__init__"))) (hm : Bind.madeBy (.type T) = pure (some newId)) (hne : (some newId != some "object.__new__") = true) :
    Meets (Builtin.«object.__init__» ⟨[self, a, b], kwS⟩) (fun _ R s => s.TypeIs self T ∧ R (.ok (.ret .none)) s) := by
  refine Meets.of_wp fun prog w A R s hs => ?_
  obtain ⟨hT, hq⟩ := hs
  repeat (any_goals (first | assumption | wp_step))
  exact ⟨_, rfl, hq⟩
theorem typeCall_zipS (a b : Value) : checkTypeCall "zip" ⟨[a, b], kwS⟩ = pure () := by kernel_rfl
theorem newCall_zipS (a b : Value) : checkBuiltinCall "zip.__new__" ⟨[.type "zip", a, b], kwS⟩ = pure () := by kernel_rfl
theorem args_initS (a b c : Value) : argsOk "object.__init__" ⟨[a, b, c], kwS⟩ := by
  unfold argsOk; rw [signature?_of (id := "object.__init__") (n := ['_', '_', 't', 'i', 'n', 'i', '_', '_']) (o := ['t', 'c', 'e', 'j', 'b', 'o']) (by kernel_rfl) PySem.F.owner_object]; kernel_rfl
abbrev gzS (h : Heap) (o1 o2 : Obj) : Heap := (gzO2 h o1 o2).push { cls := .type "zip", data := .fields #[.none, .bool false, .bool true, .ref ((h.push o1).push o2).objs.size, .ref (gzT2 h o1 o2).objs.size] }
theorem meets_zipS {v1 v2 : Value} {o1 o2 : Obj} {H1 H2 : Heap → Prop} (B1 : Begins v1 o1 H1) (B2 : Begins v2 o2 H2) :
    Meets (Builtin.«zip.__new__» ⟨[.type "zip", v1, v2], kwS⟩) (fun _ R s => (H1 s.heap ∧ H2 s.heap) ∧ R (.ok (.ret (.ref (gzO2 s.heap o1 o2).objs.size))) { s with heap := gzS s.heap o1 o2 }) :=
  .of_wp fun prog w A R s h => by
    obtain ⟨hp, g, d, tk, os⟩ := s
    obtain ⟨⟨h1, h2⟩, h⟩ := h
    have hsub := sub_zip
    have q1 : ∀ {A' : Around} {E : Value → Shared → Prop} {Q : Value → Shared → Prop}, Q (.ref hp.objs.size) ⟨(hp.push o1), g, d, tk, os⟩ → wpAny (model prog w) A' (pyIter v1) Q E ⟨hp, g, d, tk, os⟩ :=
      fun q => B1.iter prog w _ _ ⟨hp, g, d, tk, os⟩ _ (B1.keeps _ _ h1 fun b o' e => e) q
    have q2 : ∀ {A' : Around} {E : Value → Shared → Prop} {Q : Value → Shared → Prop}, Q (.ref (hp.push o1).objs.size) ⟨((hp.push o1).push o2), g, d, tk, os⟩ → wpAny (model prog w) A' (pyIter v2) Q E ⟨(hp.push o1), g, d, tk, os⟩ :=
      fun q => B2.iter prog w _ _ ⟨(hp.push o1), g, d, tk, os⟩ _ (B2.keeps _ _ h2 fun b o' e => (Heap.get?_push_of_some _ e)) q
    wp_walk using q1, q2
    exact ⟨_, rfl, h⟩
end
/-! ### its turns -/
abbrev IsZipS (h : Heap) (z TI TO : Addr) (f0 : Value) : Prop :=
  h.get? z = some { cls := .type "zip", dict := none, data := .fields #[f0, .bool false, .bool true, .ref TI, .ref TO], slots := #[] }
section
variable {prog : Program} {w : World} {A : Around} {E : Value → Shared → Prop} {s : Shared}
theorem endOr_item {it : Addr} {fp : List Addr} {n i : Nat} {P : Nat → Value → Prop} {St : Nat → Heap → Prop} {R : Option Value → Shared → Prop} (D : Draws prog w A it fp n P St) (hi : i < n) (st : St i s.heap)
    (h : ∀ x h' tk, P i x → St (i + 1) h' → Heap.SameBut it s.heap h' → R (some x) { s with heap := h', toks := tk }) : wpAny (model prog w) A (Builtin.SmallTypes.nextOrEnd (.ref it)) R E s := by
  unfold Builtin.SmallTypes.nextOrEnd
  exact wpAny_bind (wpAny_attempt (D.item i s _ _ hi st fun x h' tk a b c => wpAny_pure (h x h' tk a b c)))
theorem endOr_done {it : Addr} {fp : List Addr} {n : Nat} {P : Nat → Value → Prop} {St : Nat → Heap → Prop} {R : Option Value → Shared → Prop} (D : Draws prog w A it fp n P St) (st : St n s.heap)
    (h : ∀ h', Heap.ExtBut it s.heap h' → R none { s with heap := h' }) : wpAny (model prog w) A (Builtin.SmallTypes.nextOrEnd (.ref it)) R E s := by
  unfold Builtin.SmallTypes.nextOrEnd
  refine wpAny_bind (wpAny_attempt (D.done s _ _ st fun h' e hx he => ?_))
  obtain ⟨o, ho, hc⟩ := he
  refine wpAny_bind (wpAny_isInstance (T := "StopIteration") (b := true) ⟨o, ho, hc⟩ isSubtype_stop ?_)
  exact wpAny_pure (h h' hx)
variable {z TI TO i1 i2 : Addr} {fp1 fp2 : List Addr} {n1 n2 i : Nat} {P1 P2 : Nat → Value → Prop} {St1 St2 : Nat → Heap → Prop} {a1 a2 : Value}
theorem zipS_item {R : Value → Shared → Prop} (S : ZipSep2 z TI TO i1 i2 fp1 fp2) (D1 : Draws prog w A i1 fp1 n1 P1 St1) (D2 : Draws prog w A i2 fp2 n2 P2 St2)
    (hz : IsZipS s.heap z TI TO .none) (hI : IsTupOf2 s.heap TI (.ref i1) (.ref i2)) (hO : IsTupOf2 s.heap TO a1 a2) (st1 : St1 i s.heap) (st2 : St2 i s.heap) (l1 : i < n1) (l2 : i < n2)
    (hR : ∀ x1 x2 h' tk, P1 i x1 → P2 i x2 → IsZipS h' z TI TO (rawInt s.heap.objs.size) → IsTupOf2 h' TO x1 x2 → St1 (i + 1) h' → St2 (i + 1) h' → IsTupOf2 h' s.heap.objs.size x1 x2 → h'.objs.size = s.heap.objs.size + 1 →
      (∀ c o, c ≠ z → c ≠ TO → c ≠ i1 → c ≠ i2 → s.heap.get? c = some o → h'.get? c = some o) → R (.ref s.heap.objs.size) { s with heap := h', toks := tk }) :
    wpAny (model prog w) A (Builtin.«zip.__next__» ⟨[.ref z], []⟩) (fun fin s' => ∃ v, fin = .done (.ret v) ∧ R v s') E s := by
  obtain ⟨hp, g, d, t0, os⟩ := s
  show wpAny _ _ (field (.ref z) 2 >>= _) _ _ _
  refine wpAny_bind (wpAny_field hz rfl (x := .bool true) rfl ?_)
  show wpAny _ _ (field (.ref z) 3 >>= _) _ _ _
  refine wpAny_bind (wpAny_field hz rfl (x := .ref TI) rfl ?_)
  refine wpAny_bind (wpAny_seqItems hI rfl ?_)
  show wpAny _ _ (Builtin.SmallTypes.ownedTupleIsFree (.ref z) >>= _) _ _ _
  refine wpAny_bind ?_
  unfold Builtin.SmallTypes.ownedTupleIsFree
  refine wpAny_bind (wpAny_field hz rfl (x := .none) rfl (wpAny_pure ?_))
  simp only [if_true]
  refine wpAny_bind (wpAny_rule ?_)
  refine wpAny_bind (wpAny_field hz rfl (x := .ref TO) rfl ?_)
  refine wpAny_bind (wpAny_setField_rec hz (by simp) fun g0 z0 b0 => ?_)
  replace z0 : IsZipS g0 z TI TO .ellipsis := z0
  replace b0 : Heap.SameBut z hp g0 := b0
  refine wpAny_bind ?_
  simp only [List.zipIdx_cons, List.zipIdx_nil, List.forIn_cons, List.forIn_nil]
  refine wpAny_bind (wpAny_bind (wpAny_onRaise ?_))
  show wpAny _ _ (Builtin.SmallTypes.nextOrEnd (.ref i1)) _ _ ⟨g0, g, d, t0, os⟩
  refine endOr_item D1 l1 (D1.over st1 b0 S.zf1) fun x1 p1 t1 hx1 sn1 c1 => ?_
  replace c1 : Heap.SameBut i1 g0 p1 := c1
  have u1 : IsTupOf2 p1 TO a1 a2 := c1.extBut _ _ S.Ti1 (b0.extBut _ _ S.TOz hO)
  refine wpAny_bind (wpAny_seqItems (s := ⟨p1, g, d, t1, os⟩) u1 rfl ?_)
  refine wpAny_bind (updateSeq_IsTupOf2 (s := ⟨p1, g, d, t1, os⟩) u1 fun g1 y1 b1 => ?_)
  replace y1 : IsTupOf2 g1 TO x1 a2 := y1
  replace b1 : Heap.SameBut TO p1 g1 := b1
  refine wpAny_bind (wpAny_letGo (wpAny_pure ?_))
  refine wpAny_bind (wpAny_bind (wpAny_onRaise ?_))
  show wpAny _ _ (Builtin.SmallTypes.nextOrEnd (.ref i2)) _ _ ⟨g1, g, d, t1, os⟩
  refine endOr_item D2 l2 (D2.over (D2.over (D2.over st2 b0 S.zf2) c1 S.sep1_2) b1 S.Tf2) fun x2 p2 t2 hx2 sn2 c2 => ?_
  replace c2 : Heap.SameBut i2 g1 p2 := c2
  have u2 : IsTupOf2 p2 TO x1 a2 := c2.extBut _ _ S.Ti2 y1
  refine wpAny_bind (wpAny_seqItems (s := ⟨p2, g, d, t2, os⟩) u2 rfl ?_)
  refine wpAny_bind (updateSeq_IsTupOf2 (s := ⟨p2, g, d, t2, os⟩) u2 fun g2 y2 b2 => ?_)
  replace y2 : IsTupOf2 g2 TO x1 x2 := y2
  replace b2 : Heap.SameBut TO p2 g2 := b2
  refine wpAny_bind (wpAny_letGo (wpAny_pure (wpAny_pure ?_)))
  refine wpAny_bind (wpAny_seqItems (s := ⟨g2, g, d, t2, os⟩) y2 rfl ?_)
  refine wpAny_bind (wpAny_newTuple ?_)
  have hsz : g2.objs.size = hp.objs.size := by rw [b2.1, c2.1, b1.1, c1.1, b0.1]
  have zz : IsZipS g2 z TI TO .ellipsis := (b2.extBut _ _ S.TOz.symm (c2.extBut _ _ S.zi2 (b1.extBut _ _ S.TOz.symm (c1.extBut _ _ S.zi1 z0))))
  have kk : ∀ c o, c ≠ z → c ≠ TO → c ≠ i1 → c ≠ i2 → hp.get? c = some o → g2.get? c = some o := fun c o cz cT m1 m2 e =>
    (b2.extBut _ _ cT (c2.extBut _ _ m2 (b1.extBut _ _ cT (c1.extBut _ _ m1 (b0.extBut _ _ cz e)))))
  have j1 : St1 (i + 1) g2 := (D1.over (D1.over (D1.over sn1 b1 S.Tf1) c2 S.sep2_1) b2 S.Tf1)
  have j2 : St2 (i + 1) g2 := (D2.over sn2 b2 S.Tf2)
  have hlt : z < g2.objs.size := Heap.lt_size zz
  show wpAny _ _ (Builtin.SmallTypes.ownedTupleHandOut (.ref z) (.ref g2.objs.size) >>= _) _ _ ⟨g2.push { cls := .type "tuple", data := .seq #[x1, x2] }, g, d, t2, os⟩
  refine wpAny_bind ?_
  unfold Builtin.SmallTypes.ownedTupleHandOut
  have z6 : IsZipS (g2.push { cls := .type "tuple", data := .seq #[x1, x2] }) z TI TO .ellipsis := Heap.get?_push_of_some _ zz
  refine wpAny_bind (wpAny_setField_rec z6 (by simp) fun h7 z7 s7 => ?_)
  replace z7 : IsZipS h7 z TI TO (rawInt g2.objs.size) := z7
  refine wpAny_setField_rec z7 (by simp) fun h8 z8 s8 => ?_
  replace z8 : IsZipS h8 z TI TO (rawInt g2.objs.size) := z8
  replace s7 : Heap.SameBut z (g2.push { cls := .type "tuple", data := .seq #[x1, x2] }) h7 := s7
  replace s8 : Heap.SameBut z h7 h8 := s8
  have up : ∀ c o, c ≠ z → g2.get? c = some o → h8.get? c = some o := fun c o m1 e => s8.extBut _ _ m1 (s7.extBut _ _ m1 (Heap.get?_push_of_some _ e))
  have T8 : IsTupOf2 h8 g2.objs.size x1 x2 := s8.extBut _ _ (Nat.ne_of_gt hlt) (s7.extBut _ _ (Nat.ne_of_gt hlt) (Heap.get?_push_size _ rfl))
  have n8 : h8.objs.size = g2.objs.size + 1 := by rw [s8.1, s7.1, Heap.size_push]
  rw [hsz] at z8 T8 n8
  refine wpAny_pure ⟨_, rfl, ?_⟩
  show R (.ref g2.objs.size) ⟨h8, g, d, t2, os⟩
  rw [hsz]
  exact hR x1 x2 h8 t2 hx1 hx2 z8 (up _ _ S.TOz y2) (D1.frame _ _ _ j1 fun b hb o e => up b o (fun q => S.zf1 (q ▸ hb)) e) (D2.frame _ _ _ j2 fun b hb o e => up b o (fun q => S.zf2 (q ▸ hb)) e) T8 n8 fun c o cz cT m1 m2 e => up c o cz (kk c o cz cT m1 m2 e)
theorem stop_new {α : Type} {R : α → Shared → Prop} (hh : A.handled = none)
    (h : ∀ h' tk e, (∀ c o, s.heap.get? c = some o → h'.get? c = some o) → (∃ o, h'.get? e = some o ∧ o.cls = .type "StopIteration") → E (.ref e) { s with heap := h', toks := tk }) : wpAny (model prog w) A (Builtin.SmallTypes.stopIteration : Sem α) R E s := by
  unfold Builtin.SmallTypes.stopIteration
  refine wpAny_bind ?_
  simp only [newExc, newTuple]
  refine wpAny_bind (wpAny_newObj_type ?_ (by size_fits))
  refine wpAny_bind (m := firstArgMember _ _) (wpAny_of_eq (a := Value.none) (by first | rfl | (simp only [firstArgMember]; rfl)) ?_)
  refine wpAny_newObj_type ?_ (by size_fits)
  refine wpAny_raiseNew_none hh ?_
  exact h _ _ _ (fun c o e => Heap.get?_push_of_some _ (Heap.get?_push_of_some _ e)) ⟨_, Heap.get?_push_size _ rfl, rfl⟩
theorem zipS_end {R : Fin → Shared → Prop} (hh : A.handled = none) (S : ZipSep2 z TI TO i1 i2 fp1 fp2) (D1 : Draws prog w A i1 fp1 n1 P1 St1) (D2 : Draws prog w A i2 fp2 n2 P2 St2)
    (hz : IsZipS s.heap z TI TO .none) (hI : IsTupOf2 s.heap TI (.ref i1) (.ref i2)) (hO : IsTupOf2 s.heap TO a1 a2) (st1 : St1 n1 s.heap) (st2 : St2 n2 s.heap)
    (hE : ∀ h' tk e, (∀ c o, c ≠ z → c ≠ TO → c ≠ i1 → c ≠ i2 → s.heap.get? c = some o → h'.get? c = some o) → (∃ o, h'.get? e = some o ∧ o.cls = .type "StopIteration") → E (.ref e) { s with heap := h', toks := tk }) :
    wpAny (model prog w) A (Builtin.«zip.__next__» ⟨[.ref z], []⟩) R E s := by
  obtain ⟨hp, g, d, t0, os⟩ := s
  show wpAny _ _ (field (.ref z) 2 >>= _) _ _ _
  refine wpAny_bind (wpAny_field hz rfl (x := .bool true) rfl ?_)
  show wpAny _ _ (field (.ref z) 3 >>= _) _ _ _
  refine wpAny_bind (wpAny_field hz rfl (x := .ref TI) rfl ?_)
  refine wpAny_bind (wpAny_seqItems hI rfl ?_)
  show wpAny _ _ (Builtin.SmallTypes.ownedTupleIsFree (.ref z) >>= _) _ _ _
  refine wpAny_bind ?_
  unfold Builtin.SmallTypes.ownedTupleIsFree
  refine wpAny_bind (wpAny_field hz rfl (x := .none) rfl (wpAny_pure ?_))
  simp only [if_true]
  refine wpAny_bind (wpAny_rule ?_)
  refine wpAny_bind (wpAny_field hz rfl (x := .ref TO) rfl ?_)
  refine wpAny_bind (wpAny_setField_rec hz (by simp) fun g0 z0 b0 => ?_)
  replace z0 : IsZipS g0 z TI TO .ellipsis := z0
  replace b0 : Heap.SameBut z hp g0 := b0
  refine wpAny_bind ?_
  simp only [List.zipIdx_cons, List.zipIdx_nil, List.forIn_cons, List.forIn_nil]
  refine wpAny_bind (wpAny_bind (wpAny_onRaise ?_))
  show wpAny _ _ (Builtin.SmallTypes.nextOrEnd (.ref i1)) _ _ ⟨g0, g, d, t0, os⟩
  refine endOr_done D1 (D1.over st1 b0 S.zf1) fun q hq => ?_
  replace hq : Heap.ExtBut i1 g0 q := hq
  have zq : IsZipS q z TI TO .ellipsis := hq _ _ S.zi1 z0
  refine wpAny_bind (wpAny_setField_rec (s := ⟨q, g, d, t0, os⟩) zq (by simp) fun q1 z1 b1 => ?_)
  replace b1 : Heap.SameBut z q q1 := b1
  have st2' : St2 n2 q1 := D2.over (D2.frame _ _ _ (D2.over st2 b0 S.zf2) fun b hb o e => hq b o (fun x => S.sep1_2 (x ▸ hb)) e) b1 S.zf2
  refine wpAny_bind ?_
  wp_step
  rw [if_neg (show ¬ ((0 : Nat) > 0) by decide)]
  simp only [List.drop_succ_cons, List.drop_zero, List.zipIdx_cons, List.zipIdx_nil, List.forIn_cons, List.forIn_nil]
  refine wpAny_bind (wpAny_bind ?_)
  refine wpAny_bind (endOr_done (s := ⟨q1, g, d, t0, os⟩) D2 st2' fun q2 hq2 => ?_)
  replace hq2 : Heap.ExtBut i2 q1 q2 := hq2
  simp only [Option.isSome_none, Bool.false_eq_true, if_false]
  refine wpAny_pure ?_
  refine wpAny_pure (wpAny_bind (wpAny_rule ?_))
  refine stop_new (s := ⟨q2, g, d, t0, os⟩) hh fun h' tk e hk he => ?_
  exact hE h' tk e (fun c o cz cT m1 m2 x => hk c o (hq2 _ _ m2 (b1.extBut _ _ cz (hq _ _ m1 (b0.extBut _ _ cz x))))) he
theorem next_zipS {R : Option Value → Shared → Prop} (S : ZipSep2 z TI TO i1 i2 fp1 fp2) (D1 : Draws prog w A.in1 i1 fp1 n1 P1 St1) (D2 : Draws prog w A.in1 i2 fp2 n2 P2 St2)
    (hz : IsZipS s.heap z TI TO .none) (hI : IsTupOf2 s.heap TI (.ref i1) (.ref i2)) (hO : IsTupOf2 s.heap TO a1 a2) (st1 : St1 i s.heap) (st2 : St2 i s.heap) (l1 : i < n1) (l2 : i < n2)
    (hR : ∀ x1 x2 h' tk, P1 i x1 → P2 i x2 → IsZipS h' z TI TO (rawInt s.heap.objs.size) → IsTupOf2 h' TO x1 x2 → St1 (i + 1) h' → St2 (i + 1) h' → IsTupOf2 h' s.heap.objs.size x1 x2 → h'.objs.size = s.heap.objs.size + 1 →
      (∀ c o, c ≠ z → c ≠ TO → c ≠ i1 → c ≠ i2 → s.heap.get? c = some o → h'.get? c = some o) → R (some (.ref s.heap.objs.size)) { s with heap := h', toks := tk }) :
    wpAny (model prog w) A (pyNext (.ref z)) R E s := by
  have hT : s.TypeIs (.ref z) "zip" := ⟨_, hz, rfl⟩
  unfold pyNext
  exact wpAny_bind (wpAny_attempt (wpAny_callSpecial?_slot (name := Str.ofString "__next__") hT F.slot_zip_next (wpAny_call_entry F.slot_zip_next hT F.entry_zip_next
    (zipS_item S D1 D2 hz hI hO st1 st2 l1 l2 fun x1 x2 h' tk y1 y2 m1 m2 d1 d2 m5 m6 m7 => wpAny_pure (hR x1 x2 h' tk y1 y2 m1 m2 d1 d2 m5 m6 m7)) (F.args_zip_next_1 _))))
theorem stop_zipS {R : Option Value → Shared → Prop} (hh : A.handled = none) (S : ZipSep2 z TI TO i1 i2 fp1 fp2) (D1 : Draws prog w A.in1 i1 fp1 n1 P1 St1) (D2 : Draws prog w A.in1 i2 fp2 n2 P2 St2)
    (hz : IsZipS s.heap z TI TO .none) (hI : IsTupOf2 s.heap TI (.ref i1) (.ref i2)) (hO : IsTupOf2 s.heap TO a1 a2) (st1 : St1 n1 s.heap) (st2 : St2 n2 s.heap)
    (hR : ∀ h' tk, (∀ c o, c ≠ z → c ≠ TO → c ≠ i1 → c ≠ i2 → s.heap.get? c = some o → h'.get? c = some o) → R none { s with heap := h', toks := tk }) : wpAny (model prog w) A (pyNext (.ref z)) R E s := by
  have hT : s.TypeIs (.ref z) "zip" := ⟨_, hz, rfl⟩
  unfold pyNext
  refine wpAny_bind (wpAny_attempt (wpAny_callSpecial?_slot (name := Str.ofString "__next__") hT F.slot_zip_next (wpAny_call_entry F.slot_zip_next hT F.entry_zip_next
    (zipS_end hh S D1 D2 hz hI hO st1 st2 fun h' tk e hk he => ?_) (F.args_zip_next_1 _))))
  obtain ⟨o, ho, hc⟩ := he
  refine wpAny_bind (wpAny_isInstance (T := "StopIteration") (b := true) ⟨o, ho, hc⟩ isSubtype_stop ?_)
  exact wpAny_pure (hR _ _ hk)
theorem letGo_zipS {elts : List Expr} {x1} {pos : Pos} {T : Addr} {R : Unit → Shared → Prop} (hz : IsZipS s.heap z TI TO (rawInt T)) (hR : ∀ h', IsZipS h' z TI TO .none → Heap.SameBut z s.heap h' → R () { s with heap := h' }) :
    wpAny (model prog w) A (letOwnedTupleGo (.Tuple elts x1 pos) (.ref z) (.ref T)) R E s := by
  unfold letOwnedTupleGo
  refine wpAny_bind (wpAny_load hz ?_)
  show wpAny _ _ (if (["enumerate", "zip", "dict_itemiterator", "dict_reverseitemiterator", "odict_iterator", "itertools.zip_longest", "itertools.pairwise"].contains "zip" && (#[rawInt T, .bool false, .bool true, .ref TI, .ref TO] : Array Value)[0]? == some (rawInt T)) = true then _ else _) R E s
  rw [if_pos (by simp)]
  refine wpAny_bind (wpAny_rule ?_)
  show wpAny _ _ (setField (.ref z) 0 .none) R E s
  exact wpAny_setField_rec hz (by simp) fun h' hz' hs' => hR h' hz' hs'
theorem iter_zipS {f0 : Value} {R : Value → Shared → Prop} (hz : IsZipS s.heap z TI TO f0) (h : R (.ref z) s) : wpAny (model prog w) A (pyIter (.ref z)) R E s := by
  have hT : s.TypeIs (.ref z) "zip" := ⟨_, hz, rfl⟩
  refine wpAny_pyIter_slot hT F.slot_zip_iter (wpAny_call_entry F.slot_zip_iter hT F.entry_zip_iter ?_ (F.args_zip_iter_1 _))
  show wpAny _ _ (ret (.ref z)) _ _ s
  exact wpAny_pure ⟨_, rfl, "zip", _, hT, F.slot_zip_next.lookup, h⟩
/-- zip(v1, v2, strict=True) begins -/
theorem begin_zipS {v1 v2 : Value} {o1 o2 : Obj} {H1 H2 : Heap → Prop} {R : Value → Shared → Prop} (B1 : Begins v1 o1 H1) (B2 : Begins v2 o2 H2) (h1 : H1 s.heap) (h2 : H2 s.heap)
    (h : ∀ h', IsZipS h' (s.heap.objs.size + 4) (s.heap.objs.size + 2) (s.heap.objs.size + 3) .none → IsTupOf2 h' (s.heap.objs.size + 2) (.ref s.heap.objs.size) (.ref (s.heap.objs.size + 1)) →
      IsTupOf2 h' (s.heap.objs.size + 3) .none .none → h'.get? s.heap.objs.size = some o1 → h'.get? (s.heap.objs.size + 1) = some o2 → h'.objs.size = s.heap.objs.size + 5 →
      (∀ c o, s.heap.get? c = some o → h'.get? c = some o) → R (.ref (s.heap.objs.size + 4)) { s with heap := h' }) :
    wpAny (model prog w) A (call (.type "zip") [v1, v2] kwS) R E s := by
  refine typeKw_meets F.called_zip (typeCall_zipS _ _) (newCall_zipS _ _) F.entry_zip_new F.entry_object_init (meets_zipS B1 B2) (R1 := fun obj s1 => s1.TypeIs obj "zip" ∧ R obj s1) ⟨⟨h1, h2⟩, ?_⟩ fun obj _ hq => ⟨hq.1, args_initS obj _ _, _, initKw_meets F.called_zip.init.lookup F.called_zip.made (by decide), hq.1, rfl, hq.2⟩
  have z1 : (s.heap.push o1).objs.size = s.heap.objs.size + 1 := by rw [Heap.size_push]
  have z2 : ((s.heap.push o1).push o2).objs.size = s.heap.objs.size + 2 := by rw [Heap.size_push, z1]
  have zT : (gzT2 s.heap o1 o2).objs.size = s.heap.objs.size + 3 := by rw [Heap.size_push, z2]
  have zO : (gzO2 s.heap o1 o2).objs.size = s.heap.objs.size + 4 := by rw [Heap.size_push, zT]
  have zZ : (gzS s.heap o1 o2).objs.size = s.heap.objs.size + 5 := by rw [Heap.size_push, zO]
  have gZ : (gzS s.heap o1 o2).get? (gzO2 s.heap o1 o2).objs.size = some { cls := .type "zip", data := .fields #[.none, .bool false, .bool true, .ref ((s.heap.push o1).push o2).objs.size, .ref (gzT2 s.heap o1 o2).objs.size] } := Heap.get?_push_size _ rfl
  have gO : (gzS s.heap o1 o2).get? (gzT2 s.heap o1 o2).objs.size = some { cls := .type "tuple", data := .seq #[.none, .none] } := Heap.get?_push_of_some _ (Heap.get?_push_size _ rfl)
  have gT : (gzS s.heap o1 o2).get? ((s.heap.push o1).push o2).objs.size = some { cls := .type "tuple", data := .seq #[.ref s.heap.objs.size, .ref (s.heap.push o1).objs.size] } := Heap.get?_push_of_some _ (Heap.get?_push_of_some _ (Heap.get?_push_size _ rfl))
  have g1 : (gzS s.heap o1 o2).get? s.heap.objs.size = some o1 := Heap.get?_push_of_some _ (Heap.get?_push_of_some _ (Heap.get?_push_of_some _ (Heap.get?_push_of_some _ (Heap.get?_push_size _ B1.free))))
  have g2 : (gzS s.heap o1 o2).get? (s.heap.push o1).objs.size = some o2 := Heap.get?_push_of_some _ (Heap.get?_push_of_some _ (Heap.get?_push_of_some _ (Heap.get?_push_size _ B2.free)))
  rw [zO, zT, z2] at gZ
  rw [zT] at gO
  rw [z2, z1] at gT
  rw [z1] at g2
  show _ ∧ _
  rw [zO]
  exact ⟨⟨_, gZ, rfl⟩, h _ gZ gT gO g1 g2 zZ fun c o e => Heap.get?_push_of_some _ (Heap.get?_push_of_some _ (Heap.get?_push_of_some _ (Heap.get?_push_of_some _ (Heap.get?_push_of_some _ e))))⟩
theorem with_typeKw {pos : Pos} {T : String} {first : List Value} {args : List (Bool × Sem Value)} {kws : List (Option Str × Sem Value)} {R : Value → Shared → Prop} (hp : args.any (·.1) = false) (hk : kws.any (·.1.isNone) = false)
    (h : wpAny (model prog w) A (evalArgs (.type T) true args kws) (fun a s1 => wpAny (model prog w) A (call (.type T) (first ++ a.pos) a.kw) R E s1) E s) : wpAny (model prog w) A (callWith pos (.type T) first args kws) R E s := by
  unfold callWith
  refine wpAny_bind (wpAny_holding (wpAny_mono h (fun a s1 h1 => wpAny_bind (wpAny_standAt ?_)) fun _ _ x => x))
  simp only [hp, hk, Bool.or_false]
  refine wpAny_bind (wpAny_pure ?_)
  exact wpAny_bind (wpAny_mono h1 (fun r s2 hr => wpAny_bind (wpAny_holding (wpAny_point (wpAny_pure hr)))) fun _ _ x => x)
end
/-! ### for (x, y) in zip(a, b, strict=True) -/
def ItzS (K : PySem.W.Frag) (ka kb : Bool) (a b : Addr) : It :=
  ⟨fun i H => ∃ (xs ys : List V) (x y : V), SqA K H ka a xs ∧ SqA K H kb b ys ∧ xs[i]? = some x ∧ ys[i]? = some y,
    fun i H v H' => ∃ T x y, v = .ref T ∧ H T = none ∧ H' = upd H T (.tup [x, y]) ∧ (∀ xs, SqA K H ka a xs → xs[i]? = some x) ∧ ∀ ys, SqA K H kb b ys → ys[i]? = some y,
    fun i H => ∃ xs ys : List V, SqA K H ka a xs ∧ SqA K H kb b ys ∧ i = xs.length ∧ i = ys.length⟩
theorem turn_zipS {P : Program} {w : World} {K : PySem.W.Frag} {elts : List Expr} {kk : Nat} {tpos : Pos} (ka kb : Bool) {a b z TI TO i1 i2 : Addr} (na : a ≠ i1) (nb : b ≠ i2) (D : ZipSep2 z TI TO i1 i2 [i1, a] [i2, b]) :
    Turn P w K (.Tuple elts kk tpos) (ItzS K ka kb a b) [z, TI, TO, i1, i2] z (fun i h => IsZipS h z TI TO .none ∧ IsTupOf2 h TI (.ref i1) (.ref i2) ∧ (∃ x y, IsTupOf2 h TO x y) ∧ ItAt h ka i1 a i ∧ ItAt h kb i2 b i) where
  mem := by simp
  obj := fun i h st c hc => by
    obtain ⟨hz, hI, ⟨x, y, hO⟩, h1, h2⟩ := st
    have e' : c = z ∨ c = TI ∨ c = TO ∨ c = i1 ∨ c = i2 := by simpa using hc
    rcases e' with q | q | q | q | q
    · rw [q]; exact ⟨_, hz, fun v q => nomatch q⟩
    · rw [q]; exact ⟨_, hI, fun v q => nomatch q⟩
    · rw [q]; exact ⟨_, hO, fun v q => nomatch q⟩
    · rw [q]; exact itAt_obj h1
    · rw [q]; exact itAt_obj h2
  keep := fun i h h' st k => by
    obtain ⟨hz, hI, ⟨x, y, hO⟩, h1, h2⟩ := st
    exact ⟨k z (by simp) _ hz, k TI (by simp) _ hI, ⟨x, y, k TO (by simp) _ hO⟩, itAt_keep h1 fun o q => k i1 (by simp) o q, itAt_keep h2 fun o q => k i2 (by simp) o q⟩
  item := by
    intro X hP hw hK hc i pins s σ H E I hf st hg
    subst hP hw hK
    obtain ⟨hz, hI, ⟨x0, y0, hO⟩, h1, h2⟩ := st
    obtain ⟨xs, ys, x, y, hqx, hqy, hx, hy⟩ := hg
    obtain ⟨its, rv, p, _, _⟩ := seq_of I hqx
    obtain ⟨its2, rv2, p2, _, _⟩ := seq_of I hqy
    obtain ⟨u, hu, ru⟩ := rv.get hx
    obtain ⟨u2, hu2, ru2⟩ := rv2.get hy
    have hzl : z < s.heap.objs.size := Heap.lt_size hz
    have l1 : i < its.toArray.size := by
      have := (List.getElem?_eq_some_iff.mp hu).1
      simpa using this
    have l2 : i < its2.toArray.size := by
      have := (List.getElem?_eq_some_iff.mp hu2).1
      simpa using this
    refine next_zipS D (drawsK (A := X.A.in1) (I.ok.hd hc) ka i1 a na its.toArray) (drawsK (A := X.A.in1) (I.ok.hd hc) kb i2 b nb its2.toArray) hz hI hO ⟨h1, p⟩ ⟨h2, p2⟩ l1 l2 fun w1 w2 h' tk e1 e2 z' TO' st1' st2' hT hsz hk => ?_
    have e1 : its.toArray[i]? = some w1 := e1
    have e2 : its2.toArray[i]? = some w2 := e2
    have g1 : its.toArray[i]? = some u := by simpa using hu
    have g2 : its2.toArray[i]? = some u2 := by simpa using hu2
    rw [e1] at g1
    rw [e2] at g2
    cases g1
    cases g2
    refine ⟨_, rfl, letGo_zipS (s := { s with heap := h', toks := tk }) z' fun h'' z'' sb => ?_⟩
    have hT2 : h''.get? s.heap.objs.size = some { cls := .type "tuple", data := .seq #[u, u2] } := (sb.2 _ (Nat.ne_of_gt hzl)).trans hT
    have new : ObjOk X.prog X.w (upd H s.heap.objs.size (.tup [x, y])) h'' s.heap.objs.size (.tup [x, y]) :=
      ⟨by show 2 ≤ sizeLine; decide, [u, u2], .cons ru (.cons ru2 .nil), ⟨_, hT2, rfl, _, rfl⟩⟩
    have I1 : Inv X pins σ (upd H s.heap.objs.size (.tup [x, y])) { s with heap := h'', toks := tk } :=
      I.turnedNew (t' := tk) (ch := [z, TI, TO, i1, i2]) (fun c o hb q => (sb.2 c (fun q' => hb (by simp [q']))).trans (hk c o (fun q' => hb (by simp [q'])) (fun q' => hb (by simp [q'])) (fun q' => hb (by simp [q'])) (fun q' => hb (by simp [q'])) q)) hf (Nat.le_refl _) new
    refine ⟨.ref s.heap.objs.size, _, I1, rfl, ⟨_, x, y, rfl, I.hok.fresh (Nat.le_refl _), rfl, fun l hl => by rw [seq_inj I hl hqx]; exact hx, fun l hl => by rw [seq_inj I hl hqy]; exact hy⟩, ⟨z'', ?_, ⟨u, u2, ?_⟩, ?_, ?_⟩, fun c hcm => ?_⟩
    · exact (sb.2 _ D.TIz).trans (hk _ _ D.TIz D.TITO D.TIi1 D.TIi2 hI)
    · exact (sb.2 _ D.TOz).trans TO'
    · exact itAt_keep st1'.1 fun o q => (sb.2 _ (Ne.symm D.zi1)).trans q
    · exact itAt_keep st2'.1 fun o q => (sb.2 _ (Ne.symm D.zi2)).trans q
    · have hlt : c < s.heap.objs.size := by
        have e' : c = z ∨ c = TI ∨ c = TO ∨ c = i1 ∨ c = i2 := by simpa using hcm
        rcases e' with q | q | q | q | q
        · rw [q]; exact hzl
        · rw [q]; exact Heap.lt_size hI
        · rw [q]; exact Heap.lt_size hO
        · rw [q]; obtain ⟨_, e1, _⟩ := itAt_obj h1; exact Heap.lt_size e1
        · rw [q]; obtain ⟨_, e2, _⟩ := itAt_obj h2; exact Heap.lt_size e2
      rw [upd_ne (Nat.ne_of_lt hlt)]
      exact (hf c hcm).1
  done := by
    intro X hP hw hK hc i pins s σ H E I hf st hg
    subst hP hw hK
    obtain ⟨hz, hI, ⟨x0, y0, hO⟩, h1, h2⟩ := st
    obtain ⟨xs, ys, hqx, hqy, g1, g2⟩ := hg
    obtain ⟨its, rv, p, _, _⟩ := seq_of I hqx
    obtain ⟨its2, rv2, p2, _, _⟩ := seq_of I hqy
    have l1 := rv.length
    have l2 := rv2.length
    have n1 : i = its.toArray.size := by simp; omega
    have n2 : i = its2.toArray.size := by simp; omega
    refine stop_zipS (I.ok.hd hc) D (drawsK (A := X.A.in1) (I.ok.hd hc) ka i1 a na its.toArray) (drawsK (A := X.A.in1) (I.ok.hd hc) kb i2 b nb its2.toArray) hz hI hO (by rw [← n1]; exact ⟨h1, p⟩) (by rw [← n2]; exact ⟨h2, p2⟩) fun h' tk hk => ⟨rfl, I.turnedL (t' := tk) (ch := [z, TI, TO, i1, i2]) (fun c o hb q =>
      hk c o (fun q' => hb (by simp [q'])) (fun q' => hb (by simp [q'])) (fun q' => hb (by simp [q'])) (fun q' => hb (by simp [q'])) q) hf⟩
  self := fun A i s Q E st h => iter_zipS st.1 h
def iZipSK (K : PySem.W.Frag) (ta : TA) : TI := fun σ H R => ta σ H fun vs H1 => ∃ ka kb a b xs ys, vs = [.ref a, .ref b] ∧ SqA K H1 ka a xs ∧ SqA K H1 kb b ys ∧ R (ItzS K ka kb a b) H1
theorem pi_zipS {X : Cx} {e e2 : Expr} {ta : TA} {p pos tpos kp kp2 : Pos} {j : Nat} {elts : List Expr} {kk : Nat} (hg : Gl X "zip") (hm : X.mg "zip" = none) (ha : PA X [e, e2] ta)
    (he : backTo pos (starEach [e, e2] X.env) = (false, eval e X.env) :: backTo pos (starEach [e2] X.env) := by rfl) (hpl : (backTo pos (starEach [e, e2] X.env)).any (·.1) = false := by rfl) :
    PI X (.Tuple elts kk tpos) (.Call (.Name "zip" p) [e, e2] [⟨some "strict", .Constant (.bool true) j kp2, kp⟩] pos) (iZipSK X.K ta) := by
  refine ⟨fun pins s σ H R I h => ?_⟩
  show wpAny _ _ (eval (.Name "zip" p) X.env >>= fun f => callWith pos f [] (backTo pos (starEach [e, e2] X.env)) (backToKw pos (keywordEach [⟨some "strict", .Constant (.bool true) j kp2, kp⟩] X.env))) _ _ s
  refine wpAny_bind (ld_blt I hg hm PyProof.Rows.boot_zip ?_)
  refine with_typeKw hpl rfl ?_
  rw [he]
  refine evalArgs_kwB rfl ?_
  rw [← he]
  refine thn (ha.run pos pins s σ H _ I h) fun us s1 ⟨vs, H1, I1, r1, q1⟩ => kws_cons (Constant_bool (kws_nil ?_))
  obtain ⟨ka, kb, a, b, xs, ys, ex, hqx, hqy, q⟩ := q1
  subst ex
  cases r1 with
  | cons r rr =>
    cases rr with
    | cons r' rr =>
      cases rr
      cases r
      cases r'
      obtain ⟨its, rv, p1, la, _⟩ := seq_of I1 hqx
      obtain ⟨its2, rv2, p2, lb, _⟩ := seq_of I1 hqy
      refine begin_zipS (beginsK ka a its.toArray) (beginsK kb b its2.toArray) p1 p2 fun h' hz hI hO h1 h2 hsz hk => iter_zipS hz ?_
      have I2 : Inv X pins σ H1 { s1 with heap := h' } := I1.kept (t' := s1.toks) hk
      have D := zip_sep2 (N := s1.heap.objs.size) (fp1 := [a]) (fp2 := [b]) (by simpa using la) (by simpa using lb)
      have na : a ≠ s1.heap.objs.size := Nat.ne_of_lt la
      have nb : b ≠ s1.heap.objs.size + 1 := Nat.ne_of_lt (Nat.lt_succ_of_lt lb)
      refine ⟨s1.heap.objs.size + 4, [s1.heap.objs.size + 4, s1.heap.objs.size + 2, s1.heap.objs.size + 3, s1.heap.objs.size, s1.heap.objs.size + 1], _, _, H1, rfl, I2, turn_zipS ka kb na nb D, ⟨hz, hI, ⟨_, _, hO⟩, itOb_at h1, itOb_at h2⟩, fun c hcm => ?_, q⟩
      have e' : c = s1.heap.objs.size + 4 ∨ c = s1.heap.objs.size + 2 ∨ c = s1.heap.objs.size + 3 ∨ c = s1.heap.objs.size ∨ c = s1.heap.objs.size + 1 := by simpa using hcm
      have hle : s1.heap.objs.size ≤ c := by
        rcases e' with z | z | z | z | z
        · rw [z]; exact Nat.le_add_right _ _
        · rw [z]; exact Nat.le_add_right _ _
        · rw [z]; exact Nat.le_add_right _ _
        · rw [z]; exact Nat.le_refl _
        · rw [z]; exact Nat.le_add_right _ _
      exact I1.fpOk hle (I1.hok.fresh hle)
def iZipS (fa : AF) : IF := fun L S => (fa L S).bind fun p => match p.1 with
  | [d, e] => (seqD p.2 d).bind fun s => (seqD p.2 e).bind fun t => if s.items.length = t.items.length then some (⟨zipD s.items t.items, fun S => s.ok S ∧ t.ok S⟩, p.2) else none
  | _ => none
section
variable {X : Cx} {pos : Pos}
theorem di_zipS {e e2 : Expr} {f : AF} {p tpos kp kp2 : Pos} {j : Nat} {elts : List Expr} {kk : Nat} (hm : X.mg "zip" = none) (ha : PA X [e, e2] (taOf X.K f)) (hg : Gl X "zip" := by rfl)
    (he : backTo pos (starEach [e, e2] X.env) = (false, eval e X.env) :: backTo pos (starEach [e2] X.env) := by rfl) (hpl : (backTo pos (starEach [e, e2] X.env)).any (·.1) = false := by rfl) :
    PI X (.Tuple elts kk tpos) (.Call (.Name "zip" p) [e, e2] [⟨some "strict", .Constant (.bool true) j kp2, kp⟩] pos) (tiOf X.K (iZipS f)) :=
  pi_imp (pi_zipS hg hm ha he hpl) fun σ H R ⟨m, L, S, src, S', hl, hs, e, q⟩ => by
    obtain ⟨⟨ds, S1⟩, e1, e⟩ := Option.bind_eq_some_iff.mp e
    refine ⟨m, L, S, ds, S1, hl, hs, e1, fun m1 H1 xs x1 s1 r1 => ?_⟩
    dsimp only at e
    split at e
    · rename_i d1 d2
      obtain ⟨x, y, rfl, r, r'⟩ := two_ofL r1
      obtain ⟨sa, ea, e⟩ := Option.bind_eq_some_iff.mp e
      obtain ⟨sb, eb, e⟩ := Option.bind_eq_some_iff.mp e
      split at e
      · rename_i hll
        cases e
        obtain ⟨a, vs, rfl, hq, _⟩ := seq_at ea r s1 (seqD_ok ea)
        obtain ⟨b, us, rfl, hq', _⟩ := seq_at eb r' s1 (seqD_ok eb)
        refine ⟨kdD d1, kdD d2, a, b, vs, us, rfl, hq, hq', q m1 H1 _ [(d1, .ref a), (d2, .ref b)] x1 s1 (two_mem r r') ?_⟩
        intro m2 S2 H2 i _ hp s2 ok
        obtain ⟨a', ws, ea', hw, rr⟩ := seq_at ea (hp _ List.mem_cons_self) s2 ok.1
        cases ea'
        obtain ⟨b', ts, eb', ht, rt⟩ := seq_at eb (hp _ (List.mem_cons_of_mem _ List.mem_cons_self)) s2 ok.2
        cases eb'
        refine ⟨fun y hy => ?_, fun hi => ⟨ws, ts, hw, ht, ?_⟩⟩
        · obtain ⟨y1, y2, h1, h2, rfl⟩ := zipD_get _ _ _ _ hy
          obtain ⟨v, hv, rz⟩ := rr.get h1
          obtain ⟨v', hv', rz'⟩ := rt.get h2
          refine ⟨⟨ws, ts, v, v', hw, ht, hv, hv'⟩, fun u H' hu => ?_⟩
          obtain ⟨T, x', y', rfl, hT, rfl, hx', hy'⟩ := hu
          have e3 := hx' ws hw
          rw [hv] at e3
          cases e3
          have e4 := hy' ts ht
          rw [hv'] at e4
          cases e4
          exact pair_new s2 rz rz' hT
        · have hi : i = (zipD sa.items sb.items).length := hi
          rw [zipD_len] at hi
          rw [rr.length, rt.length]
          omega
      · cases e
    · cases e
end
end DS
namespace DS
open PySem PySem.Spec PyProof.Rows L2
section
variable {K : PySem.W.Frag} {m m' : Lbl} {H H' : Hp} {S S' : Sto}
theorem lab_ne {k : Nat} {p q : Addr} (e : m.l[k]? = some (some p)) (n : NoLbl m q) : q ≠ p := fun z => n.1 k (by rw [z]; exact e)
mutual
/-- the object of a label changed: what leans on no label stands -/
theorem Rep.lab {k0 : Nat} {p : Addr} {o : HO} (e0 : m.l[k0]? = some (some p)) : ∀ (d : D) (v : V), Rep K m H d v → Rep K m (upd H p o) d v
  | .non, _, h => by unfold Rep at h ⊢; exact h
  | .bl _, _, h => by unfold Rep at h ⊢; exact h
  | .int _, _, h => by unfold Rep at h ⊢; exact h
  | .str _, _, h => by unfold Rep at h ⊢; exact h
  | .rep _, _, h => by unfold Rep at h ⊢; exact h
  | .ref k, _, h => by unfold Rep at h ⊢; exact h
  | .tup ds, v, h => by
    unfold Rep at h ⊢
    obtain ⟨q, vs, e, hq, n, r⟩ := h
    exact ⟨q, vs, e, by rw [upd_ne (lab_ne e0 n)]; exact hq, n, Reps.lab e0 ds vs r⟩
  | .tud ds, v, h => by
    unfold Rep at h ⊢
    obtain ⟨q, vs, od, e, hq, hd, n, r⟩ := h
    exact ⟨q, vs, od, e, by rw [upd_ne (lab_ne e0 n)]; exact hq, hd, n, Reps.lab e0 ds vs r⟩
  | .lst ds, v, h => by
    unfold Rep at h ⊢
    obtain ⟨q, vs, e, hq, n, r⟩ := h
    exact ⟨q, vs, e, by rw [upd_ne (lab_ne e0 n)]; exact hq, n, Reps.lab e0 ds vs r⟩
  | .arg ds, v, h => by
    unfold Rep at h ⊢
    obtain ⟨q, vs, e, hq, r⟩ := h
    refine ⟨q, vs, e, ?_, Reps.lab e0 ds vs r⟩
    rcases hq with ⟨hr, n⟩ | hq
    · refine .inl ⟨?_, n⟩
      rcases hr with h1 | ⟨z, h1⟩
      · exact .inl (by rw [upd_ne (lab_ne e0 n)]; exact h1)
      · exact .inr ⟨z, by rw [upd_ne (lab_ne e0 n)]; exact h1⟩
    · exact .inr hq
  | .nod, v, h => by
    unfold Rep at h ⊢
    obtain ⟨q, e, hq, n⟩ := h
    exact ⟨q, e, by rw [upd_ne (lab_ne e0 n)]; exact hq, n⟩
theorem Reps.lab {k0 : Nat} {p : Addr} {o : HO} (e0 : m.l[k0]? = some (some p)) : ∀ (ds : List D) (vs : List V), Reps K m H ds vs → Reps K m (upd H p o) ds vs
  | [], _, h => by unfold Reps at h ⊢; exact h
  | d :: ds, vs, h => by
    unfold Reps at h ⊢
    obtain ⟨v, r, e, h1, h2⟩ := h
    exact ⟨v, r, e, Rep.lab e0 d v h1, Reps.lab e0 ds r h2⟩
end
end

/-! ### a dict is locked while one walks over it -/
def lockS (k : Nat) (S : Sto) : Option Sto := match S[k]? with | some (.dic kvs) => some (S.set k (.dil kvs)) | _ => none
def unlockS (k : Nat) (S : Sto) : Option Sto := match S[k]? with | some (.dil kvs) => some (S.set k (.dic kvs)) | _ => none
def sLockV (i : Nat) (f : SF) : SF := fun L S => match L[i]? with
  | some (some (.ref k)) => (lockS k S).bind fun S1 => (f L S1).bind fun r => (unlockS k r.2.2).map fun S2 => (r.1, r.2.1, S2)
  | _ => none
section
variable {K : PySem.W.Frag} {m m' : Lbl} {H H' : Hp} {S S' : Sto}
theorem unlocked {k : Nat} {a : Addr} {vs : List (Key × V)} {kvs : List (Key × D)} {od : Obj} (s : RelS K m S H) (e1 : m.l[k]? = some (some a)) (e2 : H a = some (.dK vs)) (x : Ext m m' (upd H a (.frz od (.dK vs))) H') (s' : RelS K m' S' H') (hk : S'[k]? = some (.dil kvs)) :
    H' a = some (.frz od (.dK vs)) ∧ Ext m m' H (upd H' a (.dK vs)) ∧ RelS K m' (S'.set k (.dic kvs)) (upd H' a (.dK vs)) ∧ m'.l[k]? = some (some a) := by
  have hf := x.frz a od _ upd_same
  obtain ⟨a', vs', g1, ⟨o', g2⟩, g3⟩ := s'.at_ k _ hk
  have ek : m'.l[k]? = some (some a) := by
    have hkl : k < m.l.length := (List.getElem?_eq_some_iff.mp e1).1
    rcases x.old k hkl with q | q
    · rw [q]; exact e1
    · rw [q] at g1; cases g1
  rw [ek] at g1
  cases g1
  rw [hf] at g2
  cases g2
  refine ⟨hf, ⟨fun b o e n => ?_, fun b e => ?_, fun j b e => ?_, x.old, x.len, x.res, fun b hb => ?_, fun b o u e => ?_⟩, ⟨by simp [s'.len], fun j u ej => ?_, s'.inj, fun b hb => ?_⟩, ek⟩
  · have hne := lab_ne e1 n
    rw [upd_ne hne]
    exact x.keep b o (by rw [upd_ne hne]; exact e) n
  · by_cases h : b = a
    · subst h; rw [upd_same] at e; cases e
    · rw [upd_ne h] at e
      have := x.stay b e
      rw [upd_ne h] at this; exact this
  · rcases x.new j b e with q | q
    · exact .inl q
    · by_cases h : b = a
      · subst h; rw [upd_same] at q; cases q
      · rw [upd_ne h] at q; exact .inr q
  · have hne : b ≠ a := fun z => (s.rsv b hb).2 k (z ▸ e1)
    rw [upd_ne hne, x.fix b hb, upd_ne hne]
  · have hne : b ≠ a := fun z => by subst z; rw [e2] at e; cases e
    rw [upd_ne hne]
    exact x.frz b o u (by rw [upd_ne hne]; exact e)
  · by_cases hj : k = j
    · subst hj
      have hkl : k < S'.length := by
        have := (List.getElem?_eq_some_iff.mp ej).1
        simpa using this
      rw [List.getElem?_set_self hkl] at ej
      cases ej
      exact ⟨a, vs, ek, upd_same, g3.map (Rep.lab ek)⟩
    · rw [List.getElem?_set_ne hj] at ej
      exact (s'.at_ j u ej).map (Rep.lab ek) (Reps.lab ek) rfl fun b eb => upd_ne fun z => hj (s'.inj k j a ek (z ▸ eb))
  · obtain ⟨⟨u, eu, nt⟩, q⟩ := s'.rsv b hb
    have hne : b ≠ a := fun z => q k (z ▸ ek)
    exact ⟨⟨u, by rw [upd_ne hne]; exact eu, nt⟩, q⟩
theorem unlockS_some {k : Nat} {S2 : Sto} (h : unlockS k S' = some S2) : ∃ kvs, S'[k]? = some (.dil kvs) ∧ S2 = S'.set k (.dic kvs) := by
  unfold unlockS at h
  split at h
  · rename_i kvs hk
    cases h
    exact ⟨kvs, hk, rfl⟩
  · cases h
theorem lockS_some {k : Nat} {S2 : Sto} (h : lockS k S = some S2) : ∃ kvs, S[k]? = some (.dic kvs) ∧ S2 = S.set k (.dil kvs) := by
  unfold lockS at h
  split at h
  · rename_i kvs hk
    cases h
    exact ⟨kvs, hk, rfl⟩
  · cases h
theorem locked {k : Nat} {kvs : List (Key × D)} (s : RelS K m S H) (hk : S[k]? = some (.dic kvs)) :
    ∃ a vs, m.l[k]? = some (some a) ∧ H a = some (.dK vs) ∧ ∀ od, Ext m m H (upd H a (.frz od (.dK vs))) ∧ RelS K m (S.set k (.dil kvs)) (upd H a (.frz od (.dK vs))) := by
  obtain ⟨a, vs, g1, g2, g3⟩ := s.at_ k _ hk
  refine ⟨a, vs, g1, g2, fun od => ⟨Ext.put s g1 (nfz g2), s.put g1 (nfz g2) ⟨a, vs, g1, ⟨od, upd_same⟩, RepKs.ext (Ext.put s g1 (nfz g2)) g3⟩⟩⟩
end
section
variable {X : Cx} {st : Stmt} {f : SF}
theorem ds_lock (i : Nat) (h : PS X st (tsOf X.K f)) : PS X st (tsOf X.K (sLockV i f)) :=
  ps_imp (ps_lock h) fun E σ H ⟨m, L, S, r, L', S', hl, hs, e, q⟩ => by
    unfold sLockV at e
    split at e
    · rename_i k hi
      obtain ⟨S1, e1, e⟩ := Option.bind_eq_some_iff.mp e
      obtain ⟨⟨r2, L2, S2⟩, e2, e⟩ := Option.bind_eq_some_iff.mp e
      obtain ⟨S3, e3, e⟩ := Option.map_eq_some_iff.mp e
      cases e
      obtain ⟨kvs, hk, rfl⟩ := lockS_some e1
      obtain ⟨kvs', hk', rfl⟩ := unlockS_some e3
      obtain ⟨a, vs, g1, g2, g3⟩ := locked hs hk
      refine ⟨a, .dK vs, g2, True.intro, fun od => ⟨m, L, S.set k (.dil kvs), r2, L2, S2, hl.ext (g3 od).1, (g3 od).2, e2, ?_⟩⟩
      cases r2 with
      | nx => exact fun m' σ' H' x l s =>
          let ⟨h1, h2, h3, h4⟩ := unlocked hs g1 g2 x s hk'
          ⟨h1, q m' σ' _ h2 ⟨l.len, fun i d e => let ⟨v, e1, r⟩ := l.at_ i d e; ⟨v, e1, Rep.lab h4 _ _ r⟩⟩ h3⟩
      | bk => exact fun m' σ' H' x l s =>
          let ⟨h1, h2, h3, h4⟩ := unlocked hs g1 g2 x s hk'
          ⟨h1, q m' σ' _ h2 ⟨l.len, fun i d e => let ⟨v, e1, r⟩ := l.at_ i d e; ⟨v, e1, Rep.lab h4 _ _ r⟩⟩ h3⟩
      | ct => exact fun m' σ' H' x l s =>
          let ⟨h1, h2, h3, h4⟩ := unlocked hs g1 g2 x s hk'
          ⟨h1, q m' σ' _ h2 ⟨l.len, fun i d e => let ⟨v, e1, r⟩ := l.at_ i d e; ⟨v, e1, Rep.lab h4 _ _ r⟩⟩ h3⟩
      | rt d => exact fun m' H' v x s r =>
          let ⟨h1, h2, h3, h4⟩ := unlocked hs g1 g2 x s hk'
          ⟨h1, q m' _ v h2 h3 (Rep.lab h4 _ _ r)⟩
    · cases e
/-- the keys of a locked dict -/
def iKeyL (f : EF) : IF := fun L S => (f L S).bind fun p => match p.1 with
  | .ref k => match p.2[k]? with | some (.dil kvs) => some (⟨(kvs.map (·.1)).map kD, fun _ => True⟩, p.2) | _ => none
  | _ => none
theorem di_keyL {tg e : Expr} {fe : EF} (he : PE X e (teOf X.K fe)) : PI X tg e (tiOf X.K (iKeyL fe)) :=
  pi_imp (pi_keys he) fun σ H R ⟨m, L, S, src, S', hl, hs, e, q⟩ => by
    obtain ⟨⟨d, S1⟩, e1, e⟩ := Option.bind_eq_some_iff.mp e
    refine ⟨m, L, S, d, S1, hl, hs, e1, fun m1 H1 x x1 s1 r1 => ?_⟩
    dsimp only at e
    split at e
    · rename_i k
      split at e
      · rename_i kvs hk
        cases e
        obtain ⟨a, vs, g1, ⟨o, g2⟩, g3⟩ := s1.at_ k _ hk
        unfold Rep at r1
        cases r1.2 a g1
        refine ⟨a, o, rfl, .inl ⟨vs, g2, q m1 H1 _ [] x1 s1 no_mem ?_⟩⟩
        intro m2 S2 H2 i hz _ s2 _
        have g4 := hz a o _ g2
        refine ⟨fun d hd => ?_, fun hi => ⟨g4, ?_⟩⟩
        · have hd : ((kvs.map (·.1)).map kD)[i]? = some d := hd
          rw [← repK_keys g3, List.map_map, List.getElem?_map] at hd
          cases hv : vs[i]? with
          | none => rw [hv] at hd; cases hd
          | some y =>
            rw [hv] at hd
            cases hd
            refine ⟨⟨g4, (List.getElem?_eq_some_iff.mp hv).1⟩, fun z H' hy => ?_⟩
            obtain ⟨rfl, k', v', h1, rfl⟩ := hy
            rw [hv] at h1
            cases h1
            exact ⟨Ext.refl m2 _, s2, rep_kD _⟩
        · have hi : i = ((kvs.map (·.1)).map kD).length := hi
          rw [hi, List.length_map, List.length_map, repK_len g3]
          exact Nat.le_refl _
      · cases e
    · cases e
end

/-! ### d.get(k, x) -/
def isDic (S : Sto) (k : Nat) : Bool := match S[k]? with | some (.dic _) => true | some (.dit _) => true | _ => false
def eDGet (fo fk fx : EF) : EF := fun L S => (fo L S).bind fun p => match p.1 with
  | .ref k => if isDic p.2 k = true then (fk L p.2).bind fun q => (fx L q.2).bind fun r => (dictGet r.2 k q.1).map fun o => (o.getD r.1, r.2) else none
  | _ => none
section
variable {X : Cx} {o e f : Expr} {apos cpos : Pos} {fo fk fx : EF}
theorem de_dget (hu : X.A.units + 1 < cLine) (ho : PE X o (teOf X.K fo)) (he : PE X e (teOf X.K fk)) (hf : PE X f (teOf X.K fx))
    (base : attributeBase o "get" X.env (eval o X.env) = eval o X.env := by rfl)
    (few : ((backTo cpos (starEach [e, f] X.env)).all (fun x => !x.1) && (backToKw cpos (keywordEach [] X.env)).all (fun x => x.1.isSome)
      && decide (([e, f] : List Expr).length + ([] : List Keyword).length + (if ([] : List Keyword).isEmpty then 0 else 1) < 30)) = true := by rfl)
    (line : (apos.endLine == cpos.line) = true := by rfl) (trees : backTo cpos (starEach [e, f] X.env) = [(false, eval e X.env), (false, eval f X.env)] := by rfl) :
    PE X (.Call (.Attribute o "get" apos) [e, f] [] cpos) (teOf X.K (eDGet fo fk fx)) :=
  pe_imp (pe_dget2 hu ho he hf ⟨base, few, line, trees⟩) fun σ H Q ⟨m, L, S, d, S', hl, hs, e, q⟩ => by
    obtain ⟨⟨z, S1⟩, e1, e⟩ := Option.bind_eq_some_iff.mp e
    refine ⟨m, L, S, z, S1, hl, hs, e1, fun m1 H1 x x1 s1 r1 => ?_⟩
    dsimp only at e
    split at e
    · rename_i k
      split at e
      · rename_i hd
        obtain ⟨⟨y, S2⟩, e2, e⟩ := Option.bind_eq_some_iff.mp e
        obtain ⟨⟨w, S3⟩, e3, e⟩ := Option.bind_eq_some_iff.mp e
        obtain ⟨ov, e4, e⟩ := Option.map_eq_some_iff.mp e
        cases e
        have hx : ∃ a, x = .ref a ∧ IsD H1 a := by
          unfold isDic at hd
          have r1 := r1
          unfold Rep at r1
          split at hd
          · rename_i kvs hk
            obtain ⟨a, vs, g1, g2, g3⟩ := s1.at_ k _ hk
            exact ⟨a, r1.2 a g1, .inl ⟨vs, Rd.of g2⟩⟩
          · rename_i kvs hk
            obtain ⟨a, vs, g1, g2, g3⟩ := s1.at_ k _ hk
            exact ⟨a, r1.2 a g1, .inr ⟨vs, Rd.of g2⟩⟩
          · cases hd
        obtain ⟨a, rfl, hD⟩ := hx
        refine ⟨a, rfl, hD, m1, L, S1, y, S2, hl.ext x1, s1, e2, fun m2 H2 vy x2 s2 r2 => ?_⟩
        refine ⟨m2, L, S2, w, S3, (hl.ext x1).ext x2, s2, e3, fun m3 H3 vw x3 s3 r3 => ?_⟩
        obtain ⟨b, wo, eb, hg, hn, hs4⟩ := dictGet_ok s3 (Rep.ext (x2.trans x3) _ _ r1) (Rep.ext x3 _ _ r2) e4
        cases eb
        refine ⟨wo, hg, ?_⟩
        cases ov with
        | none =>
          rw [hn rfl]
          exact q m3 H3 _ (x1.trans (x2.trans x3)) s3 r3
        | some d2 =>
          obtain ⟨z, ez, rz⟩ := hs4 d2 rfl
          rw [ez]
          exact q m3 H3 _ (x1.trans (x2.trans x3)) s3 rz
      · cases e
    · cases e
end

/-! ### min, max of a list -/
def leastI : List Int → Option Int
  | [] => none
  | n :: ns => some (ns.foldl min n)
def mostI : List Int → Option Int
  | [] => none
  | n :: ns => some (ns.foldl max n)
theorem leastI_min : ∀ {ns : List Int} {n : Int}, ns.foldl min n ∈ n :: ns ∧ ∀ y, y ∈ n :: ns → ns.foldl min n ≤ y
  | [], n => ⟨by simp, fun y hy => by simp at hy; rw [hy]; exact Int.le_refl _⟩
  | k :: ns, n => by
    obtain ⟨h1, h2⟩ := leastI_min (ns := ns) (n := min n k)
    rw [List.foldl_cons]
    refine ⟨?_, fun y hy => ?_⟩
    · rcases List.mem_cons.mp h1 with e | e
      · rw [e]
        by_cases h : n ≤ k
        · rw [Int.min_eq_left h]; exact List.mem_cons_self
        · rw [Int.min_eq_right (by omega)]; exact List.mem_cons_of_mem _ List.mem_cons_self
      · exact List.mem_cons_of_mem _ (List.mem_cons_of_mem _ e)
    · have h0 := h2 _ List.mem_cons_self
      rcases List.mem_cons.mp hy with e | hy
      · subst e; exact Int.le_trans h0 (Int.min_le_left _ _)
      · rcases List.mem_cons.mp hy with e | hy
        · subst e; exact Int.le_trans h0 (Int.min_le_right _ _)
        · exact h2 y (List.mem_cons_of_mem _ hy)
theorem mostI_max : ∀ {ns : List Int} {n : Int}, ns.foldl max n ∈ n :: ns ∧ ∀ y, y ∈ n :: ns → y ≤ ns.foldl max n
  | [], n => ⟨by simp, fun y hy => by simp at hy; rw [hy]; exact Int.le_refl _⟩
  | k :: ns, n => by
    obtain ⟨h1, h2⟩ := mostI_max (ns := ns) (n := max n k)
    rw [List.foldl_cons]
    refine ⟨?_, fun y hy => ?_⟩
    · rcases List.mem_cons.mp h1 with e | e
      · rw [e]
        by_cases h : n ≤ k
        · rw [Int.max_eq_right h]; exact List.mem_cons_of_mem _ List.mem_cons_self
        · rw [Int.max_eq_left (by omega)]; exact List.mem_cons_self
      · exact List.mem_cons_of_mem _ (List.mem_cons_of_mem _ e)
    · have h0 := h2 _ List.mem_cons_self
      rcases List.mem_cons.mp hy with e | hy
      · subst e; exact Int.le_trans (Int.le_max_left _ _) h0
      · rcases List.mem_cons.mp hy with e | hy
        · subst e; exact Int.le_trans (Int.le_max_right _ _) h0
        · exact h2 y (List.mem_cons_of_mem _ hy)
def lstD (S : Sto) : D → Option (List D)
  | .ref k => match S[k]? with | some (.lst xs) => some xs | _ => none
  | .lst xs => some xs
  | .arg xs => some xs
  | _ => none
theorem lstD_ok {K : PySem.W.Frag} {m : Lbl} {S : Sto} {H : Hp} {d : D} {v : V} {xs : List D} (s : RelS K m S H) (r : Rep K m H d v) (e : lstD S d = some xs) : ∃ a vs, v = .ref a ∧ SqL K H a vs ∧ Reps K m H xs vs := by
  cases d with
  | lst ys => cases e; unfold Rep at r; obtain ⟨p, vs, rfl, hp, n, rr⟩ := r; exact ⟨p, vs, rfl, SqL.of hp, rr⟩
  | arg ys => cases e; unfold Rep at r; obtain ⟨p, vs, rfl, hp, rr⟩ := r; exact ⟨p, vs, rfl, hp.sq, rr⟩
  | ref k =>
    have e : (match S[k]? with | some (.lst xs) => some xs | _ => none) = some xs := e
    split at e
    · rename_i ys hk
      cases e
      obtain ⟨a, vs, g1, g2, g3⟩ := s.at_ k _ hk
      unfold Rep at r
      exact ⟨a, vs, r.2 a g1, SqL.of g2, g3⟩
    · cases e
  | _ => cases e
def gMin1 : List D → Sto → Option (D × Sto)
  | [d], S => (lstD S d).bind fun xs => (intsD xs).bind fun ns => (leastI ns).map fun i => (.int i, S)
  | _, _ => none
def gMax1 : List D → Sto → Option (D × Sto)
  | [d], S => (lstD S d).bind fun xs => (intsD xs).bind fun ns => (mostI ns).map fun i => (.int i, S)
  | _, _ => none
theorem min1_ok {K : PySem.W.Frag} : CallOk K (rMin K) gMin1 := by
  intro m S H ds d xs S' Q s r e q
  match ds, e with
  | [a], e =>
    obtain ⟨x, rfl, rx⟩ := one_of r
    obtain ⟨ys, e1, e⟩ := Option.bind_eq_some_iff.mp e
    obtain ⟨ns, e2, e⟩ := Option.bind_eq_some_iff.mp e
    obtain ⟨i, e3, e⟩ := Option.map_eq_some_iff.mp e
    cases e
    obtain ⟨p, vs, rfl, h, rr⟩ := lstD_ok s rx e1
    rw [ints_ok rr e2] at h
    cases ns with
    | nil => cases e3
    | cons n ns =>
      cases e3
      refine ⟨p, n :: ns, rfl, h, by simp, fun m' h1 h2 => ?_⟩
      have hm : m' = ns.foldl min n := Int.le_antisymm (h2 _ leastI_min.1) (leastI_min.2 _ h1)
      rw [hm]
      exact q m H _ (Ext.refl m H) s int_rep
  | [], e => cases e
  | _ :: _ :: _, e => cases e
theorem max1_ok {K : PySem.W.Frag} : CallOk K (rMax K) gMax1 := by
  intro m S H ds d xs S' Q s r e q
  match ds, e with
  | [a], e =>
    obtain ⟨x, rfl, rx⟩ := one_of r
    obtain ⟨ys, e1, e⟩ := Option.bind_eq_some_iff.mp e
    obtain ⟨ns, e2, e⟩ := Option.bind_eq_some_iff.mp e
    obtain ⟨i, e3, e⟩ := Option.map_eq_some_iff.mp e
    cases e
    obtain ⟨p, vs, rfl, h, rr⟩ := lstD_ok s rx e1
    rw [ints_ok rr e2] at h
    cases ns with
    | nil => cases e3
    | cons n ns =>
      cases e3
      refine ⟨p, n :: ns, rfl, h, by simp, fun m' h1 h2 => ?_⟩
      have hm : m' = ns.foldl max n := Int.le_antisymm (mostI_max.2 _ h1) (h2 _ mostI_max.1)
      rw [hm]
      exact q m H _ (Ext.refl m H) s int_rep
  | [], e => cases e
  | _ :: _ :: _, e => cases e
/-! ### a chain as a test -/
section
variable {X : Cx} {a b c : Expr} {pos : Pos} {f1 f2 f3 : EF}
theorem db_chain {op op' : CmpOp} {r r' : R2} {g g' : D → D → Sto → Option (D × Sto)} (ho : OpR X (compareOp op) r) (ho' : OpR X (compareOp op') r') (hk : Op2Ok X.K r g) (hk' : Op2Ok X.K r' g') (ha : PE X a (teOf X.K f1)) (hb : PE X b (teOf X.K f2)) (hc : PE X c (teOf X.K f3))
    {t : PT X (.Compare a [op, op'] [b, c] pos) (tTest (tChain r r' (teOf X.K f1) (teOf X.K f2) (teOf X.K f3)))} : PT X (.Compare a [op, op'] [b, c] pos) (ttOf X.K (bVal (eChain g g' f1 f2 f3))) :=
  pt_imp t fun σ H Q ⟨m, L, S, d, S', hl, hs, e, q⟩ => by
    obtain ⟨⟨z, S1⟩, e1, e⟩ := Option.bind_eq_some_iff.mp e
    refine chain_of hk hk' ⟨m, L, S, z, S1, hl, hs, e1, fun m1 H1 x x1 s1 r1 => ?_⟩
    cases z with
    | bl k =>
      cases rep_bl r1
      cases e
      exact ⟨_, rfl, q m1 H1 x1 s1⟩
    | _ => cases e
end
end DS
namespace DS
open PySem PySem.Spec PyProof.Rows L2

/-! ### list(d.items()) -/
/-- the pairs of a dict -/
def itemsK (kvs : List (Key × D)) : List D := kvs.map fun kv => .tup [kD kv.1, kv.2]
def eItemsL (f : EF) : EF := fun L S => (f L S).bind fun p => match p.1 with
  | .ref k => match p.2[k]? with | some (.dic kvs) => some (.lst (itemsK kvs), p.2) | _ => none
  | _ => none
section
variable {K : PySem.W.Frag} {m : Lbl} {H H' : Hp} {S : Sto}
/-- a heap that has more -/
theorem ext_more (hk : ∀ b o, H b = some o → H' b = some o) (s : RelS K m S H) : Ext m m H H' ∧ RelS K m S H' := by
  have x : Ext m m H H' := {
    keep := fun a o e _ => hk a o e
    stay := fun a e => by
      cases q : H a with
      | none => rfl
      | some o => rw [hk a o q] at e; cases e
    new := fun _ _ e => .inl e
    old := fun _ _ => .inl rfl
    len := Nat.le_refl _
    res := rfl
    fix := fun a h => by
      obtain ⟨⟨o, e, _⟩, _⟩ := s.rsv a h
      rw [e, hk a o e]
    frz := fun a o u e => hk a _ e }
  refine ⟨x, s.len, fun k o e => (s.at_ k o e).ext x rfl fun a ea => ?_, s.inj, fun a h => ?_⟩
  · obtain ⟨z, q⟩ := s.there ea
    rw [q, hk a z q]
  · obtain ⟨⟨o, e, nt⟩, q⟩ := s.rsv a h
    exact ⟨⟨o, hk a o e, nt⟩, q⟩
theorem items_reps (x : Ext m m H H') : ∀ {kvs : List (Key × D)} {vs : List (Key × V)} {ts : List Addr}, RepKs K m H kvs vs → (∀ t, t ∈ ts → NoLbl m t) → Paired (fun (t : Addr) (q : Key × V) => H' t = some (.tup [kV q.1, q.2])) ts vs → Reps K m H' (itemsK kvs) (ts.map V.ref)
  | [], vs, ts, r, _, p => by
    have r : vs = [] := r
    subst r
    cases p
    exact Reps.nil
  | kv :: kvs, vs, ts, r, n, p => by
    obtain ⟨v, r', rfl, h1, h2⟩ := r
    cases p with
    | cons g1 g2 =>
      refine Reps.cons ?_ (items_reps x h2 (fun t ht => n t (List.mem_cons_of_mem _ ht)) g2)
      unfold Rep
      exact ⟨_, _, rfl, g1, n _ List.mem_cons_self, Reps.cons (rep_kD _) (Reps.cons (Rep.ext x _ _ h1) Reps.nil)⟩
end
section
variable {X : Cx} {e : Expr} {te : TE} {p apos cpos pos : Pos} {f : EF}
theorem de_itemsL (hc : X.calm = true) (hm : X.mg "list" = none) (he : PE X e (teOf X.K f)) (hg : Gl X "list" := by rfl) (hbase : attributeBase e "items" X.env (eval e X.env) = eval e X.env := by rfl) (hline : (apos.endLine == cpos.line) = true := by rfl)
    (hs : starEach [.Call (.Attribute e "items" apos) [] [] cpos] X.env = (false, eval (.Call (.Attribute e "items" apos) [] [] cpos) X.env) :: starEach [] X.env := by rfl) :
    PE X (.Call (.Name "list" p) [.Call (.Attribute e "items" apos) [] [] cpos] [] pos) (teOf X.K (eItemsL f)) :=
  pe_imp (LiI.pe_listItems hc he hg hm boot_list hbase hline hs) fun σ H Q ⟨m, L, S, d, S', hl, hs, e, q⟩ => by
    obtain ⟨⟨z, S1⟩, e1, e⟩ := Option.bind_eq_some_iff.mp e
    refine ⟨m, L, S, z, S1, hl, hs, e1, fun m1 H1 x x1 s1 r1 => ?_⟩
    dsimp only at e
    split at e
    · rename_i k
      split at e
      · rename_i kvs hk
        cases e
        obtain ⟨a, vs, g1, g2, g3⟩ := s1.at_ k _ hk
        unfold Rep at r1
        cases r1.2 a g1
        refine ⟨a, vs, rfl, g2, fun H' b ts h1 h2 h3 h4 h5 h6 => ?_⟩
        obtain ⟨y1, y2⟩ := ext_more h1 s1
        refine q m1 H' _ (x1.trans y1) y2 ?_
        unfold Rep
        exact ⟨b, _, rfl, h5, s1.fresh h2, items_reps y1 g3 (fun t ht => s1.fresh (h3 t ht)) h6⟩
      · cases e
    · cases e
end

/-! ### sorted(d.items()) -/
section
variable {X : Cx} {pins : List (Addr × Obj)} {σ : L2.St} {H : Hp} {s : Shared}
/-- what sorted(u) draws together, with new objects -/
def ColN (X : Cx) (pins : List (Addr × Obj)) (σ : L2.St) (H : Hp) (s : Shared) (m : Lbl) (u : Value) (ds : List D) : Prop := ∀ (R : List Value → Shared → Prop) (E' : Value → Shared → Prop),
  (∀ (h' : Heap) (tk : Nat) (us : List Value) (H' : Hp) (vs : List V), Inv X pins σ H' { s with heap := h', toks := tk } → (∀ b o, H b = some o → H' b = some o) → Vals vs us → Reps X.K m H' ds vs → R us { s with heap := h', toks := tk }) → wpAny (model X.prog X.w) X.A.in1 (collect u) R E' s
theorem sorted_colN {m : Lbl} {u : Value} {ds : List D} {Q : VK} (hc : ColN X pins σ H s m u ds) (ok : SrtOk ds) (hz : ds.length ≤ sizeLine) (hu : X.A.units + 66 < cLine)
    (q : ∀ H' p ws, (∀ b o, H b = some o → H' b = some o) → H' p = none → Reps X.K m H' (sortD false ds) ws → Q (.ref p) (upd H' p (.lst ws))) : wpAny (model X.prog X.w) X.A (call (.builtin "sorted") [u]) (EP X pins σ Q) X.xe s := by
  refine Calls.call_function_entry kind_sorted plain_sorted entry_sorted (args_sorted1 _) ?_
  unfold Builtin.«sorted»
  refine wpAny_bind (m := checkCount "sorted" 1 1 _) (wpAny_pure ?_)
  refine wpAny_bind (hc _ _ fun h' tk us H' vs I1 hk rv r => ?_)
  have hL : us.length ≤ sizeLine := by rw [← rv.length, r.length]; exact hz
  refine wpAny_bind (wpAny_newList ?_ hL)
  have hat : (h'.push (seqObj "list" us.toArray 0)).get? h'.objs.size = some (seqObj "list" us.toArray 0) := Heap.get?_push_size _ rfl
  refine wpAny_bind (wpAny_holding (wpAny_call_entry slot_list_sort ⟨_, hat, rfl⟩ entry_list_sort ?_ (args_list_sort _)))
  have keepS : ∀ b o, h'.get? b = some o → (PySem.W.sortingHeap (h'.push (seqObj "list" us.toArray 0)) h'.objs.size us).get? b = some o := fun b o e =>
    PySem.W.sortingHeap_old (Nat.ne_of_lt (Heap.lt_size e)) (Heap.get?_push_of_some _ e)
  obtain ⟨e1, e2⟩ := each_of X.K I1 r rv ok.1
  have e2' : PySem.W.EachIs (fun v (b : D × V) => ∃ as, Reads (PySem.W.sortingHeap (h'.push (seqObj "list" us.toArray 0)) h'.objs.size us) v (toPy b.1) as) us (ds.zip vs) := e2.mono fun _ _ ⟨as, r⟩ => ⟨as, PyProof.Rows.Reads.keeps keepS r⟩
  have em : (ds.zip vs).map (fun b => toPy b.1) = ds.map toPy := by
    have hm : (ds.zip vs).map (fun b => toPy b.1) = ((ds.zip vs).map (·.1)).map toPy := by rw [List.map_map]; rfl
    rw [hm, zip_fst r.length]
  have hal : PySem.W.AllAlike ((ds.zip vs).map fun b => toPy b.1) := by rw [em]; exact ok.2.1
  have hsk : PySem.W.Sortable ((ds.zip vs).map fun b => toPy b.1) := by rw [em]; exact ok.2.2.1
  have hdp : ∀ d, d ∈ (ds.zip vs).map (fun b => toPy b.1) → X.A.units + 2 + d.depth < cLine := fun d hd => by
    rw [em] at hd
    obtain ⟨b, hb, rfl⟩ := List.mem_map.mp hd
    have := ok.2.2.2 b hb
    omega
  refine PySem.W.list_sort_vals (s := { s with heap := h'.push (seqObj "list" us.toArray 0), toks := tk }) (κ := PySem.W.dataKind (PySem.W.sortingHeap (h'.push (seqObj "list" us.toArray 0)) h'.objs.size us) ((ds.zip vs).map fun b => toPy b.1)) hat
    (PySem.W.SortsAt.data (s := { s with heap := PySem.W.sortingHeap (h'.push (seqObj "list" us.toArray 0)) h'.objs.size us, toks := tk }) (PySem.W.each_map (R := fun v d => ∃ as, Reads (PySem.W.sortingHeap (h'.push (seqObj "list" us.toArray 0)) h'.objs.size us) v d as) (fun b : D × V => toPy b.1) e2') hal hsk hdp) hL ⟨.none, rfl, ?_⟩
  refine wpAny_pure ⟨_, rfl, ?_⟩
  have es := PySem.W.sortVals_data (enc := fun b : D × V => toPy b.1) false e1 e2' hal
  obtain ⟨g1, g2⟩ := each_back es
  obtain ⟨ep, he'⟩ := PyProof.Rows.sortedHeap_at (vs := us) (out := (PySem.W.sortVals (PySem.W.dataKind (PySem.W.sortingHeap (h'.push (seqObj "list" us.toArray 0)) h'.objs.size us) ((ds.zip vs).map fun b => toPy b.1)) false us us).toArray) hat
  have hs : ((ds.zip vs).mergeSort (PySem.W.dataLe false fun b => toPy b.1)).map (·.1) = sortD false ds := by
    unfold sortD
    have hm := List.map_mergeSort (r := PySem.W.dataLe false fun b : D × V => toPy b.1) (s := PySem.W.dataLe false toPy) (f := fun b : D × V => b.1) (l := ds.zip vs) (fun a _ b _ => rfl)
    rw [zip_fst r.length] at hm
    exact hm
  rw [hs] at g2
  have hlen : (((ds.zip vs).mergeSort (PySem.W.dataLe false fun b => toPy b.1)).map (·.2)).length ≤ sizeLine := by
    rw [List.length_map, (List.mergeSort_perm _ _).length_eq, List.length_zip]
    exact Nat.le_trans (Nat.min_le_left _ _) hz
  refine ⟨.ref h'.objs.size, upd H' h'.objs.size (.lst (((ds.zip vs).mergeSort (PySem.W.dataLe false fun b => toPy b.1)).map (·.2))), ?_, rfl, q H' _ _ hk (I1.hok.fresh (Nat.le_refl _)) g2⟩
  refine I1.laid (t' := tk) (fun b o e => (PyProof.Rows.sortedHeap_old (Nat.ne_of_lt (Heap.lt_size e)) (by
    exact Heap.lt_size (Heap.get?_push_of_some (seqObj "list" us.toArray 0) e))).trans (Heap.get?_push_of_some _ e)) (Nat.le_refl _) ⟨hlen, _, ep, g1, he'⟩
/-- the pairs just laid are tracked -/
theorem items_laid2 {lo : Addr} {h' : Heap} {tk : Nat} {kvs : List (Key × V)} {vs : List (Key × Value)} {as : List Addr} (I : Inv X pins σ H s) (kv : KV kvs vs) (hlo : s.heap.objs.size ≤ lo)
    (hk : ∀ b o, s.heap.get? b = some o → h'.get? b = some o) (hl : as.length = vs.length) (hG : PySem.W.KdxG (mixKind X.prog X.w) vs lo h' as) :
    ∃ H' : Hp, (∀ b o, H b = some o → H' b = some o) ∧ (∀ t ∈ as, H t = none) ∧ Paired (fun (t : Addr) (q : Key × V) => H' t = some (.tup [kV q.1, q.2])) as kvs ∧ Inv X pins σ H' { s with heap := h', toks := tk } := by
  have lk : kvs.length = vs.length := Paired.length kv
  have nd : as.Nodup := List.Pairwise.imp (fun {a b} (h : a < b) => Nat.ne_of_lt h) hG.rise
  have new : ∀ t ∈ as, H t = none := fun t ht => I.hok.fresh (Nat.le_of_lt (Nat.lt_of_le_of_lt hlo (hG.above t ht)))
  have atP := LiI.putT_at as kvs H (by omega) nd
  have off : ∀ b, b ∉ as → LiI.putT H as kvs b = H b := fun b h1 => LiI.putT_off as kvs _ h1
  have low : ∀ b o, s.heap.get? b = some o → b ∉ as := fun b o e z => absurd (Heap.lt_size e) (Nat.not_lt.mpr (Nat.le_of_lt (Nat.lt_of_le_of_lt hlo (hG.above b z))))
  have kp : ∀ b u, H b = some u → (LiI.putT H as kvs) b = some u := fun b u e => by
    rw [off b (fun z => by rw [new b z] at e; cases e)]
    exact e
  refine ⟨LiI.putT H as kvs, kp, new, atP, ?_⟩
  refine I.call' (ch := []) rfl ⟨fun b o q _ _ _ => hk b o q, fun b o q _ _ _ => ⟨o.slots, hk b o q⟩, fun b o q n _ => ?_, fun b o q _ => ⟨o, hk b o q⟩, fun b xs q => kp b _ q, fun b o u q => kp b _ q, fun b ps q => ⟨#[], by rw [kp b _ q]; simp⟩⟩ (fun b u q => ?_) I.bare fun b z => by simp at z
  · rw [off b (low b o q)]
    exact n
  · by_cases hb : b ∈ as
    · obtain ⟨j, pk, e1, e2, e3⟩ := LiI.paired_ix atP hb
      rw [e3] at q
      cases q
      obtain ⟨key, k, x, f1, f2, f3⟩ := hG.pairs j b e1
      obtain ⟨qv, g1, g2, g3⟩ := paired_get kv e2
      rw [f1] at g1
      cases g1
      have rk : RelV (kV pk.1) key := by
        rw [g2]
        exact relV_key (show keyIs k key = true from f2)
      exact ⟨by show 2 ≤ sizeLine; decide, [key, x], .cons rk (.cons g3 .nil), ⟨_, f3, rfl, _, rfl⟩⟩
    · rw [off b hb] at q
      exact (I.hok b u q).stay (fun d v _ y => hk d v y) (fun d y => kp d _ y) fun d xs y => kp d _ y
end
noncomputable def eItemsS (f : EF) : EF := fun L S => (f L S).bind fun p => match p.1 with
  | .ref k => match p.2[k]? with | some (.dic kvs) => chk (SrtOk (itemsK kvs) ∧ (itemsK kvs).length ≤ sizeLine) (some (.lst (sortD false (itemsK kvs)), p.2)) | _ => none
  | _ => none
section
variable {X : Cx} {e : Expr} {p apos cpos pos : Pos} {f : EF}
theorem de_itemsS (hc : X.calm = true) (hu : X.A.units + 66 < cLine) (hm : X.mg "sorted" = none) (he : PE X e (teOf X.K f)) (hg : Gl X "sorted" := by rfl) (hbase : attributeBase e "items" X.env (eval e X.env) = eval e X.env := by rfl) (hline : (apos.endLine == cpos.line) = true := by rfl)
    (hs : starEach [.Call (.Attribute e "items" apos) [] [] cpos] X.env = (false, eval (.Call (.Attribute e "items" apos) [] [] cpos) X.env) :: starEach [] X.env := by rfl) :
    PE X (.Call (.Name "sorted" p) [.Call (.Attribute e "items" apos) [] [] cpos] [] pos) (teOf X.K (eItemsS f)) := by
  refine ⟨fun pins s σ H Q I hq => ?_⟩
  obtain ⟨m, L, S, d, S', hl, hsS, e0, q⟩ := hq
  obtain ⟨⟨z, S1⟩, e1, e0⟩ := Option.bind_eq_some_iff.mp e0
  dsimp only at e0
  split at e0
  · rename_i k
    split at e0
    · rename_i kvs hk
      obtain ⟨⟨ok, hz⟩, e0⟩ := chk_some e0
      cases e0
      refine wpAny_Call_Name_kw (ld_blt I hg hm boot_sorted ?_)
      refine PyProof.Rows.callWith_builtin1 ?_ hs rfl
      rw [hs]
      show wpAny _ _ (spliced ((false, eval (.Call (.Attribute e "items" apos) [] [] cpos) X.env) :: backTo pos (starEach [] X.env))) _ _ s
      refine Calls.spliced_cons ?_
      refine wpAny_Call_method (T := "dict") (id := "dict.items") hbase rfl hline F.plainAttrs_dict F.slot_dict_items F.type_dict_items (thn (he.run pins s σ H (fun x H1 => ∃ m1, Ext m m1 H H1 ∧ RelS X.K m1 S' H1 ∧ Rep X.K m1 H1 (.ref k) x) I ⟨m, L, S, .ref k, S', hl, hsS, e1, fun m1 H1 x x1 s1 r1 => ⟨m1, x1, s1, r1⟩⟩) fun u s1 ⟨x, H1, I1, rx, m1, x1, s1S, r1⟩ => ?_)
      obtain ⟨a, ws, g1, g2, g3⟩ := s1S.at_ k _ hk
      unfold Rep at r1
      cases r1.2 a g1
      obtain rfl : u = Value.ref a := rx
      obtain ⟨hz0, hs0, vs, kv, hdo⟩ := I1.hok a _ g2
      obtain ⟨ep, hat⟩ := hdo.dictAt
      have lk : ws.length = vs.length := Paired.length kv
      have I2 : L2.Inv X pins σ H1 { s1 with heap := s1.heap.push { cls := .type "dict_items", data := .fields #[.ref a] } } := I1.kept (t' := s1.toks) fun b ob q => Heap.get?_push_of_some _ q
      refine ⟨hdo.typeIs, hdo.mapOf.noDict, ?_⟩
      show wpAny _ _ (callWith cpos (.builtin "dict.items") [.ref a] [] []) _ X.xe s1
      refine method_meetsIn F.slot_dict_items F.entry_dict_items rfl (PySem.evalArgs_none ⟨rfl, hdo.typeIs, F.args_dict_items_1 _, _, meets_dict_items (mixKind X.prog X.w) a hs0, ⟨vs, hdo⟩, ?_⟩)
      refine Calls.spliced_nil ?_
      refine sorted_colN (m := m1) (ds := itemsK kvs) (H := H1) (fun R E' hR => ?_) ok hz hu fun H' b us h1 h2 rr => ?_
      · refine PySem.W.kdx_collect (knd := mixKind X.prog X.w) (kvs := vs) (ep := ep) (I1.ok.hd hc) ⟨_, Heap.get?_push_size _ rfl, rfl, rfl⟩ (hat.push _) (by omega) fun h' tk as hk hl hG => ?_
        obtain ⟨H', k1, k2, k3, J⟩ := items_laid2 (tk := tk) I2 kv (Nat.le_refl _) hk hl hG
        refine hR h' tk _ H' (as.map V.ref) J k1 (LiI.vals_refs as) ?_
        obtain ⟨y1, y2⟩ := ext_more k1 s1S
        exact items_reps y1 g3 (fun t ht => s1S.fresh (k2 t ht)) k3
      · obtain ⟨y1, y2⟩ := ext_more h1 s1S
        obtain ⟨z1, z2, z3⟩ := lst_new y2 rr h2
        exact q m1 _ _ (x1.trans (y1.trans z1)) z2 z3
    · cases e0
  · cases e0
end

/-! ### list(range(a, b, c)) -/
/-- the range's bounds are small, its step too -/
def Rg3Ok (i j c : Int) : Prop := RgC i j c (Builtin.Range.rangeSize i j c).toNat ∧ (Builtin.Range.rangeSize i j c).toNat ≤ 2 ^ 24
noncomputable def eLRg3 (fr : Bool) (f : AF) : EF := fun L S => (f L S).bind fun p => match p.1 with
  | [.int i, .int j, .int c] => chk (Rg3Ok i j c) (some (mkL fr (rngC i c (Builtin.Range.rangeSize i j c).toNat) p.2))
  | _ => none
section
variable {X : Cx} {p p2 pos pos2 : Pos} {f : AF}
def rgV3 (i c : Int) (n : Nat) : List V := (List.range n).map fun (k : Nat) => V.int (i + (k : Int) * c)
theorem vals_rg3 {i c : Int} {n : Nat} {acc : Array Value} (h : ItemsOf (fun k v => ∃ t, v = .int (i + k * c) t) acc n) : Vals (rgV3 i c n) acc.toList := by
  have e : acc.toList.length = n := by rw [Array.length_toList]; exact h.1
  unfold rgV3
  rw [← e]
  refine vals_of_get acc.toList _ fun j u hj => ?_
  obtain ⟨t, rfl⟩ := h.2 j u (by rw [← hj, Array.getElem?_toList])
  exact ⟨t, rfl⟩
theorem rng3_reps {K : PySem.W.Frag} {m : Lbl} {H : Hp} (i c : Int) (n : Nat) : Reps K m H (rngC i c n) (rgV3 i c n) := by
  unfold rngC rgV3
  induction List.range n with
  | nil => exact Reps.nil
  | cons k r ih => exact Reps.cons int_rep ih
theorem de_lrg3 (fr : Bool) {a b c : Expr} (hc : X.calm = true) (hml : X.mg "list" = none) (hmr : X.mg "range" = none) (ha : PA X [a, b, c] (taOf X.K f)) (hgl : Gl X "list" := by rfl) (hgr : Gl X "range" := by rfl)
    (hs : starEach [a, b, c] X.env = (false, eval a X.env) :: starEach [b, c] X.env := by rfl) (hpl : (backTo pos2 (starEach [b, c] X.env)).any (·.1) = false := by rfl)
    (na : starEach [.Call (.Name "range" p2) [a, b, c] [] pos2] X.env = (false, eval (.Call (.Name "range" p2) [a, b, c] [] pos2) X.env) :: starEach [] X.env := by rfl) :
    PE X (.Call (.Name "list" p) [.Call (.Name "range" p2) [a, b, c] [] pos2] [] pos) (teOf X.K (eLRg3 fr f)) := by
  refine ⟨fun pins s σ H Q I h => ?_⟩
  obtain ⟨m, L, S, d, S', hl, hsS, e0, q⟩ := h
  obtain ⟨⟨ds, S1⟩, e1, e0⟩ := Option.bind_eq_some_iff.mp e0
  dsimp only at e0
  split at e0
  · rename_i i j k
    obtain ⟨⟨⟨c0, c1, c2, c3⟩, hn⟩, e0⟩ := chk_some e0
    refine Call_ (ld_blt I hgl hml boot_list (PyProof.Rows.callWith_type1 (args_cons ?_ na) na))
    refine Call_ (ld_blt I hgr hmr boot_range (PyProof.Rows.callWith_type1 (thn (ha.run pos2 pins s σ H (fun vs H1 => ∃ m1, Ext m m1 H H1 ∧ RelS X.K m1 S1 H1 ∧ Reps X.K m1 H1 [.int i, .int j, .int k] vs) I ⟨m, L, S, _, S1, hl, hsS, e1, fun m1 H1 vs x1 s1 r1 => ⟨m1, x1, s1, r1⟩⟩) fun us s1 ⟨vs, H1, I1, rv, m1, x1, s1S, r1⟩ => ?_) hs hpl))
    obtain ⟨x, y, z, rfl, r, r', r''⟩ := three_of r1
    cases rep_int r
    cases rep_int r'
    cases rep_int r''
    cases rv with
    | cons r rr =>
      cases rr with
      | cons r' rr =>
        cases rr with
        | cons r'' rr =>
          cases rr
          obtain ⟨t, rfl⟩ := r
          obtain ⟨t', rfl⟩ := r'
          obtain ⟨t'', rfl⟩ := r''
          refine call_range_3 c0 ?_ (.inl (PyProof.noPylong_small c1))
          have I2 : L2.Inv X pins σ H1 { s1 with heap := s1.heap.push { cls := .type "range", data := .fields #[.int i t, .int j t', .int k t''] } } := I1.kept (t' := s1.toks) fun b o e => Heap.get?_push_of_some _ e
          refine args_nil ?_
          refine call_list_range (I2.ok.hd hc) (IsRange.new ..) c2 c3 hn fun h' tk acc c' hk e' hi => ?_
          obtain ⟨m', y1, y2, y3⟩ := mk_new fr s1S (rng3_reps (K := X.K) (m := m1) (H := H1) i k (Builtin.Range.rangeSize i j k).toNat) (I2.hok.fresh (Nat.le_refl _))
          rw [Option.some.inj e0] at y2 y3
          refine ⟨.ref _, upd H1 _ (.lst (rgV3 i k (Builtin.Range.rangeSize i j k).toNat)), I2.laid hk (Nat.le_refl _) (show ObjOk X.prog X.w _ _ _ (.lst _) from ⟨?_, acc.toList, c', vals_rg3 hi, ?_⟩), rfl, q m' _ _ (x1.trans y1) y2 y3⟩
          · unfold rgV3
            rw [List.length_map, List.length_range, sizeLine_eq]; omega
          · rw [Array.toArray_toList]; exact e'
  · cases e0
end
end DS
namespace DS
open PySem PySem.Spec PyProof.Rows L2

/-! ### tuples that are known to have no dict of their own: written, made of a list, joined -/
section
variable {K : PySem.W.Frag} {m : Lbl} {H : Hp} {S : Sto}
theorem tud_new {p : Addr} {o : Obj} {ds : List D} {vs : List V} (s : RelS K m S H) (r : Reps K m H ds vs) (hp : H p = none) (hd : o.dict = none) :
    Ext m m H (upd H p (.frz o (.tup vs))) ∧ RelS K m S (upd H p (.frz o (.tup vs))) ∧ Rep K m (upd H p (.frz o (.tup vs))) (.tud ds) (.ref p) := by
  refine ⟨Ext.laid s hp, s.laid hp, ?_⟩
  unfold Rep
  exact ⟨p, vs, o, rfl, upd_same, hd, s.fresh hp, Reps.ext (Ext.laid s hp) _ _ r⟩
end
section
variable {X : Cx} {es : List Expr} {pos : Pos} {f : AF}
def tTupD (t : TA) : TE := fun σ H Q => t σ H fun xs H1 => xs.length ≤ sizeLine ∧ ∀ p o, H1 p = none → o.dict = none → Q (.ref p) (upd H1 p (.frz o (.tup xs)))
theorem pe_tupD {x1} {t : TA} (h : PA X es t) : PE X (.Tuple es x1 pos) (tTupD t) := by
  refine ⟨fun pins s σ H Q I hq => ?_⟩
  refine wpAny_Tuple_spliced (thn (h.run pos pins s σ H _ I hq) fun us s1 ⟨xs, H1, I1, r, z, q⟩ => ⟨by rw [← r.length]; exact z, ?_⟩)
  have hf : H1 s1.heap.objs.size = none := I1.hok.fresh (Nat.le_refl _)
  refine ⟨.ref s1.heap.objs.size, upd H1 s1.heap.objs.size (.frz { cls := .type "tuple", data := .seq us.toArray } (.tup xs)), I1.laid (t' := s1.toks) (fun b u e => Heap.get?_push_of_some _ e) (Nat.le_refl _) ?_, rfl, q _ _ hf rfl⟩
  exact ⟨Heap.get?_push_size _ rfl, z, us, r, ⟨_, Heap.get?_push_size _ rfl, rfl, _, rfl⟩⟩
def eTupD (f : AF) : EF := fun L S => (f L S).bind fun p => if p.1.length ≤ sizeLine then some (.tud p.1, p.2) else none
theorem de_tupD {x1} (h : PA X es (taOf X.K f)) : PE X (.Tuple es x1 pos) (teOf X.K (eTupD f)) :=
  pe_imp (pe_tupD h) fun σ H Q ⟨m, L, S, d, S', hl, hs, e, q⟩ => by
    obtain ⟨⟨ds, S1⟩, e1, e⟩ := Option.bind_eq_some_iff.mp e
    refine ⟨m, L, S, ds, S1, hl, hs, e1, fun m1 H1 xs x1 s1 r1 => ?_⟩
    dsimp only at e
    split at e
    · rename_i hz
      cases e
      refine ⟨by rw [r1.length]; exact hz, fun p o hp hd => ?_⟩
      obtain ⟨y1, y2, y3⟩ := tud_new s1 r1 hp hd
      exact q m1 _ _ (x1.trans y1) y2 y3
    · cases e
/-- tuple(list) -/
def rTupD (K : PySem.W.Frag) : List V → Hp → VK → Prop := fun xs H Q => ∃ p ys, xs = [.ref p] ∧ SqL K H p ys ∧ ∀ l o, H l = none → o.dict = none → Q (.ref l) (upd H l (.frz o (.tup ys)))
theorem call_tupD : CallR X (.type "tuple") (rTupD X.K) := by
  intro pins s σ H xs us Q I r h
  obtain ⟨p, ys, rfl, hq, q⟩ := h
  obtain ⟨u, rfl, rx⟩ := vals1 r
  cases rx
  obtain ⟨its, r', pl, hz⟩ := I.list hq
  have hlen := r'.length
  refine call_tuple_list pl.isList (fun h' kp => ?_) (by simp only [List.size_toArray] <;> omega)
  have I1 : Inv X pins σ H { s with heap := h' } := I.kept (t' := s.toks) kp
  have I2 : Inv X pins σ (upd H h'.objs.size (.frz { cls := .type "tuple", data := .seq its.toArray } (.tup ys))) { s with heap := h'.push { cls := .type "tuple", data := .seq its.toArray } } :=
    I1.laid (t' := s.toks) (fun b o e => Heap.get?_push_of_some _ e) (Nat.le_refl _) (show ObjOk X.prog X.w _ _ _ (.frz _ (.tup ys)) from ⟨Heap.get?_push_size _ rfl, hz, its, r', IsTup.new _ _⟩)
  exact ⟨.ref h'.objs.size, _, I2, rfl, q _ _ (I1.hok.fresh (Nat.le_refl _)) rfl⟩
def gTupleD : List D → Sto → Option (D × Sto)
  | [d], S => (lstD S d).map fun xs => (.tud xs, S)
  | _, _ => none
theorem tupD_ok {K : PySem.W.Frag} : CallOk K (rTupD K) gTupleD := by
  intro m S H ds d xs S' Q s r e q
  match ds, e with
  | [a], e =>
    obtain ⟨x, rfl, rx⟩ := one_of r
    obtain ⟨ys, e1, e⟩ := Option.map_eq_some_iff.mp e
    cases e
    obtain ⟨p, vs, rfl, h, rr⟩ := lstD_ok s rx e1
    refine ⟨p, vs, rfl, h, fun l o hl hd => ?_⟩
    obtain ⟨y1, y2, y3⟩ := tud_new s rr hl hd
    exact q m _ _ y1 y2 y3
  | [], e => cases e
  | _ :: _ :: _, e => cases e
/-- t + u -/
def rCatD (K : PySem.W.Frag) : R2 := fun x y H Q => ∃ a b xs ys, x = .ref a ∧ y = .ref b ∧ SqT K H a xs ∧ SqT K H b ys ∧ xs.length + ys.length ≤ sizeLine ∧
  (xs = [] → Q (.ref b) H) ∧ (xs ≠ [] → ys = [] → Q (.ref a) H) ∧ (xs ≠ [] → ys ≠ [] → ∀ p o, H p = none → o.dict = none → Q (.ref p) (upd H p (.frz o (.tup (xs ++ ys)))))
theorem op_catD : OpR X (binaryOp .Add) (rCatD X.K) := by
  intro pins s σ H x y v u Q I rx ry h
  obtain ⟨a, b, xs, ys, rfl, rfl, ha, hb, hz, q0, q1, q2⟩ := h
  cases rx
  cases ry
  obtain ⟨its, r1, p1, _⟩ := I.tuple ha
  obtain ⟨its2, r2, p2, _⟩ := I.tuple hb
  by_cases hx : xs = []
  · subst hx
    cases r1
    exact cat_tup0 p1 p2 ⟨.ref b, H, I, rfl, q0 rfl⟩
  · refine HT.cat_tup p1 p2 (fun z => hx (r1.nil_iff.mp z)) (fun z => ⟨.ref a, H, I, rfl, q1 hx (r2.nil_iff.mp z)⟩) (fun z => ?_) (by rw [← r1.length, ← r2.length]; exact hz)
    refine ⟨.ref s.heap.objs.size, _, I.laid (t' := s.toks) (o := .frz { cls := .type "tuple", data := .seq (its ++ its2).toArray } (.tup (xs ++ ys))) (fun b ob q => Heap.get?_push_of_some _ q) (Nat.le_refl _) ?_, rfl, q2 hx (fun w => z (r2.nil_iff.mpr w)) _ _ (I.hok.fresh (Nat.le_refl _)) rfl⟩
    exact ⟨Heap.get?_push_size _ rfl, by rw [List.length_append]; exact hz, _, r1.append r2, IsTup.new _ _⟩
def gAddD : D → D → Sto → Option (D × Sto)
  | .tud xs, .tud ys, S => if xs.length + ys.length ≤ sizeLine then some (.tud (xs ++ ys), S) else none
  | _, _, _ => none
theorem ok_addD {K : PySem.W.Frag} : Op2Ok K (rCatD K) gAddD := by
  intro m S H a b d x y S' Q s ra rb e q
  unfold gAddD at e
  split at e
  · rename_i xs ys
    split at e
    · rename_i hz
      cases e
      obtain ⟨p, vs, od, rfl, _, _, hp, r1⟩ := tud_at ra
      obtain ⟨p', vs', od', rfl, _, _, hp', r2⟩ := tud_at rb
      refine ⟨p, p', vs, vs', rfl, rfl, hp, hp', by rw [r1.length, r2.length]; exact hz, fun h => ?_, fun _ h' => ?_, fun h h' l o hl hd => ?_⟩
      · have := (reps_nil r1).mp h
        subst this
        exact q m H _ (Ext.refl m H) s rb
      · have := (reps_nil r2).mp h'
        subst this
        refine q m H _ (Ext.refl m H) s ?_
        rw [List.append_nil]; exact ra
      · obtain ⟨y1, y2, y3⟩ := tud_new s (r1.append r2) hl hd
        exact q m _ _ y1 y2 y3
    · cases e
  · cases e
end

/-! ### t.index(k), t.count(k), l.index(k): numbers -/
section
variable {X : Cx}
theorem tud_ty {pins : List (Addr × Obj)} {σ : L2.St} {H : Hp} {s : Shared} {p : Addr} {vs : List V} {o : Obj} (I : Inv X pins σ H s) (h : H p = some (.frz o (.tup vs))) (hd : o.dict = none) :
    s.TypeIs (.ref p) "tuple" ∧ ∀ a, Value.ref p = .ref a → ∃ ob, s.heap.get? a = some ob ∧ ob.dict = none := by
  obtain ⟨e1, _, its, _, pl⟩ := (show ObjOk X.prog X.w H s.heap p (.frz o (.tup vs)) from I.hok _ _ h)
  refine ⟨pl.typeIs, fun a e => ?_⟩
  cases e
  exact ⟨o, e1, hd⟩
def tyD (x : V) (H : Hp) : Prop := ∃ p vs o, x = .ref p ∧ H p = some (.frz o (.tup vs)) ∧ o.dict = none
def tBMD (r : V → List V → Hp → VK → Prop) (to : TE) (t : TA) : TE := fun σ H Q => to σ H fun x H1 => tyD x H1 ∧ t σ H1 fun xs H2 => r x xs H2 Q
theorem pe_bmD {o e : Expr} {es : List Expr} {to : TE} {t : TA} {name : Str} {apos cpos : Pos} {id : String} {r : V → List V → Hp → VK → Prop} (slot : Slot "tuple" name id) (hty : typeOf (.builtin id) = pure (.type "method_descriptor")) (hm : MtR X id r) (ho : PE X o to) (ha : PA X (e :: es) t)
    (hbase : attributeBase o name X.env (eval o X.env) = eval o X.env := by rfl)
    (hfew : ((backTo cpos (starEach (e :: es) X.env)).all (fun x => !x.1) && (backToKw cpos (keywordEach [] X.env)).all (fun x => x.1.isSome)
      && decide ((e :: es).length + ([] : List Keyword).length + (if ([] : List Keyword).isEmpty then 0 else 1) < 30)) = true := by rfl)
    (hline : (apos.endLine == cpos.line) = true := by rfl) (hs : starEach (e :: es) X.env = (false, eval e X.env) :: starEach es X.env := by rfl) (hplain : (backTo cpos (starEach es X.env)).any (·.1) = false := by rfl) :
    PE X (.Call (.Attribute o name apos) (e :: es) [] cpos) (tBMD r to t) := by
  refine ⟨fun pins s σ H Q I h => ?_⟩
  refine wpAny_Call_method_late hbase hfew hline rfl (thn (ho.run pins s σ H _ I h) fun v s1 ⟨x, H1, I1, r1, ty, q1⟩ => ?_)
  obtain ⟨p, vs0, od, rfl, hp, hd⟩ := ty
  obtain rfl : v = Value.ref p := r1
  obtain ⟨h1, h2⟩ := tud_ty I1 hp hd
  refine ⟨"tuple", id, PySem.F.plainAttrs_tuple, slot, hty, h1, h2, ?_⟩
  have hA := ha.run cpos pins s1 σ H1 _ I1 q1
  rw [hs] at hA ⊢
  refine Calls.callWith_builtin (by show (false || (backTo cpos (starEach es X.env)).any (·.1)) = false; rw [hplain] <;> rfl) (Calls.evalArgs_plain ?_)
  exact thn hA fun us s2 ⟨vs, H2, I2, r2, q2⟩ => hm pins s2 σ H2 (.ref p) vs (.ref p) us Q I2 rfl r2 q2
def rIdxT (K : PySem.W.Frag) : V → List V → Hp → VK → Prop := fun x xs H Q => ∃ p, ∃ ns : List Int, ∃ k, x = .ref p ∧ xs = [.int k] ∧ SqT K H p (ns.map V.int) ∧ k ∈ ns ∧ Q (.int (ns.idxOf k : Nat)) H
theorem mt_idxT : MtR X "tuple.index" (rIdxT X.K) := by
  intro pins s σ H x xs v us Q I rx rs h
  obtain ⟨p, ns, k, rfl, rfl, hq, hk, q⟩ := h
  cases rx
  obtain ⟨u, rfl, t, rfl⟩ := vals1 rs
  obtain ⟨its, r, pl, hz⟩ := I.tuple hq
  exact PySem.SeqAt.tuple_index_ints pl r.ints hk ⟨.int _, H, I.tok _, ⟨_, rfl⟩, q⟩
def rCntT (K : PySem.W.Frag) : V → List V → Hp → VK → Prop := fun x xs H Q => ∃ p, ∃ ns : List Int, ∃ k, x = .ref p ∧ xs = [.int k] ∧ SqT K H p (ns.map V.int) ∧ Q (.int (ns.count k : Nat)) H
theorem reads_ints {h : Heap} : ∀ {us : List Value} {ns : List Int}, Vals (ns.map V.int) us → ∃ as, ReadsAll h us (ns.map PyData.int) as
  | _, [], r => by cases r; exact ⟨_, .nil⟩
  | _, n :: ns, r => by
    cases r with
    | cons r1 r2 =>
      obtain ⟨t, rfl⟩ := r1
      obtain ⟨as, h2⟩ := reads_ints (h := h) r2
      exact ⟨_, .cons (.int n t) h2⟩
theorem plain_ints : ∀ ns : List Int, PyData.plainAll (ns.map PyData.int) = true
  | [] => rfl
  | n :: ns => by
    rw [List.map_cons]
    unfold PyData.plainAll
    rw [plain_ints ns]
    rfl
theorem depth_ints : ∀ ns : List Int, PyData.depthAll (ns.map PyData.int) ≤ 1
  | [] => by simp [PyData.depthAll]
  | n :: ns => by
    have := depth_ints ns
    rw [List.map_cons]
    simp [PyData.depthAll, PyData.depth]
    omega
theorem countP_ints (k : Int) : ∀ ns : List Int, ((ns.map PyData.int).countP fun y => PyData.eqv y (.int k)) = ns.count k
  | [] => rfl
  | n :: ns => by
    rw [List.map_cons, List.countP_cons, countP_ints k ns, List.count_cons]
    have e : PyData.eqv (.int n) (.int k) = (n == k) := by
      unfold PyData.eqv
      by_cases h : n = k <;> simp [h]
    rw [e]
theorem mt_cntT (hu : X.A.units + 66 < cLine) : MtR X "tuple.count" (rCntT X.K) := by
  intro pins s σ H x xs v us Q I rx rs h
  obtain ⟨p, ns, k, rfl, rfl, hq, q⟩ := h
  cases rx
  obtain ⟨u, rfl, t, rfl⟩ := vals1 rs
  obtain ⟨its, r, pl, hz⟩ := I.tuple hq
  obtain ⟨as, ra⟩ := reads_ints (h := s.heap) r
  have hd := depth_ints ns
  refine PySem.SeqAt.count_tuple_data (vs := its.toArray) pl (by simpa using ra) (.int k t) (plain_ints ns) rfl (by simp only [PyData.depth]; omega) ⟨.int _, H, I.tok _, ⟨_, rfl⟩, ?_⟩
  rw [countP_ints]
  exact q
def gIdxT (xs : List D) : List D → Option D
  | [.int k] => (intsD xs).bind fun ns => if k ∈ ns then some (.int (ns.idxOf k : Nat)) else none
  | _ => none
def gCntT (xs : List D) : List D → Option D
  | [.int k] => (intsD xs).map fun ns => .int (ns.count k : Nat)
  | _ => none
theorem gIdxT_some {xs as : List D} {d : D} (h : gIdxT xs as = some d) : ∃ k ns, as = [.int k] ∧ intsD xs = some ns ∧ k ∈ ns ∧ d = .int (ns.idxOf k : Nat) := by
  unfold gIdxT at h
  split at h
  · rename_i k
    obtain ⟨ns, e4, h⟩ := Option.bind_eq_some_iff.mp h
    split at h
    · rename_i hk
      cases h
      exact ⟨k, ns, rfl, e4, hk, rfl⟩
    · cases h
  · cases h
theorem gCntT_some {xs as : List D} {d : D} (h : gCntT xs as = some d) : ∃ k ns, as = [.int k] ∧ intsD xs = some ns ∧ d = .int (ns.count k : Nat) := by
  unfold gCntT at h
  split at h
  · rename_i k
    obtain ⟨ns, e4, h⟩ := Option.map_eq_some_iff.mp h
    cases h
    exact ⟨k, ns, rfl, e4, rfl⟩
  · cases h
/-- t.m(a), t known to have no dict -/
def eMetD (g : List D → List D → Option D) (fo : EF) (fa : AF) : EF := fun L S => (fo L S).bind fun p => match p.1 with
  | .tud xs => (fa L p.2).bind fun q => (g xs q.1).map fun d => (d, q.2)
  | _ => none
theorem de_idxT {o e : Expr} {name : Str} {apos cpos : Pos} {fo : EF} {fa : AF} (slot : Slot "tuple" name "tuple.index") (ho : PE X o (teOf X.K fo)) (ha : PA X [e] (taOf X.K fa))
    (hbase : attributeBase o name X.env (eval o X.env) = eval o X.env := by rfl)
    (hfew : ((backTo cpos (starEach [e] X.env)).all (fun x => !x.1) && (backToKw cpos (keywordEach [] X.env)).all (fun x => x.1.isSome)
      && decide ([e].length + ([] : List Keyword).length + (if ([] : List Keyword).isEmpty then 0 else 1) < 30)) = true := by rfl)
    (hline : (apos.endLine == cpos.line) = true := by rfl) (hs : starEach [e] X.env = (false, eval e X.env) :: starEach [] X.env := by rfl) (hplain : (backTo cpos (starEach [] X.env)).any (·.1) = false := by rfl) :
    PE X (.Call (.Attribute o name apos) [e] [] cpos) (teOf X.K (eMetD gIdxT fo fa)) :=
  pe_imp (pe_bmD slot PySem.F.type_tuple_index mt_idxT ho ha hbase hfew hline hs hplain) fun σ H Q ⟨m, L, S, d, S', hl, hs, e, q⟩ => by
    obtain ⟨⟨z, S1⟩, e1, e⟩ := Option.bind_eq_some_iff.mp e
    refine ⟨m, L, S, z, S1, hl, hs, e1, fun m1 H1 x x1 s1 r1 => ?_⟩
    dsimp only at e
    split at e
    · rename_i xs
      obtain ⟨⟨as, S2⟩, e2, e⟩ := Option.bind_eq_some_iff.mp e
      obtain ⟨d', e3, e⟩ := Option.map_eq_some_iff.mp e
      cases e
      obtain ⟨p, vs, od, rfl, hp, hd, hq, rr⟩ := tud_at r1
      refine ⟨⟨p, vs, od, rfl, hp, hd⟩, m1, L, S1, as, S2, hl.ext x1, s1, e2, fun m2 H2 us x2 s2 r2 => ?_⟩
      obtain ⟨p', vs', od', e0, hp', hd', hq', rr'⟩ := tud_at (Rep.ext x2 _ _ r1)
      cases e0
      obtain ⟨k, ns, rfl, e4, hk, rfl⟩ := gIdxT_some e3
      obtain ⟨y, rfl, ry⟩ := one_of r2
      cases rep_int ry
      rw [ints_ok rr' e4] at hq'
      exact ⟨p, ns, k, rfl, rfl, hq', hk, q m2 H2 _ (x1.trans x2) s2 int_rep⟩
    · cases e
theorem de_cntT (hu : X.A.units + 66 < cLine) {o e : Expr} {name : Str} {apos cpos : Pos} {fo : EF} {fa : AF} (slot : Slot "tuple" name "tuple.count") (ho : PE X o (teOf X.K fo)) (ha : PA X [e] (taOf X.K fa))
    (hbase : attributeBase o name X.env (eval o X.env) = eval o X.env := by rfl)
    (hfew : ((backTo cpos (starEach [e] X.env)).all (fun x => !x.1) && (backToKw cpos (keywordEach [] X.env)).all (fun x => x.1.isSome)
      && decide ([e].length + ([] : List Keyword).length + (if ([] : List Keyword).isEmpty then 0 else 1) < 30)) = true := by rfl)
    (hline : (apos.endLine == cpos.line) = true := by rfl) (hs : starEach [e] X.env = (false, eval e X.env) :: starEach [] X.env := by rfl) (hplain : (backTo cpos (starEach [] X.env)).any (·.1) = false := by rfl) :
    PE X (.Call (.Attribute o name apos) [e] [] cpos) (teOf X.K (eMetD gCntT fo fa)) :=
  pe_imp (pe_bmD slot PySem.F.type_tuple_count (mt_cntT hu) ho ha hbase hfew hline hs hplain) fun σ H Q ⟨m, L, S, d, S', hl, hs, e, q⟩ => by
    obtain ⟨⟨z, S1⟩, e1, e⟩ := Option.bind_eq_some_iff.mp e
    refine ⟨m, L, S, z, S1, hl, hs, e1, fun m1 H1 x x1 s1 r1 => ?_⟩
    dsimp only at e
    split at e
    · rename_i xs
      obtain ⟨⟨as, S2⟩, e2, e⟩ := Option.bind_eq_some_iff.mp e
      obtain ⟨d', e3, e⟩ := Option.map_eq_some_iff.mp e
      cases e
      obtain ⟨p, vs, od, rfl, hp, hd, hq, rr⟩ := tud_at r1
      refine ⟨⟨p, vs, od, rfl, hp, hd⟩, m1, L, S1, as, S2, hl.ext x1, s1, e2, fun m2 H2 us x2 s2 r2 => ?_⟩
      obtain ⟨p', vs', od', e0, hp', hd', hq', rr'⟩ := tud_at (Rep.ext x2 _ _ r1)
      cases e0
      obtain ⟨k, ns, rfl, e4, rfl⟩ := gCntT_some e3
      obtain ⟨y, rfl, ry⟩ := one_of r2
      cases rep_int ry
      rw [ints_ok rr' e4] at hq'
      exact ⟨p, ns, k, rfl, rfl, hq', q m2 H2 _ (x1.trans x2) s2 int_rep⟩
    · cases e
def rIdxL (K : PySem.W.Frag) : V → List V → Hp → VK → Prop := fun x xs H Q => ∃ p, ∃ ns : List Int, ∃ k, x = .ref p ∧ xs = [.int k] ∧ SqL K H p (ns.map V.int) ∧ k ∈ ns ∧ Q (.int (ns.idxOf k : Nat)) H
theorem mt_idxL : MtR X "list.index" (rIdxL X.K) := by
  intro pins s σ H x xs v us Q I rx rs h
  obtain ⟨p, ns, k, rfl, rfl, hq, hk, q⟩ := h
  cases rx
  obtain ⟨u, rfl, t, rfl⟩ := vals1 rs
  obtain ⟨its, r, pl, hz⟩ := I.list hq
  exact PySem.SeqAt.list_index_ints pl.isList r.ints (by rw [List.length_map] at hz; exact hz) hk ⟨.int _, H, I.tok _, ⟨_, rfl⟩, q⟩
/-- l.index(k) -/
def eIdxL (fo : EF) (fa : AF) : EF := fun L S => (fo L S).bind fun p => match p.1 with
  | .lst xs => (fa L p.2).bind fun q => (gIdxT xs q.1).map fun d => (d, q.2)
  | _ => none
theorem de_idxL {o e : Expr} {apos cpos : Pos} {fo : EF} {fa : AF} (ho : PE X o (teOf X.K fo)) (ha : PA X [e] (taOf X.K fa))
    (hbase : attributeBase o "index" X.env (eval o X.env) = eval o X.env := by rfl)
    (hfew : ((backTo cpos (starEach [e] X.env)).all (fun x => !x.1) && (backToKw cpos (keywordEach [] X.env)).all (fun x => x.1.isSome)
      && decide ([e].length + ([] : List Keyword).length + (if ([] : List Keyword).isEmpty then 0 else 1) < 30)) = true := by rfl)
    (hline : (apos.endLine == cpos.line) = true := by rfl) (hs : starEach [e] X.env = (false, eval e X.env) :: starEach [] X.env := by rfl) (hplain : (backTo cpos (starEach [] X.env)).any (·.1) = false := by rfl) :
    PE X (.Call (.Attribute o "index" apos) [e] [] cpos) (teOf X.K (eIdxL fo fa)) :=
  pe_imp (pe_bm PySem.F.plainAttrs_list PySem.F.slot_list_index PySem.F.type_list_index mt_idxL ho ha hbase hfew hline hs hplain) fun σ H Q ⟨m, L, S, d, S', hl, hs, e, q⟩ => by
    obtain ⟨⟨z, S1⟩, e1, e⟩ := Option.bind_eq_some_iff.mp e
    refine ⟨m, L, S, z, S1, hl, hs, e1, fun m1 H1 x x1 s1 r1 => ?_⟩
    dsimp only at e
    split at e
    · rename_i xs
      obtain ⟨⟨as, S2⟩, e2, e⟩ := Option.bind_eq_some_iff.mp e
      obtain ⟨d', e3, e⟩ := Option.map_eq_some_iff.mp e
      cases e
      have r1' := r1
      unfold Rep at r1'
      obtain ⟨p, vs, rfl, hp, n, rr⟩ := r1'
      refine ⟨.inl ⟨rfl, vs, SqL.of hp⟩, m1, L, S1, as, S2, hl.ext x1, s1, e2, fun m2 H2 us x2 s2 r2 => ?_⟩
      have r1'' := Rep.ext x2 _ _ r1
      unfold Rep at r1''
      obtain ⟨p', vs', e0, hp', n', rr'⟩ := r1''
      cases e0
      obtain ⟨k, ns, rfl, e4, hk, rfl⟩ := gIdxT_some e3
      obtain ⟨y, rfl, ry⟩ := one_of r2
      cases rep_int ry
      rw [ints_ok rr' e4] at hp'
      exact ⟨p, ns, k, rfl, rfl, SqL.of hp', hk, q m2 H2 _ (x1.trans x2) s2 int_rep⟩
    · cases e
end

/-! ### x += e, numbers -/
section
variable {X : Cx} {pos : Pos}
def sAug (i : Nat) (f : EF) : SF := fun L S => match L[i]? with
  | some (some (.int a)) => (f L S).bind fun p => match p.1 with | .int b => some (.nx, L.set i (some (.int (a + b))), p.2) | _ => none
  | _ => none
theorem ds_aug {i : Nat} {x : Str} {e : Expr} {f : EF} {pos' : Pos} (hN : X.N.Nodup) (he : PE X e (teOf X.K f)) (hi : X.N[i]? = some x := by rfl) (hx : L2.Loc X.env.scope x := by first | exact .inl rfl | exact .inr rfl) (hf : X.fn x = true ∨ X.env.scope.names.lookup x = some .local := by first | exact .inl rfl | exact .inr rfl) :
    PS X (.AugAssign (.Name x pos') .Add e pos) (tsOf X.K (sAug i f)) :=
  ps_imp (ps_aug hN hi hx he ip_add hf) fun E σ H ⟨m, L, S, r, L', S', hl, hs, e, q⟩ => by
    unfold sAug at e
    split at e
    · rename_i a ha
      obtain ⟨⟨z, S1⟩, e1, e⟩ := Option.bind_eq_some_iff.mp e
      dsimp only at e
      split at e
      · rename_i b
        cases e
        obtain ⟨v, g1, g2⟩ := hl.at_ i _ ha
        cases rep_int g2
        refine ⟨_, g1, m, L, S, .int b, _, hl, hs, e1, fun m1 H1 x x1 s1 r1 => ?_⟩
        cases rep_int r1
        exact ⟨_, _, rfl, rfl, q m1 _ H1 x1 ((hl.ext x1).set i int_rep) s1⟩
      · cases e
    · cases e
end
end DS
namespace DS
open PySem PySem.Spec PyProof.Rows L2

/-! ### {k: v for .. in .. if ..} -/
section
variable {K : PySem.W.Frag} {m m' : Lbl} {H H' : Hp} {S : Sto}
theorem Ext.freeO {p : Addr} {o1 o2 : HO} (x : Ext (m.hold p) m' (upd H p o1) H') (hp : H p = none) (r : RelS K m S H) : Ext m ⟨m'.l, m.r⟩ H (upd H' p o2) where
  keep := fun a o e n => by
    have hne := ne_of_none e hp
    rw [upd_ne hne]
    exact x.keep a o (by rw [upd_ne hne]; exact e) (n.hold hne)
  stay := fun a e => by
    by_cases h : a = p
    · subst h; exact hp
    · rw [upd_ne h] at e
      have := x.stay a e
      rw [upd_ne h] at this
      exact this
  new := fun k a e => by
    rcases x.new k a e with q | q
    · exact .inl q
    · by_cases h : a = p
      · subst h; exact .inr hp
      · rw [upd_ne h] at q; exact .inr q
  old := fun k hk => x.old k hk
  len := x.len
  res := rfl
  fix := fun a h => by
    obtain ⟨⟨u, e, _⟩, _⟩ := r.rsv a h
    have hne := ne_of_none e hp
    rw [upd_ne hne, x.fix a (List.mem_cons_of_mem _ h), upd_ne hne]
  frz := fun a o u e => by
    have hne := ne_of_none e hp
    rw [upd_ne hne]
    exact x.frz a o u (by rw [upd_ne hne]; exact e)
end
abbrev DF := Loc → Sto → Option (List (Key × D) × Sto)
noncomputable def dcL (ok : Sto → Prop) (g : GF) (tt : TF) (tk tv : EF) (L0 : Loc) : List D → List (Key × D) → Sto → Option (List (Key × D) × Sto)
  | [], acc, S => chk (ok S) (some (acc, S))
  | d :: ds, acc, S => chk (ok S) ((g d L0 S).bind fun L1 => (tt L1 S).bind fun p => if p.1 = true then (tk L1 p.2).bind fun y => (tv L1 y.2).bind fun z => (keyD y.1).bind fun k => if acc.length < sizeLine then dcL ok g tt tk tv L0 ds (putD acc k z.1) z.2 else none else dcL ok g tt tk tv L0 ds acc p.2)
noncomputable def dcF (own : List Nat) (it : IF) (g : GF) (tt : TF) (tk tv : EF) : DF := fun L S => (it L S).bind fun p => dcL p.1.ok g tt tk tv (wipeL L own) p.1.items [] p.2
def eDc (f : DF) : EF := fun L S => (f L S).bind fun p => some (.ref p.2.length, p.2 ++ [.dic p.1])
/-- a fresh dict: nobody else holds it -/
def TDic (K : PySem.W.Frag) (t : TE) (f : DF) : Prop := ∀ (σ : L2.St) (H : Hp) (Q : VK) (m : Lbl) (L : Loc) (S : Sto) (ds : List (Key × D)) (S' : Sto), RelL K m H L σ → RelS K m S H → f L S = some (ds, S') →
  (∀ mm H' p vs, Ext m mm H H' → RelS K (mm.hold p) S' H' → RepKs K (mm.hold p) H' ds vs → H' p = some (.dK vs) → H p = none → Q (.ref p) H') → t σ H Q
theorem tdic_mut {K : PySem.W.Frag} {t : TE} {f : DF} (h : TDic K t f) {σ : L2.St} {H : Hp} {Q : VK} (q : teOf K (eDc f) σ H Q) : t σ H Q := by
  obtain ⟨m, L, S, d, S', hl, hs, e, q⟩ := q
  obtain ⟨⟨ds, S1⟩, e1, e⟩ := Option.bind_eq_some_iff.mp e
  cases e
  refine h σ H Q m L S ds S1 hl hs e1 fun mm H' p vs x s r hp h0 => ?_
  have e0 : (mm.push p).l[mm.l.length]? = some (some p) := by simp [Lbl.push]
  have hpm : p ∉ mm.r := fun hm => by
    rw [x.res] at hm
    obtain ⟨⟨o, e, _⟩, _⟩ := hs.rsv p hm
    rw [h0] at e; cases e
  refine q (mm.push p) H' _ ?_ ?_ ?_
  · exact ⟨x.keep, x.stay, fun k a e => by
      rcases Lbl.push_at e with ⟨_, z⟩ | ⟨_, z⟩
      · exact x.new k a z
      · exact .inr (z ▸ h0), fun k hk => by
      have : (mm.push p).l[k]? = mm.l[k]? := List.getElem?_append_left (Nat.lt_of_lt_of_le hk x.len)
      rw [this]; exact x.old k hk, Nat.le_trans x.len (by simp [Lbl.push]), x.res, x.fix, x.frz⟩
  · refine ⟨by simp [Lbl.push, s.free.len], fun k u e => ?_, fun i j a e1 e2 => ?_, fun a ha => ?_⟩
    · by_cases hk : k < S1.length
      · rw [List.getElem?_append_left hk] at e
        exact (s.at_ k u e).map Rep.label Reps.label (List.getElem?_append_left (by have := s.len; simp [Lbl.hold] at this; omega)) fun a _ => rfl
      · have hk2 : k = S1.length := by
          have := (List.getElem?_eq_some_iff.mp e).1
          simp at this; omega
        subst hk2
        rw [List.getElem?_append_right (Nat.le_refl _)] at e
        simp at e
        subst e
        have hl : S1.length = mm.l.length := by have := s.len; simp [Lbl.hold] at this; exact this.symm
        rw [hl]
        exact ⟨p, vs, e0, hp, repK_label r⟩
    · rcases Lbl.push_at e1 with ⟨_, q1⟩ | ⟨q1, z1⟩ <;> rcases Lbl.push_at e2 with ⟨_, q2⟩ | ⟨q2, z2⟩
      · exact s.inj i j a q1 q2
      · subst z2
        exact absurd q1 ((s.rsv _ List.mem_cons_self).2 i)
      · subst z1
        exact absurd q2 ((s.rsv _ List.mem_cons_self).2 j)
      · omega
    · obtain ⟨q1, q2⟩ := s.rsv a (List.mem_cons_of_mem _ ha)
      refine ⟨q1, fun k ek => ?_⟩
      rcases Lbl.push_at ek with ⟨_, z⟩ | ⟨_, z⟩
      · exact q2 k z
      · exact hpm (z ▸ ha)
  · have hl : S1.length = mm.l.length := by have := s.len; simp [Lbl.hold] at this; exact this.symm
    unfold Rep
    rw [hl]
    exact ⟨by simp [Lbl.push], fun q eq => by rw [e0] at eq; cases eq; rfl⟩
theorem tdic_dc {K : PySem.W.Frag} {it : IF} {g : GF} {is own : List Nat} {tt : TF} {tk tv : EF} (hsub : ∀ i, i ∈ is → i ∈ own) : TDic K (tDc (tiOf K it) (tgOf K is g) (ttOf K tt) (teOf K tk) (teOf K tv) own) (dcF own it g tt tk tv) := by
  intro σ H Q m L S ds S' hl hs e q
  obtain ⟨⟨src, S1⟩, e1, e2⟩ := Option.bind_eq_some_iff.mp e
  refine ⟨m, L, S, src, S1, hl, hs, e1, fun m1 H1 J prs x1 s1 hprs ok => fun p hp => ?_⟩
  have hl1 : RelL K (m1.hold p) (upd H1 p (.dK [])) (wipeL L own) (L2.wipe σ own) := ((hl.ext x1).wipe own).hold hp
  have hpr1 : ∀ q, q ∈ prs → Rep K (m1.hold p) (upd H1 p (.dK [])) q.1 q.2 := fun q hq => Rep.hold hp _ _ (hprs q hq)
  refine ⟨fun i k H2 => ∃ (mm : Lbl) (S2 : Sto) (Hx : Hp) (vs : List (Key × V)) (acc : List (Key × D)), Ext (m1.hold p) (mm.hold p) (upd H1 p (.dK [])) (upd Hx p (.dK [])) ∧ mm.r = m1.r ∧ H2 = upd Hx p (.dK vs) ∧ RelS K (mm.hold p) S2 H2 ∧
    RepKs K (mm.hold p) H2 acc vs ∧ dcL src.ok g tt tk tv (wipeL L own) (src.items.drop i) acc S2 = some (ds, S') ∧ i ≤ src.items.length ∧ k = src.items.length - i, ?_, ?_⟩
  · exact ⟨_, m1, S1, H1, [], [], Ext.refl _ _, rfl, rfl, s1.hold hp, repK_nil, by simpa using e2, Nat.zero_le _, rfl⟩
  · rintro i k H2 ⟨mm, S2, Hx, vs, acc, x2, hr, rfl, s2, ra, e3, hle, rfl⟩
    have fill : ∀ (d : D) (v : V), Rep K (mm.hold p) (upd Hx p (.dK [])) d v → Rep K (mm.hold p) (upd Hx p (.dK vs)) d v := fun d v h => by
      have := Rep.fill (o := .dK vs) d v h
      rw [upd_upd] at this
      exact this
    have frz2 : ∀ a o u, H1 a = some (.frz o u) → (upd Hx p (.dK vs)) a = some (.frz o u) := fun a o u e => by
      have hne := ne_of_none e hp
      have := x2.frz a o u (by rw [upd_ne hne]; exact e)
      rw [upd_ne hne] at this ⊢
      exact this
    have hpr2 : ∀ q, q ∈ prs → Rep K (mm.hold p) (upd Hx p (.dK vs)) q.1 q.2 := fun q hq => fill _ _ (Rep.ext x2 _ _ (hpr1 q hq))
    have hl2 : RelL K (mm.hold p) (upd Hx p (.dK vs)) (wipeL L own) (L2.wipe σ own) := ⟨hl1.len, fun i d e => let ⟨v, e1, r⟩ := (hl1.ext x2).at_ i d e; ⟨v, e1, fill d v r⟩⟩
    by_cases hlt : i < src.items.length
    · right
      have hd : src.items.drop i = src.items[i] :: src.items.drop (i + 1) := List.drop_eq_getElem_cons hlt
      rw [hd] at e3
      obtain ⟨hok, e3⟩ := chk_some e3
      obtain ⟨L3, e4, e3⟩ := Option.bind_eq_some_iff.mp e3
      obtain ⟨⟨b, S3⟩, e5, e3⟩ := Option.bind_eq_some_iff.mp e3
      obtain ⟨go, yl⟩ := (ok (mm.hold p) S2 (upd Hx p (.dK vs)) i frz2 hpr2 s2 hok).1 _ (List.getElem?_eq_getElem hlt)
      refine ⟨go, fun H' => ∃ (mm : Lbl) (S2 : Sto) (Hx : Hp) (vs : List (Key × V)) (acc : List (Key × D)), Ext (m1.hold p) (mm.hold p) (upd H1 p (.dK [])) (upd Hx p (.dK [])) ∧ mm.r = m1.r ∧ H' = upd Hx p (.dK vs) ∧ RelS K (mm.hold p) S2 H' ∧
        RepKs K (mm.hold p) H' acc vs ∧ dcL src.ok g tt tk tv (wipeL L own) (src.items.drop (i + 1)) acc S2 = some (ds, S'), ?_, ?_⟩
      · rintro H' ⟨mm, S2, Hx, vs, acc, y1, y2, y3, y4, y5, y6⟩
        exact ⟨_, by omega, mm, S2, Hx, vs, acc, y1, y2, y3, y4, y5, y6, hlt, rfl⟩
      · intro v H3 hy
        obtain ⟨y1, y2, y3⟩ := yl v H3 hy
        have back : ∀ {m4 : Lbl} {H4 : Hp} {S4 : Sto}, Ext (mm.hold p) m4 (upd Hx p (.dK vs)) H4 → RelS K m4 S4 H4 → ∃ mm4 : Lbl, m4 = mm4.hold p ∧ mm4.r = m1.r ∧ Ext (m1.hold p) (mm4.hold p) (upd H1 p (.dK [])) (upd H4 p (.dK [])) ∧ H4 p = some (.dK vs) ∧ upd H4 p (.dK vs) = H4 := by
          intro m4 H4 S4 y4 s4
          have hr4 : m4.r = p :: mm.r := y4.res
          have e4 : m4 = (⟨m4.l, mm.r⟩ : Lbl).hold p := by
            cases m4
            simp only at hr4
            subst hr4
            rfl
          have hp4 : H4 p = some (.dK vs) := by
            rw [y4.fix p List.mem_cons_self]; exact upd_same
          refine ⟨⟨m4.l, mm.r⟩, e4, hr, ?_, hp4, ?_⟩
          · rw [← e4]
            exact x2.trans (Ext.under (o2 := .dK []) y4)
          · funext b
            by_cases hb : b = p
            · subst hb; rw [upd_same, hp4]
            · rw [upd_ne hb]
        refine ⟨mm.hold p, wipeL L own, S2, _, L3, hl2.ext y1, y2, y3, e4, fun σ3 l3 st => ⟨?_, ?_⟩⟩
        · have := st own hsub
          rw [this]
          apply List.ext_getElem?
          intro j
          rw [wipe_get, wipe_get, L2.wipe_length]
          by_cases hj : j ∈ own <;> simp [hj]
        · refine ⟨mm.hold p, L3, S2, b, S3, l3, y2, e5, fun m4 H4 y4 s4 => ?_⟩
          have y14 := y1.trans y4
          cases b with
          | false =>
            have e3 : dcL src.ok g tt tk tv (wipeL L own) (src.items.drop (i + 1)) acc S3 = some (ds, S') := by simpa using e3
            refine iteF ?_
            obtain ⟨mm4, rfl, z1, z2, z3, z4⟩ := back y14 s4
            exact ⟨mm4, S3, H4, vs, acc, z2, z1, z4.symm, s4, RepKs.ext y14 ra, e3⟩
          | true =>
            simp only [if_true] at e3
            obtain ⟨⟨yk, S5⟩, e6, e3⟩ := Option.bind_eq_some_iff.mp e3
            obtain ⟨⟨yv, S6⟩, e7, e3⟩ := Option.bind_eq_some_iff.mp e3
            obtain ⟨key, e8, e3⟩ := Option.bind_eq_some_iff.mp e3
            by_cases hz : acc.length < sizeLine
            · simp only [hz, if_true] at e3
              refine iteT ⟨m4, L3, S3, yk, S5, l3.ext y4, s4, e6, fun m5 H5 w y5 s5 rw' => ?_⟩
              refine ⟨m5, L3, S5, yv, S6, (l3.ext y4).ext y5, s5, e7, fun m6 H6 w2 y6 s6 rw2 => ?_⟩
              have y16 := (y14.trans y5).trans y6
              obtain ⟨mm6, rfl, z1, z2, z3, z4⟩ := back y16 s6
              have ra6 := RepKs.ext y16 ra
              cases keyD_ok rw' e8
              refine ⟨vs, key, rfl, z3, by rw [repK_len ra6]; exact hz, mm6, S6, H6, putK vs key w2, putD acc key yv, z2, z1, rfl, s6.fill, ?_, e3⟩
              exact (repK_put key rw2 ra6).map Rep.fill
            · simp only [hz, if_false] at e3; cases e3
    · left
      have hi : i = src.items.length := by omega
      subst hi
      rw [List.drop_length] at e3
      obtain ⟨hok, e3⟩ := chk_some e3
      cases e3
      refine ⟨(ok _ _ _ _ frz2 hpr2 s2 hok).2 rfl, q mm _ p vs ?_ s2 ra upd_same (x1.stay p hp)⟩
      have := x1.trans (Ext.freeO (o2 := .dK vs) x2 hp s1)
      rw [upd_upd] at this
      have e9 : (⟨(mm.hold p).l, m1.r⟩ : Lbl) = mm := by
        cases mm
        simp only at hr
        subst hr
        rfl
      rw [e9] at this
      exact this
section
variable {X : Cx} {pos : Pos}
theorem de_dc {kx vx tg iter : Expr} {ifs : List Expr} {scope : Scope} {own : List (Str × Nat)} {it : IF} {g : GF} {is : List Nat} {tt : TF} {tk tv : EF} (hc : X.calm = true) (hN : X.N.Nodup) (hi : PI X tg iter (tiOf X.K it)) (ok : BlkOk X.N X.env.scope scope own) (hsub : ∀ i, i ∈ is → i ∈ own.map (·.2))
    (hg : ∀ (s : Shared) (H : Hp) (C : Addr) (cl : List (Str × Addr)) (fp : List Addr), PG (X.blk s H scope (compEnvC scope cl C X.env) fp) tg (tgOf X.K is g)) (ht : ∀ (s : Shared) (H : Hp) (C : Addr) (cl : List (Str × Addr)) (fp : List Addr), PTs (X.blk s H scope (compEnvC scope cl C X.env) fp) ifs (ttOf X.K tt))
    (hk : ∀ (s : Shared) (H : Hp) (C : Addr) (cl : List (Str × Addr)) (fp : List Addr), PE (X.blk s H scope (compEnvC scope cl C X.env) fp) kx (teOf X.K tk))
    (he : ∀ (s : Shared) (H : Hp) (C : Addr) (cl : List (Str × Addr)) (fp : List Addr), PE (X.blk s H scope (compEnvC scope cl C X.env) fp) vx (teOf X.K tv)) (hs : ∀ x, foldedSetIterable iter X.env x = pure x := by intro _; rfl) :
    PE X (.DictComp kx vx [⟨tg, iter, ifs, 0⟩] scope pos) (teOf X.K (eDc (dcF (own.map (·.2)) it g tt tk tv))) :=
  pe_imp (pe_dc hc hN hi ok hg ht hk he hs) fun _ _ _ h => tdic_mut (tdic_dc hsub) h
end

/-! ### an expression that walks over a dict: locked -/
def eLockV (i : Nat) (f : EF) : EF := fun L S => match L[i]? with
  | some (some (.ref k)) => (lockS k S).bind fun S1 => (f L S1).bind fun r => (unlockS k r.2).map fun S2 => (r.1, S2)
  | _ => none
section
variable {X : Cx} {e : Expr} {f : EF}
theorem de_lock (i : Nat) (h : PE X e (teOf X.K f)) : PE X e (teOf X.K (eLockV i f)) :=
  pe_imp (pe_lock h) fun σ H Q ⟨m, L, S, d, S', hl, hs, e, q⟩ => by
    unfold eLockV at e
    split at e
    · rename_i k hi
      obtain ⟨S1, e1, e⟩ := Option.bind_eq_some_iff.mp e
      obtain ⟨⟨r2, S2⟩, e2, e⟩ := Option.bind_eq_some_iff.mp e
      obtain ⟨S3, e3, e⟩ := Option.map_eq_some_iff.mp e
      cases e
      obtain ⟨kvs, hk, rfl⟩ := lockS_some e1
      obtain ⟨kvs', hk', rfl⟩ := unlockS_some e3
      obtain ⟨a, vs, g1, g2, g3⟩ := locked hs hk
      refine ⟨a, .dK vs, g2, True.intro, fun od => ⟨m, L, S.set k (.dil kvs), r2, S2, hl.ext (g3 od).1, (g3 od).2, e2, fun m' H' v x s r => ?_⟩⟩
      obtain ⟨h1, h2, h3, h4⟩ := unlocked hs g1 g2 x s hk'
      exact ⟨h1, q m' _ v h2 h3 (Rep.lab h4 _ _ r)⟩
    · cases e
end

/-! ### sum of a tuple -/
section
variable {X : Cx} {K : PySem.W.Frag}
def rSumT (K : PySem.W.Frag) : List V → Hp → VK → Prop := fun vs H Q => ∃ (a : Addr) (ns : List Int), vs = [V.ref a] ∧ SqT K H a (ns.map V.int) ∧ Q (.int ns.sum) H
theorem cr_sumT (hc : X.calm = true) : CallR X (.builtin "sum") (rSumT X.K) := by
  intro pins s σ H vs us Q I r h
  obtain ⟨a, ns, rfl, hs, q⟩ := h
  obtain ⟨its, rv, hl, _⟩ := I.tuple hs
  rw [Vals.ref1 r]
  obtain ⟨xs, e⟩ := rv.ints.allInts.items
  have hn : numsOf (intItems xs).toList = ns := by rw [← e]; exact rv.ints.numsOf
  rw [nums_intItems] at hn
  have hl' : s.heap.IsTuple a (intItems xs) := by rw [← e]; exact hl
  refine PySem.W.ktm_sumG (I.ok.hd hc) hl' fun h' tk t' hk => ?_
  rw [preSum_eq, List.take_of_length_le (by simp), hn]
  exact ⟨.int _, H, I.kept hk, ⟨_, rfl⟩, q⟩
def gSumT : List D → Sto → Option (D × Sto)
  | [.tup xs], S => (intsD xs).map fun bs => (.int bs.sum, S)
  | [.tud xs], S => (intsD xs).map fun bs => (.int bs.sum, S)
  | _, _ => none
theorem sumT_ok : CallOk K (rSumT K) gSumT := by
  intro m S H ds d xs S' Q s r e q
  unfold gSumT at e
  split at e
  · rename_i ys S0
    obtain ⟨x, rfl, rx⟩ := one_of r
    obtain ⟨bs, e2, e⟩ := Option.map_eq_some_iff.mp e
    cases e
    obtain ⟨p, vs, rfl, h, rr⟩ := tup_at rx
    cases ints_ok rr e2
    exact ⟨p, bs, rfl, SqT.of h, q m H _ (Ext.refl m H) s int_rep⟩
  · rename_i ys S0
    obtain ⟨x, rfl, rx⟩ := one_of r
    obtain ⟨bs, e2, e⟩ := Option.map_eq_some_iff.mp e
    cases e
    obtain ⟨p, vs, od, rfl, _, _, h, rr⟩ := tud_at rx
    cases ints_ok rr e2
    exact ⟨p, bs, rfl, h, q m H _ (Ext.refl m H) s int_rep⟩
  · cases e
end

/-! ### dict(pairs), keys tuples -/
section
variable {X : Cx} {K : PySem.W.Frag}
abbrev PairT (K : PySem.W.Frag) (H : Hp) : List Addr → List (List Key × V) → Prop := Paired fun p kv => ∃ b, SqT K H p [.ref b, kv.2] ∧ H b = some (.tup (kv.1.map kV))
theorem pairsT_of {pins : List (Addr × Obj)} {σ : L2.St} {H : Hp} {s : Shared} (I : Inv X pins σ H s) : ∀ {ps : List Addr} {kvs : List (List Key × V)}, PairT X.K H ps kvs →
    ∃ xs : List (List Key × Addr × Value), KT H kvs xs ∧ xs.length = ps.length ∧ ∀ (j : Nat) (q : List Key × Addr × Value), xs[j]? = some q → ∃ b, ps[j]? = some b ∧ s.heap.IsTuple b #[.ref q.2.1, q.2.2]
  | _, _, .nil => ⟨[], .nil, rfl, fun j q e => by simp at e⟩
  | _, _, .cons (a := p) (b := kv) h t => by
    obtain ⟨xs, r, hl, hp⟩ := pairsT_of I t
    obtain ⟨b, h, hb⟩ := h
    obtain ⟨its, rv, ht, _⟩ := I.tuple h
    obtain ⟨u, y, ei, ru, ry⟩ := vals2 rv
    subst ei
    cases ru
    refine ⟨(kv.1, b, y) :: xs, .cons ⟨rfl, hb, ry⟩ r, by rw [List.length_cons, List.length_cons, hl], fun j q e => ?_⟩
    cases j with
    | zero =>
      have e' : (kv.1, b, y) = q := Option.some.inj e
      subst e'
      exact ⟨p, rfl, ht⟩
    | succ j =>
      obtain ⟨b', e1, e2⟩ := hp j q (by simpa using e)
      exact ⟨b', by simpa using e1, e2⟩
def putAllT (kvs : List (List Key × V)) (acc : List (List Key × V)) : List (List Key × V) := kvs.foldl (fun a kv => putK a kv.1 kv.2) acc
theorem kt_all {H : Hp} : ∀ {kvs : List (List Key × V)} {xs : List (List Key × Addr × Value)} {acc : List (List Key × V)} {ys : List (List Key × Addr × Value)}, KT H kvs xs → KT H acc ys → KT H (putAllT kvs acc) (storedAllH ys xs)
  | _, _, _, _, .nil, h => h
  | p :: ps, x :: xs, acc, ys, .cons hh t, h => by
    obtain ⟨h1, h2, h3⟩ := hh
    have := h.put p.1 h2 h3
    have ih := kt_all (kvs := ps) (xs := xs) t this
    show KT H (putAllT ps (putK acc p.1 p.2)) (storedAllH (storedH ys x.1 x.2.1 x.2.2) xs)
    rw [← h1]
    exact ih
theorem kt_mem {H : Hp} : ∀ {kvs : List (List Key × V)} {xs : List (List Key × Addr × Value)}, KT H kvs xs → ∀ x ∈ xs, H x.2.1 = some (.tup (x.1.map kV))
  | _, _, .nil, x, hx => nomatch hx
  | _, _, .cons (b := q) ⟨h1, h2, _⟩ t, x, hx => by
    rcases List.mem_cons.mp hx with e | hx
    · rw [e, ← h1]; exact h2
    · exact kt_mem t x hx
def rDictT (K : PySem.W.Frag) : List V → Hp → VK → Prop := fun xs H Q => ∃ (a : Addr) (ps : List Addr) (kvs : List (List Key × V)), xs = [.ref a] ∧ SqL K H a (ps.map V.ref) ∧ PairT K H ps kvs ∧
  ∀ p, H p = none → Q (.ref p) (upd H p (.dT (putAllT kvs [])))
theorem call_dictT (hcalm : X.calm = true) (hu : X.A.units + 2 < cLine) : CallR X (.type "dict") (rDictT X.K) := by
  intro pins s σ H xs us Q I r q
  obtain ⟨a, ps, kvs, ex, hq, hp, q⟩ := q
  subst ex
  obtain ⟨u, eu, rx⟩ := vals1 r
  subst eu
  cases rx
  obtain ⟨its, rv, pl, hz⟩ := I.list hq
  have ei := refs_at rv
  subst ei
  rw [List.length_map] at hz
  obtain ⟨xs, rel, hl, hpr⟩ := pairsT_of I hp
  have P := PairArg.list (prog := X.prog) (w := X.w) a (ps.map Value.ref).toArray (fun j => ps.getD j 0) (xs.map fun x => (Value.ref x.2.1, x.2.2))
  have hix : ∀ x ∈ xs, H x.2.1 = some (.tup (x.1.map kV)) := kt_mem rel
  refine call_dict_pairsH (knd := tupleKind (mixKind X.prog X.w)) (ps := xs) P (I.ok.hd hcalm) ?_ ⟨?_, ?_⟩ ⟨?_, fun i key v e => ?_⟩ (fun h' hk x hx => ?_) ?_ fun h' tk hd' k => ?_
  · exact tupleKind_room_in1 (A := X.A.in1) hu
  · obtain ⟨o, n, ho, hc, hd, hdat⟩ := pl
    exact ⟨o, _, ho, hc, hd, hdat⟩
  · refine ⟨by simp [hl], fun j k v e => ?_⟩
    rw [List.getElem?_map] at e
    cases hj : xs[j]? with
    | none => rw [hj] at e; cases e
    | some x =>
      rw [hj] at e
      cases e
      obtain ⟨b, e1, e2⟩ := hpr j x hj
      have e3 : ps.getD j 0 = b := by rw [List.getD_eq_getElem?_getD, e1]; rfl
      refine ⟨?_, ?_⟩
      · show (ps.map Value.ref).toArray[j]? = some (Value.ref (ps.getD j 0))
        rw [e3]; simp [e1]
      · show PairAt s.heap (ps.getD j 0) _ _
        rw [e3]; exact .inl e2
  · simp
  · have e : (xs.map fun x => (Value.ref x.2.1, x.2.2))[i]? = some (key, v) := e
    rw [List.getElem?_map] at e
    cases hj : xs[i]? with
    | none => rw [hj] at e; cases e
    | some x =>
      rw [hj] at e
      cases e
      exact ⟨x.1, x.2.1, rfl, rfl⟩
  · obtain ⟨o, items, n, g1, g2, g3, g4⟩ := key_of (P := X.prog) (w := X.w) I.hok (hix x hx)
    have hne : x.2.1 ≠ s.heap.objs.size := Nat.ne_of_lt (Heap.lt_size g1)
    exact ⟨o, items, n, hk _ _ hne (fun z => nomatch z) g1, g2, g3, g4⟩
  · rw [List.length_map, hl]; exact hz
  · have hm : (s.heap.objs.size == sysModules) = false := beq_eq_false_iff_ne.mpr (Nat.ne_of_gt I.big)
    have rel2 := kt_all rel (Paired.nil : KT H [] [])
    have hlen : (putAllT kvs []).length ≤ sizeLine := by
      rw [Paired.length rel2]
      refine Nat.le_trans (storedAllH_length xs []) ?_
      rw [List.length_nil, Nat.zero_add, hl]
      exact hz
    obtain ⟨o, es, ep, h1, h2, h3, h4, _, h5⟩ := hd'
    refine ⟨.ref s.heap.objs.size, upd H s.heap.objs.size (.dT (putAllT kvs [])), I.laid (t' := tk) (fun b o e => k b o (fun z => nomatch z) e) (Nat.le_refl _) (show ObjOk X.prog X.w _ _ _ (.dT (putAllT kvs [])) from ⟨hlen, hm, storedAllH [] xs, rel2.keeps fun c ys ec => ?_, o, es, ep, h1, h2, h3, h4, h5⟩), rfl, q _ (I.hok.fresh (Nat.le_refl _))⟩
    rw [upd_ne (ne_of_none ec (I.hok.fresh (Nat.le_refl _)))]
    exact ec
end

section
variable {K : PySem.W.Frag} {m : Lbl} {H : Hp}
theorem RoomG.u2 {k : Nat} {A : Around} (r : RoomG k A) : A.units + 2 < cLine := by have := r.r.un; omega
def pairsTD : List D → Option (List (List Key × D))
  | [] => some []
  | .tup [.tup ks, v] :: ds => (keysD ks).bind fun k => (pairsTD ds).map fun r => (k, v) :: r
  | _ => none
def putAllD (kvs acc : List (List Key × D)) : List (List Key × D) := kvs.foldl (fun a kv => putD a kv.1 kv.2) acc
theorem repK_all : ∀ {kvs : List (List Key × D)} {us : List (List Key × V)} {acc : List (List Key × D)} {vs : List (List Key × V)}, RepKs K m H kvs us → RepKs K m H acc vs → RepKs K m H (putAllD kvs acc) (putAllT us vs)
  | [], us, acc, vs, h, h' => by
    have h : us = [] := h
    subst h
    exact h'
  | p :: kvs, us, acc, vs, h, h' => by
    obtain ⟨v, r, rfl, h1, h2⟩ := h
    exact repK_all (kvs := kvs) (us := r) h2 (repK_put p.1 h1 h')
theorem pairsT_at {xs : List D} : ∀ {vs : List V} {kvs : List (List Key × D)}, Reps K m H xs vs → pairsTD xs = some kvs → ∃ (ps : List Addr) (us : List (List Key × V)), vs = ps.map V.ref ∧ PairT K H ps us ∧ RepKs K m H kvs us := by
  induction xs with
  | nil =>
    intro vs kvs r e
    cases e
    exact ⟨[], [], r.of_nil, .nil, rfl⟩
  | cons d xs ih =>
    intro vs kvs r e
    obtain ⟨v, r', rfl, h1, h2⟩ := r.of_cons
    unfold pairsTD at e
    split at e
    · rename_i heq; cases heq
    · rename_i ks w ds' heq
      cases heq
      obtain ⟨k, e1, e⟩ := Option.bind_eq_some_iff.mp e
      obtain ⟨rs, e2, e⟩ := Option.map_eq_some_iff.mp e
      cases e
      obtain ⟨ps, us, rfl, hp, hr⟩ := ih h2 e2
      obtain ⟨p, ws, rfl, hpt, rr⟩ := tup_at h1
      obtain ⟨x, y, rfl, rx, ry⟩ := two_ofL rr
      obtain ⟨b, zs, rfl, hb, rz⟩ := tup_at rx
      cases keysD_ok rz e1
      exact ⟨p :: ps, (k, y) :: us, rfl, .cons ⟨b, SqT.of hpt, hb⟩ hp, y, us, rfl, ry, hr⟩
    · cases e
def gDictT : List D → Sto → Option (D × Sto)
  | [d], S => (asK S d).bind fun xs => (pairsTD xs).map fun kvs => (.ref S.length, S ++ [.dit (putAllD kvs [])])
  | _, _ => none
theorem dictT_ok : CallOk K (rDictT K) gDictT := by
  intro m S H ds d xs S' Q s r e q
  match ds, e with
  | [a], e =>
    obtain ⟨x, rfl, rx⟩ := one_of r
    obtain ⟨ys, e1, e⟩ := Option.bind_eq_some_iff.mp e
    obtain ⟨kvs, e2, e⟩ := Option.map_eq_some_iff.mp e
    cases e
    obtain ⟨p, vs, rfl, h, rr⟩ := seqK s rx e1
    obtain ⟨ps, us, rfl, hp, hr⟩ := pairsT_at rr e2
    refine ⟨p, ps, us, rfl, h, hp, fun l hl => ?_⟩
    obtain ⟨y1, y2, y3⟩ := dit_new s (repK_all hr repK_nil) hl
    exact q _ _ _ y1 y2 y3
  | [], e => cases e
  | _ :: _ :: _, e => cases e
end
/-! ### name = {k: v for ..}, the dict stored ahead of the block's end -/
section
variable {X : Cx}
theorem ps_setDc {i : Nat} {y : Str} {py : Pos} {kx vx tg iter : Expr} {ifs : List Expr} {scope : Scope} {own : List (Str × Nat)} {pos spos : Pos} {wi : TI} {g : TG} {tt : TT} {tk tv : TE} (hc : X.calm = true) (hN : X.N.Nodup) (hy : X.N[i]? = some y) (hyl : X.env.scope.names.lookup y = some .local)
    (hsw : swapsWith (.DictComp kx vx [⟨tg, iter, ifs, 0⟩] scope pos) (some (.Name y py)) spos.line X.env = pure true) (hi : PI X tg iter wi) (ok : BlkOk X.N X.env.scope scope own)
    (hg : ∀ (s : Shared) (H : Hp) (C : Addr) (cl : List (Str × Addr)) (fp : List Addr), PG (X.blk s H scope (compEnvC scope cl C X.env) fp) tg g) (ht : ∀ (s : Shared) (H : Hp) (C : Addr) (cl : List (Str × Addr)) (fp : List Addr), PTs (X.blk s H scope (compEnvC scope cl C X.env) fp) ifs tt)
    (hk : ∀ (s : Shared) (H : Hp) (C : Addr) (cl : List (Str × Addr)) (fp : List Addr), PE (X.blk s H scope (compEnvC scope cl C X.env) fp) kx tk)
    (he : ∀ (s : Shared) (H : Hp) (C : Addr) (cl : List (Str × Addr)) (fp : List Addr), PE (X.blk s H scope (compEnvC scope cl C X.env) fp) vx tv) (hs : ∀ x, foldedSetIterable iter X.env x = pure x := by intro _; rfl) :
    PS X (.Assign [.Name y py] (.DictComp kx vx [⟨tg, iter, ifs, 0⟩] scope pos) spos) (tAsg (tDc wi g tt tk tv (own.map (·.2))) (gName i)) := by
  refine ⟨fun pins s σ H D I h => ?_⟩
  rw [exec_Assign_Name_used _ _ _ _ hsw]
  refine wpAny_bind (wpAny_standAt (wpAny_bind ?_))
  show wpAny _ X.A (do let _ ← comprehension (.DictComp kx vx [⟨tg, iter, ifs, 0⟩] scope pos) scope X.env (firstIterPos [⟨tg, iter, ifs, 0⟩] pos) newDict false (eval iter X.env) (some (assign (.Name y py) X.env))) _ _ s
  have h : tDc wi g tt tk tv (own.map (·.2)) σ H (fun x H1 => gName i x σ H1 D.nx) := h
  refine wpAny_bind (thn (dc_core (Qf := fun _ s' => SP X pins D .next s') hc hN I hi ok hg ht hk he hs h fun L C s' m H' I' q hn f => ?_) fun _ s' hq => wpAny_pure (wpAny_pure hq))
  show wpAny _ _ (assign (.Name y py) X.env (.ref L)) _ _ _
  refine wpAny_assign_Name (store_ok2 (v := V.ref L) I' hN hy (.inl hyl) rfl (fun s2 I2 ⟨a, sb, ha⟩ => ?_) (.inr hyl))
  obtain ⟨f0, f1, f2, f3, f4, f5⟩ := f
  have haC : C ≠ a := by
    rcases ha with z | z
    · rw [z]; exact f1
    · exact fun e => f4 y a z e.symm
  refine ⟨m, hn.sameBut sb haC, fun h3 sb3 => ?_⟩
  exact ⟨_, H', I2.turned (t' := s2.toks) (fun b o hb e => (sb3.2 b hb).trans e) f0 f1 f3 f4 f5, q⟩
theorem sw_trueD {kx vx : Expr} {gs : List Comprehension} {scope : Scope} {pos py : Pos} {y : Str} {l : Nat} {env : Env} (hk : env.scope.kind = .function) (hy : env.scope.names.lookup y = some .local) (hl : (py.line == pos.line) = true)
    (ha : (scope.names.any fun (n, k) => n == y && (k == .local || k == .cell)) = false) : swapsWith (.DictComp kx vx gs scope pos) (some (.Name y py)) l env = pure true := by
  have ky : env.kindOf y = some .local := hy
  have hb : env.blockKind = .function := by unfold Env.blockKind; rw [hk]; rfl
  unfold swapsWith
  simp only [hb, ky, ha, Expr.pos, hl]
  rfl
theorem ds_setDc {i : Nat} {y : Str} {py spos pos : Pos} {kx vx tg iter : Expr} {ifs : List Expr} {scope : Scope} {own : List (Str × Nat)} {it : IF} {g : GF} {is : List Nat} {tt : TF} {tk tv : EF} (hc : X.calm = true) (hN : X.N.Nodup) (hi : PI X tg iter (tiOf X.K it)) (ok : BlkOk X.N X.env.scope scope own) (hsub : ∀ i, i ∈ is → i ∈ own.map (·.2))
    (hg : ∀ (s : Shared) (H : Hp) (C : Addr) (cl : List (Str × Addr)) (fp : List Addr), PG (X.blk s H scope (compEnvC scope cl C X.env) fp) tg (tgOf X.K is g)) (ht : ∀ (s : Shared) (H : Hp) (C : Addr) (cl : List (Str × Addr)) (fp : List Addr), PTs (X.blk s H scope (compEnvC scope cl C X.env) fp) ifs (ttOf X.K tt))
    (hk : ∀ (s : Shared) (H : Hp) (C : Addr) (cl : List (Str × Addr)) (fp : List Addr), PE (X.blk s H scope (compEnvC scope cl C X.env) fp) kx (teOf X.K tk))
    (he : ∀ (s : Shared) (H : Hp) (C : Addr) (cl : List (Str × Addr)) (fp : List Addr), PE (X.blk s H scope (compEnvC scope cl C X.env) fp) vx (teOf X.K tv))
    (hsw : swapsWith (.DictComp kx vx [⟨tg, iter, ifs, 0⟩] scope pos) (some (.Name y py)) spos.line X.env = pure true) (hy : X.N[i]? = some y := by rfl) (hyl : X.env.scope.names.lookup y = some .local := by rfl) (hs : ∀ x, foldedSetIterable iter X.env x = pure x := by intro _; rfl) :
    PS X (.Assign [.Name y py] (.DictComp kx vx [⟨tg, iter, ifs, 0⟩] scope pos) spos) (tsOf X.K (sSet i (eDc (dcF (own.map (·.2)) it g tt tk tv)))) :=
  ps_imp (ps_setDc hc hN hy hyl hsw hi ok hg ht hk he hs) fun _ _ _ h => ts_set (fun _ _ _ h => tdic_mut (tdic_dc hsub) h) h
end
end DS
namespace DS
open PySem PySem.Spec PyProof.Rows L2

/-! ### a slice of a tuple that is known to have no dict: so is the slice -/
section
variable {X : Cx} {K : PySem.W.Frag} {lo hi : Option Expr} {e : Expr} {f : EF} {pos p2 : Pos}
def gSlD (d : D) (lo hi : Option Int) (S : Sto) : Option (D × Sto) := match d with
  | .tud xs => some (.tud (cutD xs lo hi), S)
  | _ => none
def eSlD (f : EF) (lo hi : OF) : EF := fun L S => (f L S).bind fun p => (lo L p.2).bind fun a => (hi L a.2).bind fun b => gSlD p.1 a.1 b.1 b.2
def wholeS (n : Nat) (lo hi : Option Int) : Prop := HT.sIx n 0 lo = 0 ∧ HT.sIx n n hi = n
def rSlD (K : PySem.W.Frag) : V → Option Int → Option Int → Hp → VK → Prop := fun x lo hi H Q => ∃ p vs, x = .ref p ∧ SqT K H p vs ∧ (wholeS vs.length lo hi → Q (.ref p) H) ∧
  (¬ wholeS vs.length lo hi → ∀ q o, H q = none → o.dict = none → Q (.ref q) (upd H q (.frz o (.tup (cutV vs lo hi)))))
theorem sl_tupD : SlR X (rSlD X.K) := by
  intro pins s σ H x v vl vu lo hi sl Q I rx hs pl pu h
  obtain ⟨p, vs, rfl, hp, hw, hn⟩ := h
  obtain rfl : v = Value.ref p := rx
  obtain ⟨its, rv, pl0, hz⟩ := I.tuple hp
  have hl : its.toArray.size = vs.length := by rw [List.size_toArray]; exact rv.length.symm
  refine ⟨"tuple", _, PyProof.Rows.slot_tuple_getitem.lookup, pl0.typeIs, ?_⟩
  by_cases c : wholeS vs.length lo hi
  · have c' : HT.sIx its.toArray.size 0 lo = 0 ∧ HT.sIx its.toArray.size its.toArray.size hi = its.toArray.size := by rw [hl]; exact c
    exact getItem_tuple_whole pl0 hs pl pu c' ⟨V.ref p, H, I, rfl, hw c⟩
  · have c' : ¬ (HT.sIx its.toArray.size 0 lo = 0 ∧ HT.sIx its.toArray.size its.toArray.size hi = its.toArray.size) := by rw [hl]; exact c
    refine HT.getItem_tuple_cut pl0 hs pl pu c' ?_ (by rw [hl]; exact hz)
    rw [hl]
    have fr := I.hok.fresh (Nat.le_refl s.heap.objs.size)
    have nw : Inv X pins σ (upd H s.heap.objs.size (.frz { cls := .type "tuple", data := .seq ((its.drop (HT.sIx vs.length 0 lo)).take (HT.sIx vs.length vs.length hi - HT.sIx vs.length 0 lo)).toArray } (.tup (cutV vs lo hi)))) { s with heap := s.heap.push { cls := .type "tuple", data := .seq ((its.drop (HT.sIx vs.length 0 lo)).take (HT.sIx vs.length vs.length hi - HT.sIx vs.length 0 lo)).toArray } } := by
      refine I.laid (t' := s.toks) (fun _ _ q => Heap.get?_push_of_some _ q) (Nat.le_refl _) ⟨Heap.get?_push_size _ rfl, Nat.le_trans (cutV_length vs lo hi) hz, _, ?_, IsTup.new _ _⟩
      exact (rv.drop _).take _
    exact ⟨V.ref s.heap.objs.size, _, nw, rfl, hn c _ _ fr rfl⟩
theorem sl_okT {m : Lbl} {S S' : Sto} {H : Hp} {d z : D} {x : V} {lo hi : Option Int} {Q : VK} (s : RelS K m S H) (r : Rep K m H d x) (e : gSlD d lo hi S = some (z, S')) (q : ∀ m' H' v, Ext m m' H H' → RelS K m' S' H' → Rep K m' H' z v → Q v H') :
    rSlD K x lo hi H Q := by
  unfold gSlD at e
  split at e
  · rename_i xs
    cases e
    obtain ⟨p, vs, od, rfl, _, _, hp, rr⟩ := tud_at r
    refine ⟨p, vs, rfl, hp, fun hw => ?_, fun _ l o hl hd => ?_⟩
    · have hc : cutD xs lo hi = xs := by
        unfold wholeS at hw
        rw [rr.length] at hw
        unfold cutD
        rw [hw.1, hw.2]
        simp
      refine q m H _ (Ext.refl m H) s ?_
      rw [hc]; exact r
    · obtain ⟨y1, y2, y3⟩ := tud_new s (rr.cut lo hi) hl hd
      exact q m _ _ y1 y2 y3
  · cases e
theorem de_slD {fl fh : OF} (he : PE X e (teOf X.K f)) (hl : PO X lo (toOf X.K fl)) (hu : PO X hi (toOf X.K fh)) : PE X (.Subscript e (.Slice lo hi none p2) pos) (teOf X.K (eSlD f fl fh)) :=
  pe_imp (pe_slice sl_tupD he hl hu) fun σ H Q ⟨m, L, S, d, S', hl, hs, e, q⟩ => by
    obtain ⟨⟨z, S1⟩, e1, e⟩ := Option.bind_eq_some_iff.mp e
    obtain ⟨⟨a, S2⟩, e2, e⟩ := Option.bind_eq_some_iff.mp e
    obtain ⟨⟨b, S3⟩, e3, e⟩ := Option.bind_eq_some_iff.mp e
    refine ⟨m, L, S, z, S1, hl, hs, e1, fun m1 H1 x x1 s1 r1 => ?_⟩
    refine ⟨m1, L, S1, a, S2, hl.ext x1, s1, e2, fun m2 H2 x2 s2 => ?_⟩
    refine ⟨m2, L, S2, b, S3, (hl.ext x1).ext x2, s2, e3, fun m3 H3 x3 s3 => ?_⟩
    exact sl_okT s3 (Rep.ext x3 _ _ (Rep.ext x2 _ _ r1)) e fun m4 H4 v x4 s4 r4 => q m4 H4 v (x1.trans (x2.trans (x3.trans x4))) s4 r4
end

/-! ### {k: v for ..}, the keys tuples of numbers and texts -/
section
variable {X : Cx}
theorem setT {pins : List (Addr × Obj)} {σ : L2.St} {H : Hp} {s : Shared} {Er : Value → Shared → Prop} {a b : Addr} {kvs : List (List Key × V)} {ks : List Key} {v : V} {u : Value} {Qu : Unit → Shared → Prop}
    (hu : X.A.units < cLine) (I : Inv X pins σ H s) (ha : H a = some (.dT kvs)) (hb : H b = some (.tup (ks.map kV))) (hn : kvs.length < sizeLine) (rv : RelV v u)
    (go : ∀ s1, Inv X pins σ (upd H a (.dT (putK kvs ks v))) s1 → Qu () s1) : wpAny (model X.prog X.w) X.A (dictSet a (.ref b) u) Qu Er s := by
  obtain ⟨n1, n2, xs, kt, dd⟩ := dt_of I.hok ha
  have n3 : xs.length ≤ sizeLine := (Paired.length kt) ▸ n1
  refine wpAny_dictSet_heap (knd := tupleKind (mixKind X.prog X.w)) (hsz := n3) hu (key_of I.hok hb) dd fun h1 dd1 sb => go _ ?_
  obtain ⟨ob, es, ep, g1, g2, g3, g4, _, g5⟩ := dd1
  have n4 : (putK kvs ks v).length ≤ sizeLine := Nat.le_trans (length_putK kvs ks v) (by omega)
  refine d_write I (by rw [ha]; exact True.intro) sb ⟨ob, g1⟩ ⟨n4, n2, _, KT.keeps (kt.put ks hb rv) fun c ys hc => ?_, ob, es, ep, g1, g2, g3, g4, g5⟩
  have ne : c ≠ a := ne_of hc ha fun z => nomatch z
  rw [upd_ne ne]; exact hc
/-- what the comprehension asks: the new dict stands at d -/
def tDcT (wi : TI) (g : TG) (tt : TT) (tk tv : TE) (own : List Nat) : TE := fun σ H Q => wi σ H fun J H1 => ∀ d, H1 d = none → ∃ I : Nat → Nat → Hp → Prop,
  (∃ k, I 0 k (upd H1 d (.dT []))) ∧ ∀ i k H2, I i k H2 → (J.stop i H2 ∧ Q (.ref d) H2) ∨
    (J.go i H2 ∧ ∃ N : Hp → Prop, (∀ H3, N H3 → ∃ k', k' < k ∧ I (i + 1) k' H3) ∧ ∀ x H3, J.yld i H2 x H3 → g x (L2.wipe σ own) H3 fun σ1 H4 => L2.wipe σ1 own = L2.wipe σ own ∧
      tt σ1 H4 fun c H5 => if c = true then tk σ1 H5 fun y H6 => tv σ1 H6 fun z H7 => ∃ kvs ks b, y = .ref b ∧ H7 b = some (.tup (ks.map kV)) ∧ H7 d = some (.dT kvs) ∧ kvs.length < sizeLine ∧ N (upd H7 d (.dT (putK kvs ks z))) else N H5)
theorem dcT_core {pins : List (Addr × Obj)} {s : Shared} {σ : L2.St} {H : Hp} {Q : VK} {use : Option (Value → Sem Unit)} {Qf : Value → Shared → Prop} {kx vx tg iter : Expr} {ifs : List Expr} {scope : Scope} {own : List (Str × Nat)} {pos pos' : Pos} {wi : TI} {g : TG} {tt : TT} {tk tv : TE} (hu : X.A.units < cLine) (calm : X.calm = true) (nd : X.N.Nodup) (I : Inv X pins σ H s) (hi : PI X tg iter wi) (ok : BlkOk X.N X.env.scope scope own)
    (hg : ∀ (s : Shared) (H : Hp) (C : Addr) (cl : List (Str × Addr)) (fp : List Addr), PG (X.blk s H scope (compEnvC scope cl C X.env) fp) tg g)
    (ht : ∀ (s : Shared) (H : Hp) (C : Addr) (cl : List (Str × Addr)) (fp : List Addr), PTs (X.blk s H scope (compEnvC scope cl C X.env) fp) ifs tt)
    (hk : ∀ (s : Shared) (H : Hp) (C : Addr) (cl : List (Str × Addr)) (fp : List Addr), PE (X.blk s H scope (compEnvC scope cl C X.env) fp) kx tk)
    (hv : ∀ (s : Shared) (H : Hp) (C : Addr) (cl : List (Str × Addr)) (fp : List Addr), PE (X.blk s H scope (compEnvC scope cl C X.env) fp) vx tv) (hs : ∀ x, foldedSetIterable iter X.env x = pure x) (h : tDcT wi g tt tk tv (own.map (·.2)) σ H Q)
    (behind : ∀ d C s' m H', Inv X pins σ H' s' → Q (.ref d) H' → s'.heap.Ns C m → FpOk X pins H' C → compPost (model X.prog X.w) X.A X.xe use Qf (.ref d) C (.ok .next) s') :
    wpAny (model X.prog X.w) X.A (comprehension (.DictComp kx vx [⟨tg, iter, ifs, 0⟩] scope pos) scope X.env pos' newDict false (eval iter X.env) use) Qf X.xe s := by
  have fre : ∀ y ∈ scope.names, y.2 = .free → ∃ c, X.env.cells.lookup y.1 = some c := fun y hy q => (ok.free y hy q).elim (fun z => I.ok.has _ (.inl z)) fun z => I.ok.has _ (.inr z)
  refine wpAny_comprehension_free (use := use) rfl hs (closure_ok fre) ok.kind (fun y hy q => by rw [ok.uniq y hy, q]) (thn (hi.run pins s σ H _ I h) fun xv s1 a1 => thn a1 fun iv s2 a2 => ?_)
  obtain ⟨it, fp, tn, J, H2, rfl, J2, T, at2, fp2, ask⟩ := a2
  refine wpAny_newObj_type (newEnv_comp ?_)
  -- the dict, and the block's own names
  obtain ⟨d, hd⟩ : ∃ d, d = s2.heap.objs.size := ⟨_, rfl⟩
  have dn : H2 d = none := J2.hok.fresh (Nat.le_of_eq hd.symm)
  obtain ⟨W, ⟨k0, w0⟩, turn⟩ := ask d dn
  obtain ⟨s3, e3⟩ : ∃ s3 : Shared, s3 = { s2 with heap := s2.heap.push { cls := .type "dict", data := .dict #[] } } := ⟨_, rfl⟩
  have J3 : Inv X pins σ (upd H2 d (.dT [])) s3 := by
    rw [e3, hd]
    exact J2.laid (t' := s2.toks) (fun _ _ q => Heap.get?_push_of_some _ q) (Nat.le_refl _) (dt_empty s2.heap J2.big)
  have hp3 : s3.heap = s2.heap.push { cls := .type "dict", data := .dict #[] } := by rw [e3]
  have low : ∀ b ∈ fp, b < s2.heap.objs.size := fun b hb => let ⟨_, q, _⟩ := T.obj _ _ at2 b hb; Heap.lt_size q
  have fp3 : ∀ b ∈ fp, FpOk X pins (upd H2 d (.dT [])) b ∧ b < s3.heap.objs.size := fun b hb => by
    have lt := low b hb
    have ne : b ≠ d := by rw [hd]; exact Nat.ne_of_lt lt
    exact ⟨⟨by rw [upd_ne ne]; exact (fp2 b hb).1, (fp2 b hb).2⟩, by rw [hp3, Heap.size_push]; exact Nat.lt_succ_of_lt lt⟩
  have at3 : tn 0 s3.heap := T.keep _ _ _ at2 fun b _ o q => by rw [hp3]; exact Heap.get?_push_of_some _ q
  have B0 := block_start J3 ok nd fp3
  have p1 := hg s3 (upd H2 d (.dT [])) s3.heap.objs.size (cellsFrom (s3.heap.objs.size + 1) scope.names (cloFrom X.env.cells scope.names [])) fp
  have p2 := ht s3 (upd H2 d (.dT [])) s3.heap.objs.size (cellsFrom (s3.heap.objs.size + 1) scope.names (cloFrom X.env.cells scope.names [])) fp
  have p3 := hk s3 (upd H2 d (.dT [])) s3.heap.objs.size (cellsFrom (s3.heap.objs.size + 1) scope.names (cloFrom X.env.cells scope.names [])) fp
  have p4 := hv s3 (upd H2 d (.dT [])) s3.heap.objs.size (cellsFrom (s3.heap.objs.size + 1) scope.names (cloFrom X.env.cells scope.names [])) fp
  rw [← hd, ← e3]
  show codeAny _ _ (.compStart (.DictComp kx vx [⟨tg, iter, ifs, 0⟩] scope pos) 0 (.ref it) (.ref d) (compEnvC scope (cellsFrom (s3.heap.objs.size + 1) scope.names (cloFrom X.env.cells scope.names [])) s3.heap.objs.size X.env))
    (compPost (model X.prog X.w) X.A X.xe use Qf (.ref d) s3.heap.objs.size) { s3 with heap := pushCells (s3.heap.push { cls := .type "dict", data := .dict #[] }) scope.names }
  have none3 : ∀ b ∈ fp, (upd H2 d (.dT [])) b = none := fun b hb => (fp3 b hb).1.1
  generalize hE : compEnvC scope (cellsFrom (s3.heap.objs.size + 1) scope.names (cloFrom X.env.cells scope.names [])) s3.heap.objs.size X.env = en at B0 p1 p2 p3 p4 ⊢
  have enL : en.locals = s3.heap.objs.size := by rw [← hE]; rfl
  generalize upd H2 d (.dT []) = H3 at J3 B0 p1 p2 p3 p4 w0 none3 fp3
  obtain ⟨s4, e4⟩ : ∃ s4 : Shared, s4 = { s3 with heap := pushCells (s3.heap.push { cls := .type "dict", data := .dict #[] }) scope.names } := ⟨_, rfl⟩
  rw [← e4] at B0 ⊢
  have at4 : tn 0 s4.heap := T.keep _ _ _ at3 fun b _ o q => by rw [e4]; exact pushCells_keeps _ _ _ _ (Heap.get?_push_of_some _ q)
  have still : ∀ {σ1 : L2.St} {H1 : Hp} {t : Shared}, Inv (X.blk s3 H3 scope en fp) [] σ1 H1 t → (∀ b ∈ fp, H1 b = none) → ∀ b ∈ fp, FpOk (X.blk s3 H3 scope en fp) [] H1 b := fun {σ1 H1 t} B hn b hb =>
    ⟨hn b hb, (B.ok.exf b hb).1, B.ok.exfs b hb, .inl hb, fun x c q => (B.ok.exf b hb).2 x c q, fun p hp => absurd (show p ∈ ([] : List (Addr × Obj)) ++ [] from hp) (by simp)⟩
  refine codeAny_compStart_dict (?lp) (T.self X.A 0 _ _ _ at4 ?lp2)
  case lp2 => exact ?lp
  refine compLoop_anyD (fun k t => ∃ i H1, Inv (X.blk s3 H3 scope en fp) [] (L2.wipe σ (own.map (·.2))) H1 t ∧ tn i t.heap ∧ (∀ b ∈ fp, H1 b = none) ∧ W i k H1) ?_ k0 ⟨0, H3, B0, at4, none3, w0⟩
  rintro k s5 ⟨i, H5, B5, at5, n5, w5⟩
  rcases turn i k H5 w5 with ⟨st, fin⟩ | ⟨go, N, hN, each⟩
  · refine thnF (T.done (X.blk s3 H3 scope en fp) rfl rfl rfl calm i [] s5 _ H5 (fun _ _ => False) B5 (still B5 n5) at5 st) fun r s6 ⟨er, B6⟩ => ?_
    subst er
    have out : Inv X pins σ H5 s6 := J3.call' (ch := fp) B6.os B6.base B6.hok B6.bare fun b hb => ⟨(fp3 b hb).1.2.2.2.1, (fp3 b hb).1.2.1, (fp3 b hb).1.2.2.2.2.1, (fp3 b hb).1.2.2.2.2.2⟩
    have nl : H5 s3.heap.objs.size = none := enL ▸ (show H5 en.locals = none from B6.free)
    obtain ⟨mm, hns, _⟩ := B6.loc
    have hns : s6.heap.Ns en.locals mm := hns
    rw [enL] at hns
    exact behind d s3.heap.objs.size s6 mm H5 out fin hns (J3.fpOk (Nat.le_refl _) nl)
  · refine thnF (T.item (X.blk s3 H3 scope en fp) rfl rfl rfl calm i [] s5 _ H5 (fun _ _ => False) B5 (still B5 n5) at5 go) fun r s6 ⟨u, er, a6⟩ => ?_
    subst er
    refine thnF a6 fun _ s7 ⟨x, H7, B7, r7, y7, at7, n7⟩ => ?_
    have B7p := B7.pinned (still B7 n7) (T.obj _ _ at7)
    refine thnF (p1.run _ s7 _ H7 x u _ B7p r7 (each x H7 y7)) fun _ s8 ⟨σ8, H8, B8, w8, q8⟩ => ?_
    have next : ∀ {t : Shared} {H9 : Hp}, Inv (X.blk s3 H3 scope en fp) ([] ++ pinsAt fp s7.heap) σ8 H9 t → N H9 → ∃ k', k' < k ∧ ∃ i H1, Inv (X.blk s3 H3 scope en fp) [] (L2.wipe σ (own.map (·.2))) H1 t ∧ tn i t.heap ∧ (∀ b ∈ fp, H1 b = none) ∧ W i k' H1 := fun {t H9} B nx => by
      obtain ⟨k', lt, w'⟩ := hN H9 nx
      have held : ∀ b ∈ fp, ∀ o, s7.heap.get? b = some o → t.heap.get? b = some o ∧ H9 b = none := fun b hb o q =>
        let z := B.pin (b, o) (List.mem_append_right _ (List.mem_append_right _ (mem_pinsAt hb q)))
        ⟨z.1, z.2.1⟩
      have ln : (L2.wipe σ (own.map (·.2))).length = σ8.length := by rw [← w8, L2.wipe_length]
      have wk := (B.unpinned (pins := [])).weak ln fun j v q => by
        rw [← w8] at q
        exact (wipe_some q).1
      exact ⟨k', lt, i + 1, H9, wk, T.keep _ _ _ at7 fun b hb o q => (held b hb o q).1, fun b hb => let ⟨o, q, _⟩ := T.obj _ _ at7 b hb; (held b hb o q).2, w'⟩
    refine thnF (p2.run _ s8 σ8 H8 _ B8 q8) fun c s9 ⟨H9, B9, q9⟩ => ?_
    cases c with
    | false => exact next B9 (by simpa using q9)
    | true =>
      simp only [if_true] at q9 ⊢
      refine thnF (p3.run _ s9 σ8 H9 _ B9 q9) fun z s10 ⟨yk, H10, B10, r10, q10⟩ => ?_
      refine thnF (p4.run _ s10 σ8 H10 _ B10 q10) fun z2 s11 ⟨yv, H11, B11, r11, kvs, ks, b, ek, hb, hd11, hz, nx⟩ => ?_
      subst ek
      obtain rfl : z = Value.ref b := r10
      exact setT (X := X.blk s3 H3 scope en fp) hu B11 hd11 hb hz r11 fun s12 B12 => next B12 nx
theorem pe_dcT {kx vx tg iter : Expr} {ifs : List Expr} {scope : Scope} {own : List (Str × Nat)} {pos : Pos} {wi : TI} {g : TG} {tt : TT} {tk tv : TE} (hu : X.A.units < cLine) (calm : X.calm = true) (nd : X.N.Nodup) (hi : PI X tg iter wi) (ok : BlkOk X.N X.env.scope scope own)
    (hg : ∀ (s : Shared) (H : Hp) (C : Addr) (cl : List (Str × Addr)) (fp : List Addr), PG (X.blk s H scope (compEnvC scope cl C X.env) fp) tg g)
    (ht : ∀ (s : Shared) (H : Hp) (C : Addr) (cl : List (Str × Addr)) (fp : List Addr), PTs (X.blk s H scope (compEnvC scope cl C X.env) fp) ifs tt)
    (hk : ∀ (s : Shared) (H : Hp) (C : Addr) (cl : List (Str × Addr)) (fp : List Addr), PE (X.blk s H scope (compEnvC scope cl C X.env) fp) kx tk)
    (hv : ∀ (s : Shared) (H : Hp) (C : Addr) (cl : List (Str × Addr)) (fp : List Addr), PE (X.blk s H scope (compEnvC scope cl C X.env) fp) vx tv) (hs : ∀ x, foldedSetIterable iter X.env x = pure x := by intro _; rfl) :
    PE X (.DictComp kx vx [⟨tg, iter, ifs, 0⟩] scope pos) (tDcT wi g tt tk tv (own.map (·.2))) := by
  constructor
  intro pins s σ H Q I h
  rw [arm_eval_DictComp]
  refine dcT_core hu calm nd I hi ok hg ht hk hv hs h fun d C s6 mm H5 out fin hns fp => ⟨mm, hns, fun h2 sb => ?_⟩
  obtain ⟨f0, f1, f2, f3, f4, f5⟩ := fp
  exact ⟨V.ref d, H5, out.turned (t' := s6.toks) (fun b o hb q => (sb.2 b hb).trans q) f0 f1 f3 f4 f5, rfl, fin⟩
theorem ps_setDcT {i : Nat} {y : Str} {py : Pos} {kx vx tg iter : Expr} {ifs : List Expr} {scope : Scope} {own : List (Str × Nat)} {pos spos : Pos} {wi : TI} {g : TG} {tt : TT} {tk tv : TE} (hu : X.A.units < cLine) (hc : X.calm = true) (hN : X.N.Nodup) (hy : X.N[i]? = some y) (hyl : X.env.scope.names.lookup y = some .local)
    (hsw : swapsWith (.DictComp kx vx [⟨tg, iter, ifs, 0⟩] scope pos) (some (.Name y py)) spos.line X.env = pure true) (hi : PI X tg iter wi) (ok : BlkOk X.N X.env.scope scope own)
    (hg : ∀ (s : Shared) (H : Hp) (C : Addr) (cl : List (Str × Addr)) (fp : List Addr), PG (X.blk s H scope (compEnvC scope cl C X.env) fp) tg g) (ht : ∀ (s : Shared) (H : Hp) (C : Addr) (cl : List (Str × Addr)) (fp : List Addr), PTs (X.blk s H scope (compEnvC scope cl C X.env) fp) ifs tt)
    (hk : ∀ (s : Shared) (H : Hp) (C : Addr) (cl : List (Str × Addr)) (fp : List Addr), PE (X.blk s H scope (compEnvC scope cl C X.env) fp) kx tk)
    (he : ∀ (s : Shared) (H : Hp) (C : Addr) (cl : List (Str × Addr)) (fp : List Addr), PE (X.blk s H scope (compEnvC scope cl C X.env) fp) vx tv) (hs : ∀ x, foldedSetIterable iter X.env x = pure x := by intro _; rfl) :
    PS X (.Assign [.Name y py] (.DictComp kx vx [⟨tg, iter, ifs, 0⟩] scope pos) spos) (tAsg (tDcT wi g tt tk tv (own.map (·.2))) (gName i)) := by
  refine ⟨fun pins s σ H D I h => ?_⟩
  rw [exec_Assign_Name_used _ _ _ _ hsw]
  refine wpAny_bind (wpAny_standAt (wpAny_bind ?_))
  show wpAny _ X.A (do let _ ← comprehension (.DictComp kx vx [⟨tg, iter, ifs, 0⟩] scope pos) scope X.env (firstIterPos [⟨tg, iter, ifs, 0⟩] pos) newDict false (eval iter X.env) (some (assign (.Name y py) X.env))) _ _ s
  have h : tDcT wi g tt tk tv (own.map (·.2)) σ H (fun x H1 => gName i x σ H1 D.nx) := h
  refine wpAny_bind (thn (dcT_core (Qf := fun _ s' => SP X pins D .next s') hu hc hN I hi ok hg ht hk he hs h fun L C s' m H' I' q hn f => ?_) fun _ s' hq => wpAny_pure (wpAny_pure hq))
  show wpAny _ _ (assign (.Name y py) X.env (.ref L)) _ _ _
  refine wpAny_assign_Name (store_ok2 (v := V.ref L) I' hN hy (.inl hyl) rfl (fun s2 I2 ⟨a, sb, ha⟩ => ?_) (.inr hyl))
  obtain ⟨f0, f1, f2, f3, f4, f5⟩ := f
  have haC : C ≠ a := by
    rcases ha with z | z
    · rw [z]; exact f1
    · exact fun e => f4 y a z e.symm
  refine ⟨m, hn.sameBut sb haC, fun h3 sb3 => ?_⟩
  exact ⟨_, H', I2.turned (t' := s2.toks) (fun b o hb e => (sb3.2 b hb).trans e) f0 f1 f3 f4 f5, q⟩
end
/-- the numbers and texts of a tuple that is a key -/
def keyTD : D → Option (List Key)
  | .tup xs => keysD xs
  | _ => none
theorem keyTD_ok {K : PySem.W.Frag} {m : Lbl} {H : Hp} {d : D} {v : V} {ks : List Key} (r : Rep K m H d v) (e : keyTD d = some ks) : ∃ b, H b = some (.tup (ks.map kV)) ∧ v = .ref b := by
  cases d with
  | tup xs =>
    obtain ⟨b, vs, rfl, hb, rr⟩ := tup_at r
    cases keysD_ok rr e
    exact ⟨b, hb, rfl⟩
  | _ => cases e
abbrev DFT := Loc → Sto → Option (List (List Key × D) × Sto)
noncomputable def dcTL (ok : Sto → Prop) (g : GF) (tt : TF) (tk tv : EF) (L0 : Loc) : List D → List (List Key × D) → Sto → Option (List (List Key × D) × Sto)
  | [], acc, S => chk (ok S) (some (acc, S))
  | d :: ds, acc, S => chk (ok S) ((g d L0 S).bind fun L1 => (tt L1 S).bind fun p => if p.1 = true then (tk L1 p.2).bind fun y => (tv L1 y.2).bind fun z => (keyTD y.1).bind fun k => if acc.length < sizeLine then dcTL ok g tt tk tv L0 ds (putD acc k z.1) z.2 else none else dcTL ok g tt tk tv L0 ds acc p.2)
noncomputable def dcTF (own : List Nat) (it : IF) (g : GF) (tt : TF) (tk tv : EF) : DFT := fun L S => (it L S).bind fun p => dcTL p.1.ok g tt tk tv (wipeL L own) p.1.items [] p.2
def eDcT (f : DFT) : EF := fun L S => (f L S).bind fun p => some (.ref p.2.length, p.2 ++ [.dit p.1])
/-- a fresh dict: nobody else holds it -/
def TDicT (K : PySem.W.Frag) (t : TE) (f : DFT) : Prop := ∀ (σ : L2.St) (H : Hp) (Q : VK) (m : Lbl) (L : Loc) (S : Sto) (ds : List (List Key × D)) (S' : Sto), RelL K m H L σ → RelS K m S H → f L S = some (ds, S') →
  (∀ mm H' p vs, Ext m mm H H' → RelS K (mm.hold p) S' H' → RepKs K (mm.hold p) H' ds vs → H' p = some (.dT vs) → H p = none → Q (.ref p) H') → t σ H Q
theorem tdicT_mut {K : PySem.W.Frag} {t : TE} {f : DFT} (h : TDicT K t f) {σ : L2.St} {H : Hp} {Q : VK} (q : teOf K (eDcT f) σ H Q) : t σ H Q := by
  obtain ⟨m, L, S, d, S', hl, hs, e, q⟩ := q
  obtain ⟨⟨ds, S1⟩, e1, e⟩ := Option.bind_eq_some_iff.mp e
  cases e
  refine h σ H Q m L S ds S1 hl hs e1 fun mm H' p vs x s r hp h0 => ?_
  have e0 : (mm.push p).l[mm.l.length]? = some (some p) := by simp [Lbl.push]
  have hpm : p ∉ mm.r := fun hm => by
    rw [x.res] at hm
    obtain ⟨⟨o, e, _⟩, _⟩ := hs.rsv p hm
    rw [h0] at e; cases e
  refine q (mm.push p) H' _ ?_ ?_ ?_
  · exact ⟨x.keep, x.stay, fun k a e => by
      rcases Lbl.push_at e with ⟨_, z⟩ | ⟨_, z⟩
      · exact x.new k a z
      · exact .inr (z ▸ h0), fun k hk => by
      have : (mm.push p).l[k]? = mm.l[k]? := List.getElem?_append_left (Nat.lt_of_lt_of_le hk x.len)
      rw [this]; exact x.old k hk, Nat.le_trans x.len (by simp [Lbl.push]), x.res, x.fix, x.frz⟩
  · refine ⟨by simp [Lbl.push, s.free.len], fun k u e => ?_, fun i j a e1 e2 => ?_, fun a ha => ?_⟩
    · by_cases hk : k < S1.length
      · rw [List.getElem?_append_left hk] at e
        exact (s.at_ k u e).map Rep.label Reps.label (List.getElem?_append_left (by have := s.len; simp [Lbl.hold] at this; omega)) fun a _ => rfl
      · have hk2 : k = S1.length := by
          have := (List.getElem?_eq_some_iff.mp e).1
          simp at this; omega
        subst hk2
        rw [List.getElem?_append_right (Nat.le_refl _)] at e
        simp at e
        subst e
        have hl : S1.length = mm.l.length := by have := s.len; simp [Lbl.hold] at this; exact this.symm
        rw [hl]
        exact ⟨p, vs, e0, hp, repK_label r⟩
    · rcases Lbl.push_at e1 with ⟨_, q1⟩ | ⟨q1, z1⟩ <;> rcases Lbl.push_at e2 with ⟨_, q2⟩ | ⟨q2, z2⟩
      · exact s.inj i j a q1 q2
      · subst z2
        exact absurd q1 ((s.rsv _ List.mem_cons_self).2 i)
      · subst z1
        exact absurd q2 ((s.rsv _ List.mem_cons_self).2 j)
      · omega
    · obtain ⟨q1, q2⟩ := s.rsv a (List.mem_cons_of_mem _ ha)
      refine ⟨q1, fun k ek => ?_⟩
      rcases Lbl.push_at ek with ⟨_, z⟩ | ⟨_, z⟩
      · exact q2 k z
      · exact hpm (z ▸ ha)
  · have hl : S1.length = mm.l.length := by have := s.len; simp [Lbl.hold] at this; exact this.symm
    unfold Rep
    rw [hl]
    exact ⟨by simp [Lbl.push], fun q eq => by rw [e0] at eq; cases eq; rfl⟩
theorem tdicT_dc {K : PySem.W.Frag} {it : IF} {g : GF} {is own : List Nat} {tt : TF} {tk tv : EF} (hsub : ∀ i, i ∈ is → i ∈ own) : TDicT K (tDcT (tiOf K it) (tgOf K is g) (ttOf K tt) (teOf K tk) (teOf K tv) own) (dcTF own it g tt tk tv) := by
  intro σ H Q m L S ds S' hl hs e q
  obtain ⟨⟨src, S1⟩, e1, e2⟩ := Option.bind_eq_some_iff.mp e
  refine ⟨m, L, S, src, S1, hl, hs, e1, fun m1 H1 J prs x1 s1 hprs ok => fun p hp => ?_⟩
  have hl1 : RelL K (m1.hold p) (upd H1 p (.dT [])) (wipeL L own) (L2.wipe σ own) := ((hl.ext x1).wipe own).hold hp
  have hpr1 : ∀ q, q ∈ prs → Rep K (m1.hold p) (upd H1 p (.dT [])) q.1 q.2 := fun q hq => Rep.hold hp _ _ (hprs q hq)
  refine ⟨fun i k H2 => ∃ (mm : Lbl) (S2 : Sto) (Hx : Hp) (vs : List (List Key × V)) (acc : List (List Key × D)), Ext (m1.hold p) (mm.hold p) (upd H1 p (.dT [])) (upd Hx p (.dT [])) ∧ mm.r = m1.r ∧ H2 = upd Hx p (.dT vs) ∧ RelS K (mm.hold p) S2 H2 ∧
    RepKs K (mm.hold p) H2 acc vs ∧ dcTL src.ok g tt tk tv (wipeL L own) (src.items.drop i) acc S2 = some (ds, S') ∧ i ≤ src.items.length ∧ k = src.items.length - i, ?_, ?_⟩
  · exact ⟨_, m1, S1, H1, [], [], Ext.refl _ _, rfl, rfl, s1.hold hp, repK_nil, by simpa using e2, Nat.zero_le _, rfl⟩
  · rintro i k H2 ⟨mm, S2, Hx, vs, acc, x2, hr, rfl, s2, ra, e3, hle, rfl⟩
    have fill : ∀ (d : D) (v : V), Rep K (mm.hold p) (upd Hx p (.dT [])) d v → Rep K (mm.hold p) (upd Hx p (.dT vs)) d v := fun d v h => by
      have := Rep.fill (o := .dT vs) d v h
      rw [upd_upd] at this
      exact this
    have frz2 : ∀ a o u, H1 a = some (.frz o u) → (upd Hx p (.dT vs)) a = some (.frz o u) := fun a o u e => by
      have hne := ne_of_none e hp
      have := x2.frz a o u (by rw [upd_ne hne]; exact e)
      rw [upd_ne hne] at this ⊢
      exact this
    have hpr2 : ∀ q, q ∈ prs → Rep K (mm.hold p) (upd Hx p (.dT vs)) q.1 q.2 := fun q hq => fill _ _ (Rep.ext x2 _ _ (hpr1 q hq))
    have hl2 : RelL K (mm.hold p) (upd Hx p (.dT vs)) (wipeL L own) (L2.wipe σ own) := ⟨hl1.len, fun i d e => let ⟨v, e1, r⟩ := (hl1.ext x2).at_ i d e; ⟨v, e1, fill d v r⟩⟩
    by_cases hlt : i < src.items.length
    · right
      have hd : src.items.drop i = src.items[i] :: src.items.drop (i + 1) := List.drop_eq_getElem_cons hlt
      rw [hd] at e3
      obtain ⟨hok, e3⟩ := chk_some e3
      obtain ⟨L3, e4, e3⟩ := Option.bind_eq_some_iff.mp e3
      obtain ⟨⟨b, S3⟩, e5, e3⟩ := Option.bind_eq_some_iff.mp e3
      obtain ⟨go, yl⟩ := (ok (mm.hold p) S2 (upd Hx p (.dT vs)) i frz2 hpr2 s2 hok).1 _ (List.getElem?_eq_getElem hlt)
      refine ⟨go, fun H' => ∃ (mm : Lbl) (S2 : Sto) (Hx : Hp) (vs : List (List Key × V)) (acc : List (List Key × D)), Ext (m1.hold p) (mm.hold p) (upd H1 p (.dT [])) (upd Hx p (.dT [])) ∧ mm.r = m1.r ∧ H' = upd Hx p (.dT vs) ∧ RelS K (mm.hold p) S2 H' ∧
        RepKs K (mm.hold p) H' acc vs ∧ dcTL src.ok g tt tk tv (wipeL L own) (src.items.drop (i + 1)) acc S2 = some (ds, S'), ?_, ?_⟩
      · rintro H' ⟨mm, S2, Hx, vs, acc, y1, y2, y3, y4, y5, y6⟩
        exact ⟨_, by omega, mm, S2, Hx, vs, acc, y1, y2, y3, y4, y5, y6, hlt, rfl⟩
      · intro v H3 hy
        obtain ⟨y1, y2, y3⟩ := yl v H3 hy
        have back : ∀ {m4 : Lbl} {H4 : Hp} {S4 : Sto}, Ext (mm.hold p) m4 (upd Hx p (.dT vs)) H4 → RelS K m4 S4 H4 → ∃ mm4 : Lbl, m4 = mm4.hold p ∧ mm4.r = m1.r ∧ Ext (m1.hold p) (mm4.hold p) (upd H1 p (.dT [])) (upd H4 p (.dT [])) ∧ H4 p = some (.dT vs) ∧ upd H4 p (.dT vs) = H4 := by
          intro m4 H4 S4 y4 s4
          have hr4 : m4.r = p :: mm.r := y4.res
          have e4 : m4 = (⟨m4.l, mm.r⟩ : Lbl).hold p := by
            cases m4
            simp only at hr4
            subst hr4
            rfl
          have hp4 : H4 p = some (.dT vs) := by
            rw [y4.fix p List.mem_cons_self]; exact upd_same
          refine ⟨⟨m4.l, mm.r⟩, e4, hr, ?_, hp4, ?_⟩
          · rw [← e4]
            exact x2.trans (Ext.under (o2 := .dT []) y4)
          · funext b
            by_cases hb : b = p
            · subst hb; rw [upd_same, hp4]
            · rw [upd_ne hb]
        refine ⟨mm.hold p, wipeL L own, S2, _, L3, hl2.ext y1, y2, y3, e4, fun σ3 l3 st => ⟨?_, ?_⟩⟩
        · have := st own hsub
          rw [this]
          apply List.ext_getElem?
          intro j
          rw [wipe_get, wipe_get, L2.wipe_length]
          by_cases hj : j ∈ own <;> simp [hj]
        · refine ⟨mm.hold p, L3, S2, b, S3, l3, y2, e5, fun m4 H4 y4 s4 => ?_⟩
          have y14 := y1.trans y4
          cases b with
          | false =>
            have e3 : dcTL src.ok g tt tk tv (wipeL L own) (src.items.drop (i + 1)) acc S3 = some (ds, S') := by simpa using e3
            refine iteF ?_
            obtain ⟨mm4, rfl, z1, z2, z3, z4⟩ := back y14 s4
            exact ⟨mm4, S3, H4, vs, acc, z2, z1, z4.symm, s4, RepKs.ext y14 ra, e3⟩
          | true =>
            simp only [if_true] at e3
            obtain ⟨⟨yk, S5⟩, e6, e3⟩ := Option.bind_eq_some_iff.mp e3
            obtain ⟨⟨yv, S6⟩, e7, e3⟩ := Option.bind_eq_some_iff.mp e3
            obtain ⟨key, e8, e3⟩ := Option.bind_eq_some_iff.mp e3
            by_cases hz : acc.length < sizeLine
            · simp only [hz, if_true] at e3
              refine iteT ⟨m4, L3, S3, yk, S5, l3.ext y4, s4, e6, fun m5 H5 w y5 s5 rw' => ?_⟩
              refine ⟨m5, L3, S5, yv, S6, (l3.ext y4).ext y5, s5, e7, fun m6 H6 w2 y6 s6 rw2 => ?_⟩
              have y16 := (y14.trans y5).trans y6
              obtain ⟨mm6, rfl, z1, z2, z3, z4⟩ := back y16 s6
              have ra6 := RepKs.ext y16 ra
              obtain ⟨kb, hkb, rfl⟩ := keyTD_ok (Rep.ext y6 _ _ rw') e8
              refine ⟨vs, key, kb, rfl, hkb, z3, by rw [repK_len ra6]; exact hz, mm6, S6, H6, putK vs key w2, putD acc key yv, z2, z1, rfl, s6.fill, ?_, e3⟩
              exact (repK_put key rw2 ra6).map Rep.fill
            · simp only [hz, if_false] at e3; cases e3
    · left
      have hi : i = src.items.length := by omega
      subst hi
      rw [List.drop_length] at e3
      obtain ⟨hok, e3⟩ := chk_some e3
      cases e3
      refine ⟨(ok _ _ _ _ frz2 hpr2 s2 hok).2 rfl, q mm _ p vs ?_ s2 ra upd_same (x1.stay p hp)⟩
      have := x1.trans (Ext.freeO (o2 := .dT vs) x2 hp s1)
      rw [upd_upd] at this
      have e9 : (⟨(mm.hold p).l, m1.r⟩ : Lbl) = mm := by
        cases mm
        simp only at hr
        subst hr
        rfl
      rw [e9] at this
      exact this
section
variable {X : Cx} {pos : Pos}
theorem de_dcT {kx vx tg iter : Expr} {ifs : List Expr} {scope : Scope} {own : List (Str × Nat)} {it : IF} {g : GF} {is : List Nat} {tt : TF} {tk tv : EF} (hu : X.A.units < cLine) (hc : X.calm = true) (hN : X.N.Nodup) (hi : PI X tg iter (tiOf X.K it)) (ok : BlkOk X.N X.env.scope scope own) (hsub : ∀ i, i ∈ is → i ∈ own.map (·.2))
    (hg : ∀ (s : Shared) (H : Hp) (C : Addr) (cl : List (Str × Addr)) (fp : List Addr), PG (X.blk s H scope (compEnvC scope cl C X.env) fp) tg (tgOf X.K is g)) (ht : ∀ (s : Shared) (H : Hp) (C : Addr) (cl : List (Str × Addr)) (fp : List Addr), PTs (X.blk s H scope (compEnvC scope cl C X.env) fp) ifs (ttOf X.K tt))
    (hk : ∀ (s : Shared) (H : Hp) (C : Addr) (cl : List (Str × Addr)) (fp : List Addr), PE (X.blk s H scope (compEnvC scope cl C X.env) fp) kx (teOf X.K tk))
    (he : ∀ (s : Shared) (H : Hp) (C : Addr) (cl : List (Str × Addr)) (fp : List Addr), PE (X.blk s H scope (compEnvC scope cl C X.env) fp) vx (teOf X.K tv)) (hs : ∀ x, foldedSetIterable iter X.env x = pure x := by intro _; rfl) :
    PE X (.DictComp kx vx [⟨tg, iter, ifs, 0⟩] scope pos) (teOf X.K (eDcT (dcTF (own.map (·.2)) it g tt tk tv))) :=
  pe_imp (pe_dcT hu hc hN hi ok hg ht hk he hs) fun _ _ _ h => tdicT_mut (tdicT_dc hsub) h
end

section
variable {X : Cx}
theorem ds_setDcT {i : Nat} {y : Str} {py spos pos : Pos} {kx vx tg iter : Expr} {ifs : List Expr} {scope : Scope} {own : List (Str × Nat)} {it : IF} {g : GF} {is : List Nat} {tt : TF} {tk tv : EF} (hu : X.A.units < cLine) (hc : X.calm = true) (hN : X.N.Nodup) (hi : PI X tg iter (tiOf X.K it)) (ok : BlkOk X.N X.env.scope scope own) (hsub : ∀ i, i ∈ is → i ∈ own.map (·.2))
    (hg : ∀ (s : Shared) (H : Hp) (C : Addr) (cl : List (Str × Addr)) (fp : List Addr), PG (X.blk s H scope (compEnvC scope cl C X.env) fp) tg (tgOf X.K is g)) (ht : ∀ (s : Shared) (H : Hp) (C : Addr) (cl : List (Str × Addr)) (fp : List Addr), PTs (X.blk s H scope (compEnvC scope cl C X.env) fp) ifs (ttOf X.K tt))
    (hk : ∀ (s : Shared) (H : Hp) (C : Addr) (cl : List (Str × Addr)) (fp : List Addr), PE (X.blk s H scope (compEnvC scope cl C X.env) fp) kx (teOf X.K tk))
    (he : ∀ (s : Shared) (H : Hp) (C : Addr) (cl : List (Str × Addr)) (fp : List Addr), PE (X.blk s H scope (compEnvC scope cl C X.env) fp) vx (teOf X.K tv))
    (hsw : swapsWith (.DictComp kx vx [⟨tg, iter, ifs, 0⟩] scope pos) (some (.Name y py)) spos.line X.env = pure true) (hy : X.N[i]? = some y := by rfl) (hyl : X.env.scope.names.lookup y = some .local := by rfl) (hs : ∀ x, foldedSetIterable iter X.env x = pure x := by intro _; rfl) :
    PS X (.Assign [.Name y py] (.DictComp kx vx [⟨tg, iter, ifs, 0⟩] scope pos) spos) (tsOf X.K (sSet i (eDcT (dcTF (own.map (·.2)) it g tt tk tv)))) :=
  ps_imp (ps_setDcT hu hc hN hy hyl hsw hi ok hg ht hk he hs) fun _ _ _ h => ts_set (fun _ _ _ h => tdicT_mut (tdicT_dc hsub) h) h
end
theorem RoomG.u0 {k : Nat} {A : Around} (r : RoomG k A) : A.units < cLine := Nat.lt_of_succ_lt r.u1

/-! ### t < u: tuples of numbers -/
section
variable {K : PySem.W.Frag}
def tupI : D → Option (List Int)
  | .tup xs => intsD xs
  | .tud xs => intsD xs
  | _ => none
def gLtT (a b : D) (S : Sto) : Option (D × Sto) := (tupI a).bind fun xs => (tupI b).map fun ys => (.bl (HT.lexLt xs ys), S)
theorem tupI_ok {m : Lbl} {H : Hp} {d : D} {v : V} {xs : List Int} (r : Rep K m H d v) (e : tupI d = some xs) : ∃ p, v = .ref p ∧ SqT K H p (xs.map V.int) := by
  cases d with
  | tup ds =>
    obtain ⟨p, vs, rfl, hp, rr⟩ := tup_at r
    cases ints_ok rr e
    exact ⟨p, rfl, SqT.of hp⟩
  | tud ds =>
    obtain ⟨p, vs, od, rfl, _, _, hp, rr⟩ := tud_at r
    cases ints_ok rr e
    exact ⟨p, rfl, hp⟩
  | _ => cases e
theorem ok_ltT : Op2Ok K (rLtT K) gLtT := by
  intro m S H a b d x y S' Q s ra rb e q
  obtain ⟨xs, e1, e⟩ := Option.bind_eq_some_iff.mp e
  obtain ⟨ys, e2, e⟩ := Option.map_eq_some_iff.mp e
  cases e
  obtain ⟨p, rfl, hp⟩ := tupI_ok ra e1
  obtain ⟨p', rfl, hp'⟩ := tupI_ok rb e2
  exact ⟨p, p', xs, ys, rfl, rfl, hp, hp', q m H _ (Ext.refl m H) s bl_rep⟩
end
end DS
namespace DS
open PySem PySem.Spec PyProof.Rows L2

/-! ### targets within targets: (a, (b, c)) = .. -/
abbrev G0 := D → Loc → Option Loc
def gn (i : Nat) : G0 := fun d L => some (L.set i (some d))
def gt (is : List Nat) : G0 := fun d L => match d with | .tup ds => gfNames is ds L | _ => none
def gsL : List G0 → List D → Loc → Option Loc
  | [], [], L => some L
  | g :: gs, d :: ds, L => (g d L).bind fun L => gsL gs ds L
  | _, _, _ => none
def gfTupG (gs : List G0) : GF := fun d L _ => match d with | .tup ds => gsL gs ds L | _ => none
def tg0 (K : PySem.W.Frag) (is : List Nat) (g : G0) : TG := fun v σ H Q => ∃ m L d L', RelL K m H L σ ∧ Rep K m H d v ∧ g d L = some L' ∧ ∀ σ', RelL K m H L' σ' → Stored is σ σ' → Q σ' H
def tgs0 (K : PySem.W.Frag) (is : List Nat) (gs : List G0) : TGs := fun vs σ H Q => ∃ m L ds L', RelL K m H L σ ∧ Reps K m H ds vs ∧ gsL gs ds L = some L' ∧ ∀ σ', RelL K m H L' σ' → Stored is σ σ' → Q σ' H
theorem Stored.app {is js : List Nat} {σ σ1 σ' : L2.St} (h : Stored is σ σ1) (h2 : Stored js σ1 σ') : Stored (is ++ js) σ σ' := fun ws hw =>
  (h2 ws fun i hi => hw i (List.mem_append_right _ hi)).trans (h ws fun i hi => hw i (List.mem_append_left _ hi))
section
variable {X : Cx} {pos : Pos}
theorem dg0_name {i : Nat} {x : Str} (hN : X.N.Nodup) (hi : X.N[i]? = some x := by rfl) (hx : L2.Loc X.env.scope x := by first | exact Or.inl rfl | exact Or.inr rfl) (hf : X.fn x = true ∨ X.env.scope.names.lookup x = some .local := by first | exact .inl rfl | exact .inr rfl) :
    PG X (.Name x pos) (tg0 X.K [i] (gn i)) :=
  pg_imp (pg_name (i := i) hN hi hx hf) fun v σ H Q ⟨m, L, d, L', hl, hr, e, q⟩ => by
    cases e
    exact q _ (hl.set i hr) stored_one
theorem dg0_tup {es : List Expr} {k : Nat} {is : List Nat} (hc : X.calm = true) (h : PGs X es (tgsOf X.K is)) (hn : (assignEach es X.env).length = is.length := by rfl) (hst : (assignEach es X.env).findIdx? (·.1) = none := by rfl) :
    PG X (.Tuple es k pos) (tg0 X.K is (gt is)) :=
  pg_imp (pg_tup hc h hn hst) fun v σ H Q ⟨m, L, d, L', hl, hr, e, q⟩ => by
    cases d with
    | tup ds =>
      unfold Rep at hr
      obtain ⟨p, vs, rfl, hp, _, r⟩ := hr
      exact ⟨p, vs, rfl, SqT.of hp, by rw [r.length]; exact gfNames_len e, m, L, ds, L', hl, r, e, q⟩
    | _ => cases e
theorem dgs0_nil : PGs X [] (tgs0 X.K [] []) := pgs_imp pgs_nil fun vs σ H Q ⟨m, L, ds, L', hl, hr, e, q⟩ => by
  cases ds with
  | nil => cases e; exact ⟨hr.of_nil, q σ hl Stored.nil⟩
  | cons _ _ => cases e
theorem dgs0_cons {is js : List Nat} {g : G0} {gs : List G0} {e : Expr} {es : List Expr} (h1 : PG X e (tg0 X.K is g)) (h2 : PGs X es (tgs0 X.K js gs))
    (hs : (assignEach (e :: es) X.env).map (·.2) = assign e X.env :: (assignEach es X.env).map (·.2) := by rfl) : PGs X (e :: es) (tgs0 X.K (is ++ js) (g :: gs)) :=
  pgs_imp (pgs_cons h1 h2 hs) fun vs σ H Q ⟨m, L, ds, L', hl, hr, e, q⟩ => by
    cases ds with
    | nil => cases e
    | cons d ds =>
      obtain ⟨L1, e1, e2⟩ := Option.bind_eq_some_iff.mp e
      obtain ⟨v, r, rfl, r1, r2⟩ := hr.of_cons
      exact ⟨v, r, rfl, m, L, d, L1, hl, r1, e1, fun σ1 l1 st1 => ⟨m, L1, ds, L', l1, r2, e2, fun σ' l' st => q σ' l' (st1.app st)⟩⟩
theorem gsL_len : ∀ {gs : List G0} {ds : List D} {L L' : Loc}, gsL gs ds L = some L' → ds.length = gs.length
  | [], [], _, _, _ => rfl
  | [], _ :: _, _, _, e => by simp [gsL] at e
  | _ :: _, [], _, _, e => by simp [gsL] at e
  | g :: gs, d :: ds, L, L', e => by
    obtain ⟨L1, e1, e2⟩ := Option.bind_eq_some_iff.mp (show (g d L).bind (fun L => gsL gs ds L) = some L' from e)
    simp [gsL_len e2]
theorem dg_tupG {es : List Expr} {k : Nat} {is : List Nat} {gs : List G0} (hc : X.calm = true) (h : PGs X es (tgs0 X.K is gs)) (hn : (assignEach es X.env).length = gs.length := by rfl) (hst : (assignEach es X.env).findIdx? (·.1) = none := by rfl) :
    PG X (.Tuple es k pos) (tgOf X.K is (gfTupG gs)) :=
  pg_imp (pg_tup hc h hn hst) fun v σ H Q ⟨m, L, S, d, L', hl, hs, hr, e, q⟩ => by
    cases d with
    | tup ds =>
      unfold Rep at hr
      obtain ⟨p, vs, rfl, hp, _, r⟩ := hr
      exact ⟨p, vs, rfl, SqT.of hp, by rw [r.length]; exact gsL_len e, m, L, ds, L', hl, r, e, q⟩
    | _ => cases e
end
/-! ### (a, *b) -/
def aStar (f : EF) (g : AF) : AF := fun L S => (f L S).bind fun p => match p.1 with
  | .tup xs => (g L p.2).bind fun q => some (xs ++ q.1, q.2)
  | _ => none
theorem da_star {X : Cx} {e : Expr} {es : List Expr} {f : EF} {g : AF} {p : Pos} (ha : PE X e (teOf X.K f)) (hr : PA X es (taOf X.K g)) (hs : starEach (.Starred e p :: es) X.env = (true, eval e X.env) :: starEach es X.env := by rfl) : PA X (.Starred e p :: es) (taOf X.K (aStar f g)) :=
  pa_imp (StX.pa_star ha hr hs) fun σ H Q ⟨m, L, S, d, S', hl, hs, e, q⟩ => by
    obtain ⟨⟨z, S1⟩, e1, e⟩ := Option.bind_eq_some_iff.mp e
    refine ⟨m, L, S, z, S1, hl, hs, e1, fun m1 H1 x x1 s1 r1 => ?_⟩
    cases z with
    | tup xs =>
      obtain ⟨⟨zs, S2⟩, e2, e⟩ := Option.bind_eq_some_iff.mp e
      cases e
      obtain ⟨a, vs, rfl, hp, rr⟩ := tup_at r1
      refine ⟨a, vs, rfl, .inl (SqT.of hp), m1, L, S1, zs, S2, hl.ext x1, s1, e2, fun m2 H2 y x2 s2 r2 => ?_⟩
      exact q m2 H2 (vs ++ y) (x1.trans x2) s2 (Reps.append (Reps.ext x2 _ _ rr) r2)
    | _ => cases e
/-! ### dict(d): a copy; l.count(k) -/
section
variable {K : PySem.W.Frag} {X : Cx}
def gDictC : List D → Sto → Option (D × Sto)
  | [.ref k], S => match S[k]? with | some (.dic kvs) => some (.ref S.length, S ++ [.dic kvs]) | _ => none
  | _, _ => none
def rDictC (K : PySem.W.Frag) : List V → Hp → VK → Prop := fun xs H Q => ∃ (a : Addr) (kvs : List (Key × V)), xs = [.ref a] ∧ Rd H a (.dK kvs) ∧ ∀ p, H p = none → Q (.ref p) (upd H p (.dK kvs))
theorem dictC_ok : CallOk K (rDictC K) gDictC := by
  intro m S H ds d xs S' Q s r e q
  match ds, e with
  | [.ref k], e =>
    obtain ⟨x, rfl, rx⟩ := one_of r
    unfold gDictC at e
    dsimp only at e
    split at e
    · rename_i kvs ho
      cases e
      unfold Rep at rx
      obtain ⟨a, vs, e1, e2, rr⟩ := s.at_ k _ ho
      cases rx.2 a e1
      refine ⟨a, vs, rfl, .inl e2, fun l hl => ?_⟩
      obtain ⟨y1, y2, y3⟩ := dic_new s rr hl
      exact q _ _ _ y1 y2 y3
    · cases e
end
/-! ### l.count(k) -/
section
variable {X : Cx}
def rCntL (K : PySem.W.Frag) : V → List V → Hp → VK → Prop := fun x xs H Q => ∃ p, ∃ ns : List Int, ∃ k, x = .ref p ∧ xs = [.int k] ∧ SqL K H p (ns.map V.int) ∧ Q (.int (ns.count k : Nat)) H
theorem mt_cntL (hu : X.A.units + 66 < cLine) : MtR X "list.count" (rCntL X.K) := by
  intro pins s σ H x xs v us Q I rx rs h
  obtain ⟨p, ns, k, rfl, rfl, hq, q⟩ := h
  cases rx
  obtain ⟨u, rfl, t, rfl⟩ := vals1 rs
  obtain ⟨its, r, pl, hz⟩ := I.list hq
  obtain ⟨as, ra⟩ := reads_ints (h := s.heap) r
  have hd := depth_ints ns
  refine PySem.SeqAt.count_list_data (vs := its.toArray) pl.isList (by simpa using ra) (.int k t) (plain_ints ns) rfl (by simp only [PyData.depth]; omega) ⟨.int _, H, I.tok _, ⟨_, rfl⟩, ?_⟩
  rw [countP_ints]
  exact q
def eCntL (fo : EF) (fa : AF) : EF := fun L S => (fo L S).bind fun p => match p.1 with
  | .lst xs => (fa L p.2).bind fun q => (gCntT xs q.1).map fun d => (d, q.2)
  | _ => none
theorem de_cntL {o e : Expr} {apos cpos : Pos} {fo : EF} {fa : AF} (hu : X.A.units + 66 < cLine) (ho : PE X o (teOf X.K fo)) (ha : PA X [e] (taOf X.K fa))
    (hbase : attributeBase o "count" X.env (eval o X.env) = eval o X.env := by rfl)
    (hfew : ((backTo cpos (starEach [e] X.env)).all (fun x => !x.1) && (backToKw cpos (keywordEach [] X.env)).all (fun x => x.1.isSome)
      && decide ([e].length + ([] : List Keyword).length + (if ([] : List Keyword).isEmpty then 0 else 1) < 30)) = true := by rfl)
    (hline : (apos.endLine == cpos.line) = true := by rfl) (hs : starEach [e] X.env = (false, eval e X.env) :: starEach [] X.env := by rfl) (hplain : (backTo cpos (starEach [] X.env)).any (·.1) = false := by rfl) :
    PE X (.Call (.Attribute o "count" apos) [e] [] cpos) (teOf X.K (eCntL fo fa)) :=
  pe_imp (pe_bm PySem.F.plainAttrs_list PySem.F.slot_list_count PySem.F.type_list_count (mt_cntL hu) ho ha hbase hfew hline hs hplain) fun σ H Q ⟨m, L, S, d, S', hl, hs, e, q⟩ => by
    obtain ⟨⟨z, S1⟩, e1, e⟩ := Option.bind_eq_some_iff.mp e
    refine ⟨m, L, S, z, S1, hl, hs, e1, fun m1 H1 x x1 s1 r1 => ?_⟩
    dsimp only at e
    split at e
    · rename_i xs
      obtain ⟨⟨as, S2⟩, e2, e⟩ := Option.bind_eq_some_iff.mp e
      obtain ⟨d', e3, e⟩ := Option.map_eq_some_iff.mp e
      cases e
      have r1' := r1
      unfold Rep at r1'
      obtain ⟨p, vs, rfl, hp, n, rr⟩ := r1'
      refine ⟨.inl ⟨rfl, vs, SqL.of hp⟩, m1, L, S1, as, S2, hl.ext x1, s1, e2, fun m2 H2 us x2 s2 r2 => ?_⟩
      have r1'' := Rep.ext x2 _ _ r1
      unfold Rep at r1''
      obtain ⟨p', vs', e0, hp', n', rr'⟩ := r1''
      cases e0
      obtain ⟨k, ns, rfl, e4, rfl⟩ := gCntT_some e3
      obtain ⟨y, rfl, ry⟩ := one_of r2
      cases rep_int ry
      rw [ints_ok rr' e4] at hp'
      exact ⟨p, ns, k, rfl, rfl, SqL.of hp', q m2 H2 _ (x1.trans x2) s2 int_rep⟩
    · cases e
end
def sDead : SF := fun _ _ => none
theorem ds_dead {X : Cx} {st : Stmt} : PS X st (tsOf X.K sDead) := ⟨fun _ _ _ _ _ _ ⟨_, _, _, _, _, _, _, _, e, _⟩ => nomatch e⟩
/-! ### x is None, x a mutable thing -/
section
variable {K : PySem.W.Frag}
def isNonS (S : Sto) : D → Option Bool
  | .ref k => match S[k]? with
    | some (.lst _) => some false
    | some (.dic _) => some false
    | some (.dit _) => some false
    | _ => none
  | a => isNon a
def gIsR (a b : D) (S : Sto) : Option (D × Sto) := match b with
  | .non => (isNonS S a).map fun c => (.bl c, S)
  | _ => none
theorem isNonS_ok {m : Lbl} {S : Sto} {H : Hp} {a : D} {x : V} {b : Bool} (s : RelS K m S H) (r : Rep K m H a x) (e : isNonS S a = some b) : decide (x = .non) = b := by
  cases a with
  | ref k =>
    unfold Rep at r
    unfold isNonS at e
    dsimp only at e
    split at e
    · rename_i xs ho
      cases e
      obtain ⟨p, vs, e1, _⟩ := s.at_ k _ ho
      rw [r.2 p e1]
      rfl
    · rename_i xs ho
      cases e
      obtain ⟨p, vs, e1, _⟩ := s.at_ k _ ho
      rw [r.2 p e1]
      rfl
    · rename_i xs ho
      cases e
      obtain ⟨p, vs, e1, _⟩ := s.at_ k _ ho
      rw [r.2 p e1]
      rfl
    · cases e
  | _ => exact isNon_ok r e
theorem ok_isR : Op2Ok K (fun x y H Q => y = .non ∧ Q (.bl (decide (x = .non))) H) gIsR := by
  intro m S H a b d x y S' Q s ra rb e q
  unfold gIsR at e
  split at e
  · obtain ⟨c, e1, e⟩ := Option.map_eq_some_iff.mp e
    cases e
    exact ⟨rep_non rb, by rw [isNonS_ok s ra e1]; exact q m H _ (Ext.refl m H) s bl_rep⟩
  · cases e
end
end DS
namespace DS
open PySem PySem.Spec PyProof.Rows L2

/-! ### the combinators, as rules of rewriting -/
/-- small enough for a list -/
def Sz (n : Nat) : Prop := n ≤ sizeLine
instance (n : Nat) : Decidable (Sz n) := inferInstanceAs (Decidable (n ≤ sizeLine))
theorem sz_ok {n : Nat} (h : n ≤ 16777216) : Sz n := by
  have := sizeLine_eq
  unfold Sz
  omega
theorem Sz.le {n : Nat} (h : Sz n) : n ≤ sizeLine := h
@[simp] theorem sz_0 : Sz 0 := sz_ok (by omega)
@[simp] theorem sz_1 : Sz 1 := sz_ok (by omega)
@[simp] theorem sz_2 : Sz 2 := sz_ok (by omega)
@[simp] theorem sz_3 : Sz 3 := sz_ok (by omega)
@[simp] theorem sz_4 : Sz 4 := sz_ok (by omega)
@[simp] theorem sz_5 : Sz 5 := sz_ok (by omega)
@[simp] theorem sz_6 : Sz 6 := sz_ok (by omega)
@[simp] theorem sz_7 : Sz 7 := sz_ok (by omega)
@[simp] theorem sz_8 : Sz 8 := sz_ok (by omega)
@[simp] theorem sz_9 : Sz 9 := sz_ok (by omega)
@[simp] theorem sz_10 : Sz 10 := sz_ok (by omega)
@[simp] theorem sz_11 : Sz 11 := sz_ok (by omega)
@[simp] theorem sz_12 : Sz 12 := sz_ok (by omega)
/-- small enough for a range -/
def RgI (j : Int) : Prop := -(2 ^ 62) ≤ j ∧ j < 2 ^ 62
theorem rgI_ok {j : Int} (h : -1000000000 ≤ j) (h2 : j ≤ 1000000000) : RgI j := ⟨by omega, by omega⟩
def RgJ (i j : Int) : Prop := -(2 ^ 62) ≤ i ∧ i < 2 ^ 62 ∧ -(2 ^ 62) ≤ j ∧ j < 2 ^ 62
theorem rgJ_ok {i j : Int} (h : -1000000000 ≤ j) (h2 : j ≤ 1000000000) (h3 : -1000000000 ≤ i) (h4 : i ≤ 1000000000) : RgJ i j := ⟨by omega, by omega, by omega, by omega⟩
section
variable {f f1 f2 f3 : EF} {g : FF} {fa ga : AF} {t u : TF} {s s1 s2 : SF} {L : Loc} {S : Sto}
@[simp] theorem ev_var {i : Nat} : eVar i L S = (L[i]?).bind fun o => o.bind fun d => some (d, S) := rfl
@[simp] theorem ev_c {d : D} : eC d L S = some (d, S) := rfl
@[simp] theorem ev_op2 {g : D → D → Sto → Option (D × Sto)} : eOp2 g f1 f2 L S = (f1 L S).bind fun p => (f2 L p.2).bind fun q => g p.1 q.1 q.2 := rfl
@[simp] theorem ev_op1 {g : D → Sto → Option (D × Sto)} : eOp1 g f1 L S = (f1 L S).bind fun p => g p.1 p.2 := rfl
@[simp] theorem ev_if : eIf t f1 f2 L S = (t L S).bind fun p => if p.1 = true then f1 L p.2 else f2 L p.2 := rfl
@[simp] theorem ev_nil : aNil L S = some ([], S) := rfl
@[simp] theorem ev_cons : aCons f ga L S = (f L S).bind fun p => (ga L p.2).bind fun q => some (p.1 :: q.1, q.2) := rfl
@[simp] theorem ev_tup : eTup fa L S = (fa L S).bind fun p => if Sz p.1.length then some (.tup p.1, p.2) else none := rfl
@[simp] theorem ev_lst : eLst fa L S = (fa L S).bind fun p => if Sz p.1.length then some (.lst p.1, p.2) else none := rfl
@[simp] theorem ev_lstM : eLstM fa L S = (fa L S).bind fun p => if Sz p.1.length then some (.ref p.2.length, p.2 ++ [.lst p.1]) else none := rfl
@[simp] theorem ev_fun : eFun g fa L S = (fa L S).bind fun p => g p.1 p.2 := rfl
@[simp] theorem ev_val : bVal f L S = (f L S).bind fun p => match p.1 with | .bl b => some (b, p.2) | _ => none := rfl
@[simp] theorem ev_band : bAnd t u L S = (t L S).bind fun p => if p.1 = true then u L p.2 else some (false, p.2) := rfl
@[simp] theorem ev_bor : bOr t u L S = (t L S).bind fun p => if p.1 = true then some (true, p.2) else u L p.2 := rfl
@[simp] theorem ev_bnot : bNot t L S = (t L S).bind fun p => some (!p.1, p.2) := rfl
@[simp] theorem ev_byes : bYes L S = some (true, S) := rfl
@[simp] theorem ev_and : eAnd f1 f2 L S = (f1 L S).bind fun p => match p.1 with | .bl true => f2 L p.2 | .bl false => some (.bl false, p.2) | _ => none := rfl
@[simp] theorem ev_or : eOr f1 f2 L S = (f1 L S).bind fun p => match p.1 with | .bl true => some (.bl true, p.2) | .bl false => f2 L p.2 | _ => none := rfl
@[simp] theorem ev_not : eNot f1 L S = (f1 L S).bind fun p => match p.1 with | .bl b => some (.bl (!b), p.2) | _ => none := rfl
@[simp] theorem ev_chain {g g' : D → D → Sto → Option (D × Sto)} : eChain g g' f1 f2 f3 L S = (f1 L S).bind fun p => (f2 L p.2).bind fun q => (g p.1 q.1 q.2).bind fun r => match r.1 with
  | .bl true => (f3 L r.2).bind fun t => g' q.1 t.1 t.2
  | .bl false => some (.bl false, r.2)
  | _ => none := rfl
@[simp] theorem ev_fro : eFro fa L S = (fa L S).bind fun p => some (.lst p.1, p.2) := rfl
@[simp] theorem ev_mut : eMut fa L S = (fa L S).bind fun p => some (.ref p.2.length, p.2 ++ [.lst p.1]) := rfl
@[simp] theorem ev_seq : sSeq s1 s2 L S = (s1 L S).bind fun p => match p with | (.nx, L1, S1) => s2 L1 S1 | (r, L1, S1) => some (r, L1, S1) := rfl
@[simp] theorem ev_set {i : Nat} : sSet i f L S = (f L S).bind fun p => some (.nx, L.set i (some p.1), p.2) := rfl
@[simp] theorem ev_exp : sExp f L S = (f L S).bind fun p => some (.nx, L, p.2) := rfl
@[simp] theorem ev_ret : sRet f L S = (f L S).bind fun p => some (.rt p.1, L, p.2) := rfl
@[simp] theorem ev_retN : sRetN L S = some (.rt .non, L, S) := rfl
@[simp] theorem ev_nx : sNx L S = some (.nx, L, S) := rfl
@[simp] theorem ev_bk : sBk L S = some (.bk, L, S) := rfl
@[simp] theorem ev_ct : sCt L S = some (.ct, L, S) := rfl
@[simp] theorem ev_sif : sIf t s1 s2 L S = (t L S).bind fun p => if p.1 = true then s1 L p.2 else s2 L p.2 := rfl
@[simp] theorem ev_asg {g : GF} : sAsg f g L S = (f L S).bind fun p => (g p.1 L p.2).bind fun L' => some (.nx, L', p.2) := rfl
@[simp] theorem ev_put {fo fi : EF} : sPut f fo fi L S = (f L S).bind fun p => (fo L p.2).bind fun q => (fi L q.2).bind fun r => (gSet q.1 r.1 p.1 r.2).bind fun S' => some (.nx, L, S') := rfl
@[simp] theorem ev_gname {i : Nat} {d : D} : gfName i d L S = some (L.set i (some d)) := rfl
@[simp] theorem ev_gtup {is : List Nat} {ds : List D} : gfTup is (.tup ds) L S = gfNames is ds L := rfl
@[simp] theorem ev_gtupR {is : List Nat} {ds : List D} : gfTupR is (.tup ds) L S = gfNames is.reverse ds.reverse L := rfl
@[simp] theorem ev_gn0 : gfNames [] [] L = some L := rfl
@[simp] theorem ev_gn1 {i : Nat} {is : List Nat} {d : D} {ds : List D} : gfNames (i :: is) (d :: ds) L = gfNames is ds (L.set i (some d)) := rfl
@[simp] theorem ev_iseq : iSeq f L S = (f L S).bind fun p => (seqD p.2 p.1).bind fun s => some (s, p.2) := rfl
@[simp] theorem ev_seqt {xs : List D} : seqD S (.tup xs) = some ⟨xs, fun _ => True⟩ := rfl
@[simp] theorem ev_seqtd {xs : List D} : seqD S (.tud xs) = some ⟨xs, fun _ => True⟩ := rfl
@[simp] theorem ev_seql {xs : List D} : seqD S (.lst xs) = some ⟨xs, fun _ => True⟩ := rfl
@[simp] theorem ev_seqa {xs : List D} : seqD S (.arg xs) = some ⟨xs, fun _ => True⟩ := rfl
@[simp] theorem ev_irng1 : DS.iRng1 fa L S = (fa L S).bind fun p => match p.1 with
  | [.int j] => chk (RgI j) (some (⟨rngD 0 j.toNat, fun _ => True⟩, p.2))
  | _ => none := rfl
@[simp] theorem ev_irng2 : DS.iRng2 fa L S = (fa L S).bind fun p => match p.1 with
  | [.int i, .int j] => chk (RgJ i j) (some (⟨rngD i (j - i).toNat, fun _ => True⟩, p.2))
  | _ => none := rfl
@[simp] theorem ev_irngB : DS.iRngB fa L S = (fa L S).bind fun p => match p.1 with
  | [.int i, .int j, .int c] => chk (c = -1 ∧ RgJ i j) (some (⟨rngC i (-1) (i - j).toNat, fun _ => True⟩, p.2))
  | _ => none := rfl
@[simp] theorem ev_ienum : DS.iEnum fa L S = (fa L S).bind fun p => match p.1 with
  | [d] => (seqD p.2 d).bind fun s => some (⟨enumD 0 s.items, s.ok⟩, p.2)
  | _ => none := rfl
@[simp] theorem ev_izip : DS.iZip fa L S = (fa L S).bind fun p => match p.1 with
  | [d, e] => (seqD p.2 d).bind fun s => (seqD p.2 e).bind fun t => some (⟨zipD s.items t.items, fun S => s.ok S ∧ t.ok S⟩, p.2)
  | _ => none := rfl
@[simp] theorem ev_onone : oNone L S = some (none, S) := rfl
@[simp] theorem ev_osome : oSome f L S = (f L S).bind fun p => match p.1 with | .int i => some (some i, p.2) | _ => none := rfl
@[simp] theorem ev_sl {fr : Bool} {lo hi : OF} : eSl fr f lo hi L S = (f L S).bind fun p => (lo L p.2).bind fun a => (hi L a.2).bind fun b => gSl fr p.1 a.1 b.1 b.2 := rfl
@[simp] theorem ev_rev {fr : Bool} : eRev fr f L S = (f L S).bind fun p => (asK p.2 p.1).map fun xs => mkL fr xs.reverse p.2 := rfl
@[simp] theorem ev_met {m : MF} {fo : EF} : eMet m fo fa L S = (fo L S).bind fun p => match p.1 with
  | .ref k => (asL p.2 (.ref k)).bind fun _ => (fa L p.2).bind fun q => (asL q.2 (.ref k)).bind fun xs => m k xs q.1 q.2
  | _ => none := rfl
@[simp] theorem ev_lrg {fr : Bool} {r : Loc → Sto → Option ((Int × Int) × Sto)} : eLRg fr r L S = (r L S).bind fun p => chk (RgOk p.1.1 p.1.2) (some (mkL fr (rngD p.1.1 (p.1.2 - p.1.1).toNat) p.2)) := rfl
@[simp] theorem ev_trg {r : Loc → Sto → Option ((Int × Int) × Sto)} : eTRg r L S = (r L S).bind fun p => chk (RgOk p.1.1 p.1.2) (some (.tup (rngD p.1.1 (p.1.2 - p.1.1).toNat), p.2)) := rfl
@[simp] theorem ev_rg1 : rgF1 f L S = (f L S).bind fun p => match p.1 with | .int n => some (((0 : Int), n), p.2) | _ => none := rfl
@[simp] theorem ev_rg2 : rgF2 f1 f2 L S = (f1 L S).bind fun p => (f2 L p.2).bind fun q => match p.1, q.1 with | .int a, .int b => some ((a, b), q.2) | _, _ => none := rfl
@[simp] theorem ev_dicN : eDicN L S = some (.ref S.length, S ++ [.dic []]) := rfl
@[simp] theorem ev_ditN : eDitN L S = some (.ref S.length, S ++ [.dit []]) := rfl
@[simp] theorem ev_for {it : IF} {g : GF} {kl : List Nat} : sFor it g s kl L S = (it L S).bind fun p => forL p.1.ok g s kl p.1.items L p.2 := rfl
theorem ev_lcF {own : List Nat} {it : IF} {g : GF} : lcF own it g t f L S = (it L S).bind fun p => (lcL p.1.ok g t f (wipeL L own) p.1.items p.2).bind fun r => if Sz r.1.length then some r else none := rfl
@[simp] theorem ev_kill0 : kill L [] = L := rfl
@[simp] theorem ev_kill1 {i : Nat} {is : List Nat} : kill L (i :: is) = kill (L.set i none) is := rfl
@[simp] theorem ev_wipe0 : wipeL L [] = L := rfl
@[simp] theorem ev_wipe1 {i : Nat} {is : List Nat} : wipeL L (i :: is) = (wipeL L is).set i none := rfl
@[simp] theorem ev_mkF {xs : List D} : mkL false xs S = (.lst xs, S) := rfl
@[simp] theorem ev_mkT {xs : List D} : mkL true xs S = (.ref S.length, S ++ [.lst xs]) := rfl
@[simp] theorem chk_true {α : Type} {x : Option α} : chk True x = x := chk_pos trivial
end

/-! ### operations on plain values -/
section
variable {S : Sto}
@[simp] theorem gAdd_i {i j : Int} : gAdd (.int i) (.int j) S = some (.int (i + j), S) := rfl
@[simp] theorem gSub_i {i j : Int} : gSub (.int i) (.int j) S = some (.int (i - j), S) := rfl
@[simp] theorem gNeg_i {i : Int} : gNeg (.int i) S = some (.int (-i), S) := rfl
@[simp] theorem gLt_i {i j : Int} : gLt (.int i) (.int j) S = some (.bl (decide (i < j)), S) := rfl
@[simp] theorem gLe_i {i j : Int} : gLe (.int i) (.int j) S = some (.bl (decide (i ≤ j)), S) := rfl
@[simp] theorem gGt_i {i j : Int} : gGt (.int i) (.int j) S = some (.bl (decide (j < i)), S) := rfl
@[simp] theorem gGe_i {i j : Int} : gGe (.int i) (.int j) S = some (.bl (decide (j ≤ i)), S) := rfl
theorem gMul_i {i j : Int} (h : CMul i j) : gMul (.int i) (.int j) S = some (.int (i * j), S) := chk_pos h
theorem gFdiv_i {i j : Int} (h : 0 < j) (h2 : j < 1073741824) : gFdiv (.int i) (.int j) S = some (.int (i / j), S) := chk_pos (show CDiv i j from ⟨h, h2⟩)
theorem gMod_i {i j : Int} (h : 0 < j) : gMod (.int i) (.int j) S = some (.int (i % j), S) := chk_pos h
theorem cmulR {i j : Int} (h : -(2 ^ 64) < j) (h2 : j < 2 ^ 64) : CMul i j := .inr ⟨h, h2⟩
theorem cmulL {i j : Int} (h : -(2 ^ 64) < i) (h2 : i < 2 ^ 64) : CMul i j := .inl ⟨h, h2⟩
end

/-! ### plain data: numbers, texts, tuples and lists of such -/
def Pn : Nat → D → Prop
  | 0, _ => False
  | f + 1, .tup xs => ∀ x, x ∈ xs → Pn f x
  | f + 1, .tud xs => ∀ x, x ∈ xs → Pn f x
  | f + 1, .lst xs => ∀ x, x ∈ xs → Pn f x
  | f + 1, .arg xs => ∀ x, x ∈ xs → Pn f x
  | _ + 1, .ref _ => False
  | _ + 1, .rep _ => False
  | _ + 1, .nod => False
  | _ + 1, .str s => PyData.strOk s = true
  | _ + 1, _ => True
section
@[simp] theorem pn_int {f : Nat} {i : Int} : Pn (f + 1) (.int i) := trivial
@[simp] theorem pn_bl {f : Nat} {i : Bool} : Pn (f + 1) (.bl i) := trivial
@[simp] theorem pn_str {f : Nat} {i : Str} : Pn (f + 1) (.str i) ↔ PyData.strOk i = true := Iff.rfl
@[simp] theorem pn_non {f : Nat} : Pn (f + 1) .non := trivial
@[simp] theorem pn_tup {f : Nat} {xs : List D} : Pn (f + 1) (.tup xs) ↔ ∀ x, x ∈ xs → Pn f x := Iff.rfl
@[simp] theorem pn_tud {f : Nat} {xs : List D} : Pn (f + 1) (.tud xs) ↔ ∀ x, x ∈ xs → Pn f x := Iff.rfl
@[simp] theorem pn_lst {f : Nat} {xs : List D} : Pn (f + 1) (.lst xs) ↔ ∀ x, x ∈ xs → Pn f x := Iff.rfl
@[simp] theorem pn_arg {f : Nat} {xs : List D} : Pn (f + 1) (.arg xs) ↔ ∀ x, x ∈ xs → Pn f x := Iff.rfl
theorem pn_up : ∀ {f : Nat} {d : D}, Pn f d → ∀ {g : Nat}, f ≤ g → Pn g d
  | 0, _, h, _, _ => h.elim
  | f + 1, d, h, 0, hg => by omega
  | f + 1, d, h, g + 1, hg => by
    cases d with
    | tup xs => exact fun x hx => pn_up (h x hx) (by omega)
    | tud xs => exact fun x hx => pn_up (h x hx) (by omega)
    | lst xs => exact fun x hx => pn_up (h x hx) (by omega)
    | arg xs => exact fun x hx => pn_up (h x hx) (by omega)
    | ref k => exact h
    | rep k => exact h
    | nod => exact h
    | str k => exact h
    | _ => trivial
theorem toPys_map : ∀ xs : List D, toPys xs = xs.map toPy
  | [] => by unfold toPys; rfl
  | x :: xs => by unfold toPys; rw [toPys_map xs]; rfl
theorem canAll {xs : List PyData} : PyData.canLayAll0 xs = true ↔ ∀ x, x ∈ xs → x.canLay0 = true := by
  induction xs with
  | nil => simp [PyData.canLayAll0]
  | cons x xs ih => simp [PyData.canLayAll0, ih]
theorem depAll {xs : List PyData} {n : Nat} (h : ∀ x, x ∈ xs → x.depth ≤ n) : PyData.depthAll xs ≤ n := by
  induction xs with
  | nil => simp [PyData.depthAll]
  | cons x xs ih =>
    have h1 := h x List.mem_cons_self
    have h2 := ih fun y hy => h y (List.mem_cons_of_mem _ hy)
    simp [PyData.depthAll]
    omega
theorem pn_py : ∀ {f : Nat} {d : D}, Pn f d → (toPy d).canLay0 = true ∧ (toPy d).depth ≤ f
  | 0, _, h => h.elim
  | f + 1, d, h => by
    have go : ∀ xs : List D, (∀ x, x ∈ xs → Pn f x) → PyData.canLayAll0 (toPys xs) = true ∧ PyData.depthAll (toPys xs) ≤ f := fun xs hx => by
      rw [toPys_map]
      refine ⟨canAll.mpr fun x hm => ?_, depAll fun x hm => ?_⟩
      · obtain ⟨y, hy, rfl⟩ := List.mem_map.mp hm
        exact (pn_py (hx y hy)).1
      · obtain ⟨y, hy, rfl⟩ := List.mem_map.mp hm
        exact (pn_py (hx y hy)).2
    cases d with
    | tup xs =>
      obtain ⟨h1, h2⟩ := go xs h
      unfold toPy
      refine ⟨by simpa [PyData.canLay0] using h1, ?_⟩
      simp [PyData.depth]
      omega
    | tud xs =>
      obtain ⟨h1, h2⟩ := go xs h
      unfold toPy
      refine ⟨by simpa [PyData.canLay0] using h1, ?_⟩
      simp [PyData.depth]
      omega
    | lst xs =>
      obtain ⟨h1, h2⟩ := go xs h
      unfold toPy
      refine ⟨by simpa [PyData.canLay0] using h1, ?_⟩
      simp [PyData.depth]
      omega
    | arg xs =>
      obtain ⟨h1, h2⟩ := go xs h
      unfold toPy
      refine ⟨by simpa [PyData.canLay0] using h1, ?_⟩
      simp [PyData.depth]
      omega
    | ref k => exact h.elim
    | rep k => exact h.elim
    | nod => exact h.elim
    | str k => unfold toPy; simp [PyData.canLay0, PyData.depth]; exact h
    | _ => unfold toPy; simp [PyData.canLay0, PyData.depth]
theorem pn_res {f : Nat} {d : D} {S : Sto} (h : Pn f d) : pyS S d = toPy d := by
  cases f with
  | zero => exact h.elim
  | succ f => cases d <;> first | rfl | exact h.elim
theorem pn_shaped {f : Nat} {d : D} (h : Pn f d) (hf : f ≤ 64) : SeqAt.shaped (toPy d) = true := by
  obtain ⟨h1, h2⟩ := pn_py h
  unfold SeqAt.shaped
  rw [h1, decide_eq_true (show (toPy d).depth ≤ 64 by omega)]
  rfl
theorem gEq_pn {f : Nat} {a b : D} {S : Sto} (ha : Pn f a) (hb : Pn f b) (hf : f ≤ 64) : gEq a b S = some (.bl (PyData.eqv (toPy a) (toPy b)), S) := by
  have h1 := pn_shaped ha hf
  have h2 := pn_shaped hb hf
  unfold gEq
  split
  · cases f <;> exact ha.elim
  · rw [pn_res ha, pn_res hb, if_pos ⟨h1, h2⟩]
theorem gNe_pn {f : Nat} {a b : D} {S : Sto} (ha : Pn f a) (hb : Pn f b) (hf : f ≤ 64) : gNe a b S = some (.bl (!PyData.eqv (toPy a) (toPy b)), S) := by
  have h1 := pn_shaped ha hf
  have h2 := pn_shaped hb hf
  unfold gNe
  split
  · cases f <;> exact ha.elim
  · rw [pn_res ha, pn_res hb, if_pos ⟨h1, h2⟩]
@[simp] theorem toPy_int {i : Int} : toPy (.int i) = .int i := by unfold toPy; rfl
@[simp] theorem toPy_str {i : Str} : toPy (.str i) = .str i := by unfold toPy; rfl
@[simp] theorem toPy_bl {i : Bool} : toPy (.bl i) = .bool i := by unfold toPy; rfl
@[simp] theorem toPy_tup {i : List D} : toPy (.tup i) = .tuple (i.map toPy) := by rw [← toPys_map]; conv => lhs; unfold toPy
@[simp] theorem toPy_tud {i : List D} : toPy (.tud i) = .tuple (i.map toPy) := by rw [← toPys_map]; conv => lhs; unfold toPy
@[simp] theorem toPy_lst {i : List D} : toPy (.lst i) = .list (i.map toPy) := by rw [← toPys_map]; conv => lhs; unfold toPy
@[simp] theorem eqv_int {i j : Int} : PyData.eqv (.int i) (.int j) = decide (i = j) := by
  unfold PyData.eqv
  by_cases h : i = j <;> simp [h]
@[simp] theorem eqv_str {i j : Str} : PyData.eqv (.str i) (.str j) = decide (i = j) := by
  unfold PyData.eqv
  by_cases h : i = j <;> simp [h]
@[simp] theorem gEq_i {i j : Int} {S : Sto} : gEq (.int i) (.int j) S = some (.bl (decide (i = j)), S) := by
  rw [gEq_pn (f := 1) pn_int pn_int (by decide)]; simp
@[simp] theorem gNe_i {i j : Int} {S : Sto} : gNe (.int i) (.int j) S = some (.bl (!decide (i = j)), S) := by
  rw [gNe_pn (f := 1) pn_int pn_int (by decide)]; simp
theorem gEq_s {i j : Str} {S : Sto} (hi : PyData.strOk i = true) (hj : PyData.strOk j = true) : gEq (.str i) (.str j) S = some (.bl (decide (i = j)), S) := by
  rw [gEq_pn (f := 1) (pn_str.mpr hi) (pn_str.mpr hj) (by decide)]; simp
@[simp] theorem gEq_r {i j : Str} {S : Sto} : gEq (.rep i) (.rep j) S = some (.bl (decide (i = j)), S) := rfl
@[simp] theorem gNe_r {i j : Str} {S : Sto} : gNe (.rep i) (.rep j) S = some (.bl (!decide (i = j)), S) := rfl
theorem gNe_nil {f : Nat} {xs : List D} {S : Sto} (h : Pn f (.lst xs)) (hf : f ≤ 64) : gNe (.lst xs) (.lst []) S = some (.bl (!xs.isEmpty), S) := by
  have hn : Pn f (.lst []) := by
    cases f with
    | zero => exact h.elim
    | succ f => exact fun x hx => absurd hx (by simp)
  rw [gNe_pn h hn hf]
  simp only [toPy_lst, List.map_nil]
  unfold PyData.eqv
  cases xs with
  | nil => unfold PyData.eqvAll; rfl
  | cons x xs => rw [List.map_cons]; unfold PyData.eqvAll; rfl
end

/-! ### sequences -/
section
variable {S : Sto} {xs : List D}
@[simp] theorem gIx_t {i : Int} : gIx (.tup xs) (.int i) S = (atI xs i).map fun d => (d, S) := rfl
@[simp] theorem gIx_td {i : Int} : gIx (.tud xs) (.int i) S = (atI xs i).map fun d => (d, S) := rfl
@[simp] theorem gIx_l {i : Int} : gIx (.lst xs) (.int i) S = (atI xs i).map fun d => (d, S) := rfl
@[simp] theorem atI_nat {α : Type} {xs : List α} {i : Nat} : atI xs (i : Int) = xs[i]? := by
  unfold atI ixN
  by_cases h : i < xs.length
  · have h' : (i : Int) < xs.length := by omega
    simp [h']
  · have h' : ¬ (i : Int) < xs.length := by omega
    simp [h', List.getElem?_eq_none (Nat.le_of_not_lt h)]
@[simp] theorem atI_suc {α : Type} {xs : List α} {i : Nat} : atI xs ((i : Int) + 1) = xs[i + 1]? := atI_nat (i := i + 1)
@[simp] theorem atI_0 {α : Type} {xs : List α} : atI xs 0 = xs[0]? := atI_nat (i := 0)
@[simp] theorem atI_1 {α : Type} {xs : List α} : atI xs 1 = xs[1]? := atI_nat (i := 1)
@[simp] theorem atI_2 {α : Type} {xs : List α} : atI xs 2 = xs[2]? := atI_nat (i := 2)
@[simp] theorem atI_3 {α : Type} {xs : List α} : atI xs 3 = xs[3]? := atI_nat (i := 3)
@[simp] theorem atI_4 {α : Type} {xs : List α} : atI xs 4 = xs[4]? := atI_nat (i := 4)
@[simp] theorem atI_5 {α : Type} {xs : List α} : atI xs 5 = xs[5]? := atI_nat (i := 5)
@[simp] theorem atI_m1 {α : Type} {xs : List α} : atI xs (-1) = xs.getLast? := by
  unfold atI ixN
  cases xs with
  | nil => rfl
  | cons x xs =>
    have h : -((x :: xs).length : Int) ≤ -1 := by simp; omega
    have h2 : (-1 + ((x :: xs).length : Int)).toNat = xs.length := by simp; omega
    rw [if_neg (by decide), if_pos h, h2, List.getLast?_eq_getElem?]
    rfl
@[simp] theorem gLen_t : gLen [.tup xs] S = some (.int xs.length, S) := rfl
@[simp] theorem gLen_td : gLen [.tud xs] S = some (.int xs.length, S) := rfl
@[simp] theorem gTup_td : gTuple [.tud xs] S = some (.tud xs, S) := rfl
@[simp] theorem gLen_l : gLen [.lst xs] S = some (.int xs.length, S) := rfl
@[simp] theorem gTup_l : gTuple [.lst xs] S = some (.tup xs, S) := rfl
@[simp] theorem gTup_t : gTuple [.tup xs] S = some (.tup xs, S) := rfl
theorem gTup_r {k : Nat} (h : S[k]? = some (.lst xs)) : gTuple [.ref k] S = some (.tup xs, S) := by
  unfold gTuple asQ seqD
  simp only [h]
  rfl
theorem seqD_r {k : Nat} (h : S[k]? = some (.lst xs)) : seqD S (.ref k) = some ⟨xs, fun S => S[k]? = some (.lst xs)⟩ := by
  unfold seqD
  simp only [h]
theorem gIx_r {k : Nat} {i : Int} (h : S[k]? = some (.lst xs)) : gIx (.ref k) (.int i) S = (atI xs i).map fun d => (d, S) := by
  unfold gIx
  simp only [h]
theorem gLen_r {k : Nat} (h : S[k]? = some (.lst xs)) : gLen [.ref k] S = some (.int xs.length, S) := by
  unfold gLen itemsD
  simp only [h]
  rfl
theorem asL_r {k : Nat} (h : S[k]? = some (.lst xs)) : asL S (.ref k) = some xs := by
  unfold asL
  simp only [h]
@[simp] theorem asL_l : asL S (.lst xs) = some xs := rfl
@[simp] theorem asK_l : asK S (.lst xs) = some xs := rfl
theorem asK_r {k : Nat} (h : S[k]? = some (.lst xs)) : asK S (.ref k) = some xs := by
  unfold asK asQ
  rw [seqD_r h]
  rfl
theorem mAppend_ok {k : Nat} {d : D} (h : xs.length < sizeLine) : mAppend k xs [d] S = some (.non, S.set k (.lst (xs ++ [d]))) := if_pos h
/-! the store, the labels that stand behind -/
@[simp] theorem sto_get {A B : Sto} {k : Nat} : (A ++ B)[A.length + k]? = B[k]? := by
  rw [List.getElem?_append_right (Nat.le_add_right _ _), Nat.add_sub_cancel_left]
@[simp] theorem sto_get0 {A B : Sto} : (A ++ B)[A.length]? = B[0]? := sto_get (k := 0)
@[simp] theorem sto_set {A B : Sto} {k : Nat} {o : Ob} : (A ++ B).set (A.length + k) o = A ++ B.set k o := by
  rw [List.set_append_right _ _ (Nat.le_add_right _ _), Nat.add_sub_cancel_left]
@[simp] theorem sto_set0 {A B : Sto} {o : Ob} : (A ++ B).set A.length o = A ++ B.set 0 o := sto_set (k := 0)
end

/-! ### what leaves a def -/
/-- no labels from n on; as deep as the fuel -/
def Cl (n : Nat) : Nat → D → Prop
  | 0, _ => False
  | _ + 1, .ref k => k < n
  | f + 1, .tup xs => ∀ x, x ∈ xs → Cl n f x
  | f + 1, .tud xs => ∀ x, x ∈ xs → Cl n f x
  | f + 1, .lst xs => ∀ x, x ∈ xs → Cl n f x
  | f + 1, .arg xs => ∀ x, x ∈ xs → Cl n f x
  | _ + 1, _ => True
def ClO (n : Nat) : Ob → Prop
  | .dead => True
  | .lst xs => ∀ x, x ∈ xs → Cl n 12 x
  | .dic kvs => ∀ x, x ∈ kvs → Cl n 12 x.2
  | .dit kvs => ∀ x, x ∈ kvs → Cl n 12 x.2
  | .dil kvs => ∀ x, x ∈ kvs → Cl n 12 x.2
/-- a store that stays as it is -/
def ClS (S : Sto) : Prop := ∀ o, o ∈ S → ClO S.length o
section
variable {n : Nat} {S : Sto}
theorem mapO_id {α : Type} {f : α → Option α} : ∀ {xs : List α}, (∀ x, x ∈ xs → f x = some x) → mapO f xs = some xs
  | [], _ => rfl
  | x :: xs, h => by
    unfold mapO
    rw [h x List.mem_cons_self, mapO_id fun y hy => h y (List.mem_cons_of_mem _ hy)]
    rfl
theorem cl_pn : ∀ {f : Nat} {d : D}, Pn f d → Cl n f d
  | 0, _, h => h.elim
  | f + 1, d, h => by
    cases d with
    | tup xs => exact fun x hx => cl_pn (h x hx)
    | tud xs => exact fun x hx => cl_pn (h x hx)
    | lst xs => exact fun x hx => cl_pn (h x hx)
    | arg xs => exact fun x hx => cl_pn (h x hx)
    | ref k => exact h.elim
    | rep k => trivial
    | nod => exact h.elim
    | _ => trivial
theorem frz_cl : ∀ {f : Nat} {d : D}, Cl n f d → frzD n S f d = some d
  | 0, _, h => h.elim
  | f + 1, d, h => by
    cases d with
    | tup xs =>
      show (mapO (frzD n S f) xs).map D.tup = _
      rw [mapO_id fun x hx => frz_cl (h x hx)]; rfl
    | tud xs =>
      show (mapO (frzD n S f) xs).map D.tud = _
      rw [mapO_id fun x hx => frz_cl (h x hx)]; rfl
    | lst xs =>
      show (mapO (frzD n S f) xs).map D.lst = _
      rw [mapO_id fun x hx => frz_cl (h x hx)]; rfl
    | arg xs =>
      show (mapO (frzD n S f) xs).map D.arg = _
      rw [mapO_id fun x hx => frz_cl (h x hx)]; rfl
    | ref k => exact if_pos h
    | _ => rfl
theorem frzO_cl {o : Ob} (h : ClO n o) : frzO n S 12 o = some o := by
  cases o with
  | dead => rfl
  | lst xs =>
    show (mapO (frzD n S 12) xs).map Ob.lst = _
    rw [mapO_id fun x hx => frz_cl (h x hx)]; rfl
  | dic xs =>
    show (mapO (frzK n S 12) xs).map Ob.dic = _
    rw [mapO_id fun x hx => by unfold frzK; rw [frz_cl (h x hx)]; rfl]; rfl
  | dit xs =>
    show (mapO (frzK n S 12) xs).map Ob.dit = _
    rw [mapO_id fun x hx => by unfold frzK; rw [frz_cl (h x hx)]; rfl]; rfl
  | dil xs =>
    show (mapO (frzK n S 12) xs).map Ob.dil = _
    rw [mapO_id fun x hx => by unfold frzK; rw [frz_cl (h x hx)]; rfl]; rfl
/-- out of a def: plain data, the store as it was -/
theorem cut_app {X : Sto} {d : D} (hS : ClS S) (hd : Cl S.length 12 d) : cutR S.length d (S ++ X) = some (d, S) := by
  unfold cutR
  rw [frz_cl hd, List.take_left]
  show (mapO _ S).map _ = _
  rw [mapO_id fun o ho => frzO_cl (hS o ho)]
  rfl
theorem cut_id {d : D} (hS : ClS S) (hd : Cl S.length 12 d) : cutR S.length d S = some (d, S) := by
  have := cut_app (X := []) hS hd
  rwa [List.append_nil] at this
/-- out of a def: a fresh list -/
theorem cut_ref {X : Sto} {k : Nat} {xs : List D} (hS : ClS S) (hk : X[k]? = some (.lst xs)) (hx : ∀ x, x ∈ xs → Cl S.length 11 x) : cutR S.length (.ref (S.length + k)) (S ++ X) = some (.lst xs, S) := by
  unfold cutR
  have e : frzD S.length (S ++ X) 12 (.ref (S.length + k)) = some (.lst xs) := by
    show (if S.length + k < S.length then _ else _) = _
    rw [if_neg (by omega)]
    simp only [sto_get, hk]
    rw [mapO_id fun x hxx => frz_cl (hx x hxx)]
    rfl
  rw [e, List.take_left]
  show (mapO _ S).map _ = _
  rw [mapO_id fun o ho => frzO_cl (hS o ho)]
  rfl
/-- the store behind may be another one of the same length -/
theorem cut_new {S' X : Sto} {d : D} (hl : S'.length = n) (hS : ClS S') (hd : Cl n 12 d) : cutR n d (S' ++ X) = some (d, S') := by
  subst hl; exact cut_app hS hd
end
end DS
namespace DS
open PySem PySem.Spec PyProof.Rows L2

/-! ### loops over data -/
section
variable {ok : Sto → Prop} {g : GF} {body : SF} {kl : List Nat} {tt : TF} {te : EF}
theorem forL_rel (P : Nat → Loc → Sto → Prop) : ∀ (items : List D) (k : Nat) {L : Loc} {S : Sto}, P k L S →
    (∀ i d L S, items[i]? = some d → P (k + i) L S → ok S ∧ ∃ L1, g d L S = some L1 ∧ ∃ L2 S2, body L1 S = some (.nx, L2, S2) ∧ P (k + i + 1) (kill L2 kl) S2) → (∀ L S, P (k + items.length) L S → ok S) →
    ∃ L' S', forL ok g body kl items L S = some (.nx, L', S') ∧ P (k + items.length) L' S'
  | [], k, L, S, h0, _, hf => ⟨L, S, by unfold forL; rw [chk_pos (hf L S h0)], h0⟩
  | d :: ds, k, L, S, h0, hs, hf => by
    obtain ⟨o, L1, e1, L2, S2, e2, h1⟩ := hs 0 d L S rfl h0
    obtain ⟨L', S', e3, h2⟩ := forL_rel P ds (k + 1) h1 (fun i d L S hi h => by
      have := hs (i + 1) d L S (by simpa using hi) (by rw [show k + (i + 1) = k + 1 + i by omega]; exact h)
      rw [show k + (i + 1) + 1 = k + 1 + i + 1 by omega] at this
      exact this) (fun L S h => hf L S (by rw [List.length_cons, show k + (ds.length + 1) = k + 1 + ds.length by omega]; exact h))
    refine ⟨L', S', ?_, by rw [List.length_cons, show k + (ds.length + 1) = k + 1 + ds.length by omega]; exact h2⟩
    unfold forL
    rw [chk_pos o, e1]
    simp only [Option.bind_some, e2]
    exact e3
/-- a loop that is a fold -/
theorem forL_fold {α β : Type} (enc : α → D) (eL : β → Loc) (eS : β → Sto) (step : β → α → β) (I : β → Prop) : ∀ (xs : List α) (b : β), I b →
    (∀ x, x ∈ xs → ∀ b, I b → I (step b x) ∧ ok (eS b) ∧ ∃ L1, g (enc x) (eL b) (eS b) = some L1 ∧ ∃ L2, body L1 (eS b) = some (.nx, L2, eS (step b x)) ∧ kill L2 kl = eL (step b x)) → (∀ b, I b → ok (eS b)) →
    forL ok g body kl (xs.map enc) (eL b) (eS b) = some (.nx, eL (xs.foldl step b), eS (xs.foldl step b)) ∧ I (xs.foldl step b)
  | [], b, h0, _, hf => ⟨by
      show chk _ _ = _
      rw [chk_pos (hf b h0)]; rfl, h0⟩
  | x :: xs, b, h0, hs, hf => by
    obtain ⟨h1, o, L1, e1, L2, e2, e3⟩ := hs x List.mem_cons_self b h0
    obtain ⟨e4, h2⟩ := forL_fold enc eL eS step I xs (step b x) h1 (fun y hy => hs y (List.mem_cons_of_mem _ hy)) hf
    refine ⟨?_, h2⟩
    show chk _ _ = _
    rw [chk_pos o, e1]
    simp only [Option.bind_some, e2, e3]
    exact e4
theorem lcL_rel (P : Nat → List D → Sto → Prop) {L0 : Loc} : ∀ (items acc : List D) (k : Nat) {S : Sto}, P k acc S →
    (∀ i d acc S, items[i]? = some d → P (k + i) acc S → ok S ∧ ∃ L1, g d L0 S = some L1 ∧ ∃ b S1, tt L1 S = some (b, S1) ∧ (b = false → P (k + i + 1) acc S1) ∧ (b = true → ∃ y S2, te L1 S1 = some (y, S2) ∧ P (k + i + 1) (acc ++ [y]) S2)) →
    (∀ acc S, P (k + items.length) acc S → ok S) → ∃ ys S', lcL ok g tt te L0 items S = some (ys, S') ∧ P (k + items.length) (acc ++ ys) S'
  | [], acc, k, S, h0, _, hf => ⟨[], S, by unfold lcL; rw [chk_pos (hf acc S h0)], by simpa using h0⟩
  | d :: ds, acc, k, S, h0, hs, hf => by
    obtain ⟨o, L1, e1, b, S1, e2, hb0, hb1⟩ := hs 0 d acc S rfl h0
    have hs' : ∀ i d acc S, ds[i]? = some d → P (k + 1 + i) acc S → ok S ∧ ∃ L1, g d L0 S = some L1 ∧ ∃ b S1, tt L1 S = some (b, S1) ∧ (b = false → P (k + 1 + i + 1) acc S1) ∧ (b = true → ∃ y S2, te L1 S1 = some (y, S2) ∧ P (k + 1 + i + 1) (acc ++ [y]) S2) := fun i d acc S hi h => by
      have := hs (i + 1) d acc S (by simpa using hi) (by rw [show k + (i + 1) = k + 1 + i by omega]; exact h)
      rw [show k + (i + 1) + 1 = k + 1 + i + 1 by omega] at this
      exact this
    have hf' : ∀ acc S, P (k + 1 + ds.length) acc S → ok S := fun acc S h => hf acc S (by rw [List.length_cons, show k + (ds.length + 1) = k + 1 + ds.length by omega]; exact h)
    rw [List.length_cons, show k + (ds.length + 1) = k + 1 + ds.length by omega]
    unfold lcL
    rw [chk_pos o, e1]
    simp only [Option.bind_some, e2]
    cases b with
    | false =>
      obtain ⟨ys, S', e3, h2⟩ := lcL_rel P ds acc (k + 1) (hb0 rfl) hs' hf'
      exact ⟨ys, S', by simpa using e3, h2⟩
    | true =>
      obtain ⟨y, S2, e3, h1⟩ := hb1 rfl
      obtain ⟨ys, S', e4, h2⟩ := lcL_rel P ds (acc ++ [y]) (k + 1) h1 hs' hf'
      refine ⟨y :: ys, S', by simp [e3, e4], by simpa using h2⟩
/-- a comprehension that reads -/
theorem lcL_map {α : Type} (enc : α → D) (p : α → Bool) (h : α → D) {L0 : Loc} {S : Sto} (hok : ok S) : ∀ (xs : List α), (∀ x, x ∈ xs → ∃ L1, g (enc x) L0 S = some L1 ∧ tt L1 S = some (p x, S) ∧ (p x = true → te L1 S = some (h x, S))) →
    lcL ok g tt te L0 (xs.map enc) S = some ((xs.filter p).map h, S)
  | [], _ => by
    show chk _ _ = _
    rw [chk_pos hok]; rfl
  | x :: xs, H => by
    obtain ⟨L1, e1, e2, e3⟩ := H x List.mem_cons_self
    have ih := lcL_map enc p h hok xs fun y hy => H y (List.mem_cons_of_mem _ hy)
    show chk _ _ = _
    rw [chk_pos hok, e1]
    simp only [Option.bind_some, e2]
    cases hp : p x with
    | false => simp [hp, ih]
    | true => simp [hp, ih, e3 hp]
theorem lcF_map {α : Type} (xs : List α) (enc : α → D) (p : α → Bool) (h : α → D) {own : List Nat} {it : IF} {L : Loc} {S : Sto} (hit : it L S = some (⟨xs.map enc, ok⟩, S)) (hok : ok S) (hl : xs.length ≤ sizeLine)
    (H : ∀ x, x ∈ xs → ∃ L1, g (enc x) (wipeL L own) S = some L1 ∧ tt L1 S = some (p x, S) ∧ (p x = true → te L1 S = some (h x, S))) : lcF own it g tt te L S = some ((xs.filter p).map h, S) := by
  unfold lcF
  rw [hit]
  simp only [Option.bind_some]
  rw [lcL_map enc p h hok xs H]
  simp only [Option.bind_some]
  rw [if_pos (by rw [List.length_map]; exact Nat.le_trans (List.length_filter_le _ _) hl)]
theorem lcF_all {α : Type} (xs : List α) (enc : α → D) (h : α → D) {own : List Nat} {it : IF} {L : Loc} {S : Sto} (hit : it L S = some (⟨xs.map enc, ok⟩, S)) (hok : ok S) (hl : xs.length ≤ sizeLine)
    (H : ∀ x, x ∈ xs → ∃ L1, g (enc x) (wipeL L own) S = some L1 ∧ te L1 S = some (h x, S)) : lcF own it g bYes te L S = some (xs.map h, S) := by
  have := lcF_map (ok := ok) (tt := bYes) (own := own) xs enc (fun _ => true) h hit hok hl fun x hx => by
    obtain ⟨L1, e1, e2⟩ := H x hx
    exact ⟨L1, e1, rfl, fun _ => e2⟩
  have e : xs.filter (fun _ => true) = xs := List.filter_eq_self.mpr fun _ _ => rfl
  rw [e] at this
  exact this
end

@[simp] theorem gSl_t {fr : Bool} {xs : List D} {lo hi : Option Int} {S : Sto} : gSl fr (.tup xs) lo hi S = some (.tup (DS.cutD xs lo hi), S) := rfl
@[simp] theorem gSl_l {fr : Bool} {xs : List D} {lo hi : Option Int} {S : Sto} : gSl fr (.lst xs) lo hi S = some (mkL fr (DS.cutD xs lo hi) S) := rfl
/-! ### in -/
section
variable {S : Sto}
theorem any_int (a : Int) (xs : List Int) : ((xs.map D.int).map toPy).any (fun z => PyData.eqv z (.int a)) = decide (a ∈ xs) := by
  induction xs with
  | nil => simp
  | cons x xs ih =>
    simp only [List.map_cons, List.any_cons, toPy_int, eqv_int, ih]
    by_cases h : x = a
    · subst h; simp
    · have h' : a ≠ x := fun e => h e.symm
      simp [h, h']
theorem pn_ints {f : Nat} (xs : List Int) : Pn (f + 2) (.lst (xs.map .int)) := fun x hx => by
  obtain ⟨i, _, rfl⟩ := List.mem_map.mp hx
  exact pn_int
theorem pn_intsT {f : Nat} (xs : List Int) : Pn (f + 2) (.tup (xs.map .int)) := fun x hx => by
  obtain ⟨i, _, rfl⟩ := List.mem_map.mp hx
  exact pn_int
theorem shaped_ints (xs : List Int) : SeqAt.shaped (.list (toPys (xs.map D.int))) = true := by
  have := pn_shaped (pn_ints (f := 0) xs) (by decide)
  rwa [toPy_lst, ← toPys_map] at this
@[simp] theorem inD_t {neg : Bool} {a : Int} {xs : List Int} : inD neg (.int a) (.tup (xs.map .int)) S = some (.bl (neg.xor (decide (a ∈ xs))), S) := by
  have e : inD neg (.int a) (.tup (xs.map .int)) S = if SeqAt.shaped (pyS S (.int a)) = true ∧ SeqAt.shaped (.list (toPys (xs.map D.int))) = true then some (.bl (neg.xor ((toPys (xs.map D.int)).any fun z => PyData.eqv z (pyS S (.int a)))), S) else none := rfl
  have h1 : pyS S (.int a) = .int a := pn_res (f := 1) pn_int
  rw [e, h1, if_pos ⟨pn_shaped (f := 1) (d := .int a) pn_int (by decide), shaped_ints xs⟩, toPys_map, any_int]
@[simp] theorem inD_l {neg : Bool} {a : Int} {xs : List Int} : inD neg (.int a) (.lst (xs.map .int)) S = some (.bl (neg.xor (decide (a ∈ xs))), S) := by
  have e : inD neg (.int a) (.lst (xs.map .int)) S = if SeqAt.shaped (pyS S (.int a)) = true ∧ SeqAt.shaped (.list (toPys (xs.map D.int))) = true then some (.bl (neg.xor ((toPys (xs.map D.int)).any fun z => PyData.eqv z (pyS S (.int a)))), S) else none := rfl
  have h1 : pyS S (.int a) = .int a := pn_res (f := 1) pn_int
  rw [e, h1, if_pos ⟨pn_shaped (f := 1) (d := .int a) pn_int (by decide), shaped_ints xs⟩, toPys_map, any_int]

/-! ### dicts by their keys -/
/-- the keys of a dict, numbers -/
def KI (kvs : List (Key × D)) (ks : List Int) : Prop := kvs.map (·.1) = ks.map Sum.inl
def addK {α : Type} [DecidableEq α] (ks : List α) (a : α) : List α := if a ∈ ks then ks else ks ++ [a]
def dedK {α : Type} [DecidableEq α] (xs : List α) : List α := xs.foldl addK []
theorem any_keys {kvs : List (Key × D)} {ks : List Int} (h : KI kvs ks) (a : Int) : (kvs.any fun kv => decide (kv.1 = Sum.inl a)) = decide (a ∈ ks) := by
  have e : (kvs.any fun kv => decide (kv.1 = (Sum.inl a : Key))) = ((kvs.map (·.1)).any fun k => decide (k = (Sum.inl a : Key))) := by rw [List.any_map]; rfl
  rw [e, h, List.any_map]
  induction ks generalizing kvs with
  | nil => simp
  | cons k ks ih =>
    cases kvs with
    | nil => cases h
    | cons kv kvs =>
      have h2 : KI kvs ks := (List.cons.inj h).2
      rw [List.any_cons, ih h2 (by rw [List.any_map]; rfl)]
      by_cases hk : k = a
      · subst hk; simp
      · have hk2 : a ≠ k := fun e => hk e.symm
        simp [hk, hk2]
theorem KI.put {kvs : List (Key × D)} {ks : List Int} (h : KI kvs ks) (a : Int) (d : D) : KI (putD kvs (Sum.inl a) d) (addK ks a) := by
  unfold putD addK
  rw [any_keys h a]
  by_cases hm : a ∈ ks
  · simp only [hm, decide_true, if_true]
    have e : (kvs.map fun kv => if kv.1 = (Sum.inl a : Key) then (kv.1, d) else kv).map (·.1) = kvs.map (·.1) := by
      rw [List.map_map]
      apply List.map_congr_left
      intro kv _
      by_cases hk : kv.1 = (Sum.inl a : Key) <;> simp [hk]
    unfold KI
    rw [e]; exact h
  · simp only [hm, decide_false, Bool.false_eq_true, if_false]
    unfold KI
    rw [List.map_append, List.map_append, h]
    rfl
theorem KI.val {kvs : List (Key × D)} {ks : List Int} (h : KI kvs ks) (a : Int) : (valD kvs (Sum.inl a : Key)).isSome = decide (a ∈ ks) := by
  rw [← any_keys h a]
  unfold valD
  rw [Option.isSome_map]
  induction kvs with
  | nil => rfl
  | cons kv kvs ih =>
    rw [List.find?_cons, List.any_cons]
    cases hk : decide (kv.1 = (Sum.inl a : Key)) with
    | true => rfl
    | false =>
      have : ∀ (l : List (Key × D)), (l.find? fun kv => decide (kv.1 = (Sum.inl a : Key))).isSome = l.any fun kv => decide (kv.1 = (Sum.inl a : Key)) := by
        intro l
        induction l with
        | nil => rfl
        | cons x l ih =>
          rw [List.find?_cons, List.any_cons]
          cases hx : decide (x.1 = (Sum.inl a : Key)) with
          | true => rfl
          | false => exact ih
      exact this kvs
theorem KI.merge : ∀ {more : List (Key × D)} {ms : List Int} {kvs : List (Key × D)} {ks : List Int}, KI more ms → KI kvs ks → KI (mergeD kvs more) (ms.foldl addK ks)
  | [], ms, kvs, ks, h, h0 => by
    cases ms with
    | nil => exact h0
    | cons _ _ => cases h
  | kv :: more, ms, kvs, ks, h, h0 => by
    cases ms with
    | nil => cases h
    | cons m ms =>
      have h1 : kv.1 = (Sum.inl m : Key) := (List.cons.inj h).1
      have h2 : KI more ms := (List.cons.inj h).2
      show KI (mergeD (putD kvs kv.1 kv.2) more) (ms.foldl addK (addK ks m))
      rw [h1]
      exact KI.merge h2 (h0.put m kv.2)
theorem KI.nil : KI [] [] := rfl
theorem inD_dic {neg : Bool} {a : Int} {k : Nat} {kvs : List (Key × D)} {ks : List Int} (ho : S[k]? = some (.dic kvs)) (h : KI kvs ks) : inD neg (.int a) (.ref k) S = some (.bl (neg.xor (decide (a ∈ ks))), S) := by
  have e : inD neg (.int a) (.ref k) S = match S[k]? with
    | some (.lst xs) => if SeqAt.shaped (pyS S (.int a)) = true ∧ SeqAt.shaped (.list (toPys xs)) = true then some (.bl (neg.xor ((toPys xs).any fun z => PyData.eqv z (pyS S (.int a)))), S) else none
    | _ => (dictGet S k (.int a)).map fun o => (.bl (neg.xor o.isSome), S) := rfl
  rw [e, ho]
  have e2 : dictGet S k (.int a) = some (valD kvs (Sum.inl a : Key)) := by
    unfold dictGet
    rw [ho]
    rfl
  show (dictGet S k (.int a)).map _ = _
  rw [e2, Option.map_some, h.val a]
theorem gSet_dic {a : Int} {k : Nat} {d : D} {kvs : List (Key × D)} (ho : S[k]? = some (.dic kvs)) (hz : kvs.length < sizeLine) : gSet (.ref k) (.int a) d S = some (S.set k (.dic (putD kvs (Sum.inl a) d))) := by
  unfold gSet
  simp only [ho]
  show (some (Sum.inl a : Key)).bind _ = _
  rw [Option.bind_some, if_pos hz]
theorem items_dic {k : Nat} {kvs : List (Key × D)} {ks : List Int} (ho : S[k]? = some (.dic kvs)) (h : KI kvs ks) : itemsD S (.ref k) = some (ks.map .int) := by
  unfold itemsD
  simp only [ho]
  rw [h, List.map_map]
  rfl
theorem pairsD_ints (xs : List Int) (h : Int → D) : ∃ kvs, pairsD (xs.map fun a => .tup [.int a, h a]) = some kvs ∧ KI kvs xs := by
  induction xs with
  | nil => exact ⟨[], rfl, rfl⟩
  | cons x xs ih =>
    obtain ⟨kvs, e1, e2⟩ := ih
    refine ⟨(Sum.inl x, h x) :: kvs, ?_, ?_⟩
    · show (some (Sum.inl x : Key)).bind _ = _
      rw [Option.bind_some]
      show (pairsD (xs.map _)).map _ = _
      rw [e1]; rfl
    · unfold KI
      rw [List.map_cons, List.map_cons, e2]
/-- dict([(a, ..) for a in xs]) -/
theorem gDictP_ints (xs : List Int) (h : Int → D) : ∃ kvs, gDictP [.lst (xs.map fun a => .tup [.int a, h a])] S = some (.ref S.length, S ++ [.dic kvs]) ∧ KI kvs (dedK xs) := by
  obtain ⟨kvs, e1, e2⟩ := pairsD_ints xs h
  refine ⟨mergeD [] kvs, ?_, KI.merge e2 KI.nil⟩
  have e : ∀ d : D, gDictP [d] S = (asK S d).bind fun xs => (pairsD xs).map fun kvs => (.ref S.length, S ++ [.dic (mergeD [] kvs)]) := fun _ => rfl
  rw [e, asK_l, Option.bind_some, e1]
  rfl
end

/-! ### sorted numbers -/
def srt (xs : List Int) : List Int := xs.mergeSort (fun a b => decide (a ≤ b))
theorem srt_perm (xs : List Int) : (srt xs).Perm xs := List.mergeSort_perm _ _
theorem srt_mem {xs : List Int} {a : Int} : a ∈ srt xs ↔ a ∈ xs := (srt_perm xs).mem_iff
theorem srt_len {xs : List Int} : (srt xs).length = xs.length := (srt_perm xs).length_eq
theorem srt_sorted (xs : List Int) : (srt xs).Pairwise (· ≤ ·) := by
  have := List.pairwise_mergeSort (le := fun a b : Int => decide (a ≤ b)) (fun a b c h1 h2 => by simp at h1 h2 ⊢; omega) (fun a b => by simp; omega) xs
  exact this.imp fun h => by simpa using h
theorem sorted_uniq : ∀ {xs ys : List Int}, xs.Pairwise (· ≤ ·) → ys.Pairwise (· ≤ ·) → xs.Perm ys → xs = ys
  | [], ys, _, _, h => by rw [List.nil_perm.mp h]
  | x :: xs, [], _, _, h => absurd h.length_eq (by simp)
  | x :: xs, y :: ys, hx, hy, h => by
    have h1 : x ∈ y :: ys := h.mem_iff.mp List.mem_cons_self
    have h2 : y ∈ x :: xs := h.mem_iff.mpr List.mem_cons_self
    have e : x = y := by
      have a1 : y ≤ x := by
        rcases List.mem_cons.mp h1 with e | e
        · omega
        · exact (List.pairwise_cons.mp hy).1 x e
      have a2 : x ≤ y := by
        rcases List.mem_cons.mp h2 with e | e
        · omega
        · exact (List.pairwise_cons.mp hx).1 y e
      omega
    subst e
    rw [sorted_uniq (List.pairwise_cons.mp hx).2 (List.pairwise_cons.mp hy).2 (List.perm_cons x |>.mp h)]
theorem srt_eq {xs ys : List Int} (h : ys.Pairwise (· ≤ ·)) (p : ys.Perm xs) : srt xs = ys := sorted_uniq (srt_sorted xs) h ((srt_perm xs).trans p.symm)
theorem srt_id {xs : List Int} (h : xs.Pairwise (· ≤ ·)) : srt xs = xs := srt_eq h (List.Perm.refl _)
theorem srtOk_ints (xs : List Int) : SrtOk (xs.map .int) := by
  refine ⟨fun d hd => ?_, ?_, .inr fun d hd => ?_, fun d hd => ?_⟩
  · obtain ⟨i, _, rfl⟩ := List.mem_map.mp hd
    exact (pn_py (f := 1) (d := .int i) pn_int).1
  · intro d hd d' hd'
    rw [List.map_map] at hd hd'
    obtain ⟨i, _, rfl⟩ := List.mem_map.mp hd
    obtain ⟨j, _, rfl⟩ := List.mem_map.mp hd'
    simp [PySem.W.alike]
  · rw [List.map_map] at hd
    obtain ⟨i, _, rfl⟩ := List.mem_map.mp hd
    simp
  · obtain ⟨i, _, rfl⟩ := List.mem_map.mp hd
    have := (pn_py (f := 1) (d := .int i) pn_int).2
    omega
theorem sortD_ints (xs : List Int) : sortD false (xs.map .int) = (srt xs).map .int := by
  unfold sortD srt
  rw [← List.map_mergeSort (r := fun a b : Int => decide (a ≤ b)) (s := PySem.W.dataLe false toPy) (f := D.int) (l := xs)]
  intro a _ b _
  have := congrFun (congrFun (PySem.W.dataLe_int (fun i : Int => i)) a) b
  have e : PySem.W.dataLe false toPy (D.int a) (D.int b) = PySem.W.dataLe false (fun b : Int => PyData.int b) a b := by
    rw [PySem.W.dataLe_eq, PySem.W.dataLe_eq]
    simp
  rw [e, this]
/-- sorted of anything that holds numbers -/
theorem gSorted_ints {fr : Bool} {d : D} {xs : List Int} {S : Sto} (h : itemsD S d = some (xs.map .int)) (hl : xs.length ≤ sizeLine) : gSorted fr [d] S = some (mkL fr ((srt xs).map .int) S) := by
  show (itemsD S d).bind _ = _
  rw [h, Option.bind_some, chk_pos ⟨.inl (srtOk_ints xs), by rw [List.length_map]; exact hl⟩, sortD_ints]
end DS
namespace DS
open PySem PySem.Spec PyProof.Rows L2
/-! ### it ends, and so -/
def En {α : Type} (o : Option α) (Q : α → Prop) : Prop := ∃ a, o = some a ∧ Q a
section
variable {α β : Type} {Q R : α → Prop}
theorem en_some {a : α} : En (some a) Q ↔ Q a := ⟨fun ⟨_, e, q⟩ => by cases e; exact q, fun q => ⟨a, rfl, q⟩⟩
theorem en_none : En (none : Option α) Q ↔ False := by
  constructor
  · rintro ⟨_, e, _⟩; cases e
  · exact False.elim
theorem en_bind {o : Option β} {f : β → Option α} : En (o.bind f) Q ↔ En o fun b => En (f b) Q := by
  constructor
  · rintro ⟨a, e, q⟩
    obtain ⟨b, e1, e2⟩ := Option.bind_eq_some_iff.mp e
    exact ⟨b, e1, a, e2, q⟩
  · rintro ⟨b, rfl, a, e, q⟩
    exact ⟨a, e, q⟩
theorem en_map {o : Option β} {f : β → α} : En (o.map f) Q ↔ En o fun b => Q (f b) := by
  cases o with
  | none =>
    constructor
    · rintro ⟨_, e, _⟩; cases e
    · rintro ⟨_, e, _⟩; cases e
  | some b =>
    constructor
    · rintro ⟨_, e, q⟩; cases e; exact ⟨b, rfl, q⟩
    · rintro ⟨_, e, q⟩; cases e; exact ⟨_, rfl, q⟩
theorem en_chk {p : Prop} {o : Option α} : En (chk p o) Q ↔ p ∧ En o Q := by
  constructor
  · rintro ⟨a, e, q⟩
    obtain ⟨h, e⟩ := chk_some e
    exact ⟨h, a, e, q⟩
  · rintro ⟨h, q⟩
    rw [chk_pos h]; exact q
theorem en_sz {n : Nat} {o : Option α} : En (if Sz n then o else none) Q ↔ Sz n ∧ En o Q := by
  by_cases h : Sz n
  · rw [if_pos h]; exact ⟨fun q => ⟨h, q⟩, fun q => q.2⟩
  · rw [if_neg h]; exact ⟨fun q => (en_none.mp q).elim, fun q => absurd q.1 h⟩
theorem En.mono {o : Option α} (h : En o Q) (f : ∀ a, Q a → R a) : En o R := h.elim fun a q => ⟨a, q.1, f a q.2⟩
theorem En.eq {o : Option α} {a : α} (h : o = some a) (q : Q a) : En o Q := ⟨a, h, q⟩
theorem En.val {o : Option α} {a : α} (h : En o fun x => x = a) : o = some a := by obtain ⟨b, e, rfl⟩ := h; exact e
theorem en_val {o : Option α} {a : α} : (o = some a) ↔ En o fun x => x = a := ⟨fun h => ⟨a, h, rfl⟩, En.val⟩
/-- what a first statement may end with -/
def SqQ (s2 : SF) (Q : Flo × Loc × Sto → Prop) : Flo × Loc × Sto → Prop
  | (.nx, L, S) => En (s2 L S) Q
  | (.ct, L, S) => Q (.ct, L, S)
  | (.bk, L, S) => Q (.bk, L, S)
  | (.rt d, L, S) => Q (.rt d, L, S)
theorem en_seq {s1 s2 : SF} {L : Loc} {S : Sto} {Q : Flo × Loc × Sto → Prop} : En (sSeq s1 s2 L S) Q ↔ En (s1 L S) (SqQ s2 Q) := by
  rw [ev_seq, en_bind]
  constructor
  · rintro ⟨⟨r, L1, S1⟩, e, q⟩
    refine ⟨_, e, ?_⟩
    cases r with
    | nx => exact q
    | ct => exact (en_some (a := (Flo.ct, L1, S1)) (Q := Q)).mp q
    | bk => exact (en_some (a := (Flo.bk, L1, S1)) (Q := Q)).mp q
    | rt d => exact (en_some (a := (Flo.rt d, L1, S1)) (Q := Q)).mp q
  · rintro ⟨⟨r, L1, S1⟩, e, q⟩
    refine ⟨_, e, ?_⟩
    cases r with
    | nx => exact q
    | ct => exact (en_some (a := (Flo.ct, L1, S1)) (Q := Q)).mpr q
    | bk => exact (en_some (a := (Flo.bk, L1, S1)) (Q := Q)).mpr q
    | rt d => exact (en_some (a := (Flo.rt d, L1, S1)) (Q := Q)).mpr q
theorem sq_nx {s2 : SF} {L : Loc} {S : Sto} {Q : Flo × Loc × Sto → Prop} : SqQ s2 Q (.nx, L, S) ↔ En (s2 L S) Q := Iff.rfl
theorem sq_ct {s2 : SF} {L : Loc} {S : Sto} {Q : Flo × Loc × Sto → Prop} : SqQ s2 Q (.ct, L, S) ↔ Q (.ct, L, S) := Iff.rfl
theorem sq_bk {s2 : SF} {L : Loc} {S : Sto} {Q : Flo × Loc × Sto → Prop} : SqQ s2 Q (.bk, L, S) ↔ Q (.bk, L, S) := Iff.rfl
theorem sq_rt {s2 : SF} {L : Loc} {S : Sto} {d : D} {Q : Flo × Loc × Sto → Prop} : SqQ s2 Q (.rt d, L, S) ↔ Q (.rt d, L, S) := Iff.rfl
theorem en_sif {t : TF} {s1 s2 : SF} {L : Loc} {S : Sto} {Q : Flo × Loc × Sto → Prop} : En (sIf t s1 s2 L S) Q ↔ En (t L S) fun p => if p.1 = true then En (s1 L p.2) Q else En (s2 L p.2) Q := by
  rw [ev_sif, en_bind]
  constructor
  · rintro ⟨p, e, q⟩; refine ⟨p, e, ?_⟩; split at q <;> simp_all
  · rintro ⟨p, e, q⟩; refine ⟨p, e, ?_⟩; split at q <;> simp_all
theorem en_ite {c : Prop} [Decidable c] {a b : Option α} : En (if c then a else b) Q ↔ if c then En a Q else En b Q := by split <;> exact Iff.rfl
/-- a def: its body, then what leaves it -/
theorem en_fn {np tot : Nat} {cut : Bool} {body : SF} {ds : List D} {S : Sto} {Q : D × Sto → Prop} (hl : ds.length = np) (h : En (body (ds.map some ++ List.replicate (tot - np) none) S) fun r => En (outF cut S.length r) Q) : En (fnF np tot cut body ds S) Q := by
  unfold fnF
  rw [if_pos hl]
  exact en_bind.mpr h
theorem en_rt {cut : Bool} {n : Nat} {d : D} {L : Loc} {S : Sto} {Q : D × Sto → Prop} : En (outF cut n (.rt d, L, S)) Q ↔ En (if cut = true then cutR n d S else some (d, S)) Q := Iff.rfl
theorem en_out {cut : Bool} {n : Nat} {L : Loc} {S : Sto} {Q : D × Sto → Prop} : En (outF cut n (.nx, L, S)) Q ↔ En (if cut = true then cutR n .non S else some (.non, S)) Q := Iff.rfl
end
section
variable {ok : Sto → Prop} {g : GF} {body : SF} {kl : List Nat} {tt : TF} {te tk tv : EF}
/-- what a turn of a loop may end with -/
def FlQ (I : Loc → Sto → Prop) (kl : List Nat) (Qb Q : Flo × Loc × Sto → Prop) : Flo × Loc × Sto → Prop
  | (.nx, L, S) => I (kill L kl) S
  | (.ct, L, S) => I (kill L kl) S
  | (.bk, L, S) => Qb (.nx, kill L kl, S)
  | (.rt d, L, S) => Q (.rt d, L, S)
theorem flq_nx {I : Loc → Sto → Prop} {Qb Q : Flo × Loc × Sto → Prop} {L : Loc} {S : Sto} : FlQ I kl Qb Q (.nx, L, S) ↔ I (kill L kl) S := Iff.rfl
theorem flq_ct {I : Loc → Sto → Prop} {Qb Q : Flo × Loc × Sto → Prop} {L : Loc} {S : Sto} : FlQ I kl Qb Q (.ct, L, S) ↔ I (kill L kl) S := Iff.rfl
theorem flq_bk {I : Loc → Sto → Prop} {Qb Q : Flo × Loc × Sto → Prop} {L : Loc} {S : Sto} : FlQ I kl Qb Q (.bk, L, S) ↔ Qb (.nx, kill L kl, S) := Iff.rfl
theorem flq_rt {I : Loc → Sto → Prop} {Qb Q : Flo × Loc × Sto → Prop} {L : Loc} {S : Sto} {d : D} : FlQ I kl Qb Q (.rt d, L, S) ↔ Q (.rt d, L, S) := Iff.rfl
/-- a for, by what holds ahead of each turn -/
theorem en_for {Q : Flo × Loc × Sto → Prop} (I : Nat → Loc → Sto → Prop) : ∀ (items : List D) (k : Nat) {L : Loc} {S : Sto}, I k L S →
    (∀ i d L S, items[i]? = some d → I (k + i) L S → ok S ∧ En (g d L S) fun L1 => En (body L1 S) (FlQ (I (k + i + 1)) kl Q Q)) →
    (∀ L S, I (k + items.length) L S → ok S ∧ Q (.nx, L, S)) → En (forL ok g body kl items L S) Q
  | [], k, L, S, h0, _, hf => by
    obtain ⟨h1, h2⟩ := hf L S h0
    unfold forL
    exact en_chk.mpr ⟨h1, en_some.mpr h2⟩
  | d :: ds, k, L, S, h0, hs, hf => by
    obtain ⟨o, L1, e1, ⟨r, L2, S2⟩, e2, h1⟩ := hs 0 d L S rfl h0
    have go : ∀ L S, I (k + 1) L S → En (forL ok g body kl ds L S) Q := fun L S h => en_for I ds (k + 1) h (fun i d L S hi h => by
      have := hs (i + 1) d L S (by simpa using hi) (by rw [show k + (i + 1) = k + 1 + i by omega]; exact h)
      rwa [show k + (i + 1) + 1 = k + 1 + i + 1 by omega] at this) (fun L S h => hf L S (by rw [List.length_cons, show k + (ds.length + 1) = k + 1 + ds.length by omega]; exact h))
    unfold forL
    refine en_chk.mpr ⟨o, en_bind.mpr ⟨L1, e1, en_bind.mpr ⟨_, e2, ?_⟩⟩⟩
    cases r with
    | nx => exact go _ _ h1
    | ct => exact go _ _ h1
    | bk => exact en_some.mpr h1
    | rt d => exact en_some.mpr h1
/-- the same over typed things -/
theorem en_forT {α : Type} {Q : Flo × Loc × Sto → Prop} (enc : α → D) (I : List α → Loc → Sto → Prop) (xs : List α) {L : Loc} {S : Sto} (h0 : I [] L S)
    (hs : ∀ pre x post L S, xs = pre ++ x :: post → I pre L S → ok S ∧ En (g (enc x) L S) fun L1 => En (body L1 S) (FlQ (I (pre ++ [x])) kl Q Q))
    (hf : ∀ L S, I xs L S → ok S ∧ Q (.nx, L, S)) : En (forL ok g body kl (xs.map enc) L S) Q := by
  refine en_for (fun i L S => I (xs.take i) L S) (xs.map enc) 0 (by simpa using h0) (fun i d L S hi h => ?_) (fun L S h => hf L S (by simpa using h))
  rw [List.getElem?_map] at hi
  obtain ⟨x, hx, rfl⟩ := Option.map_eq_some_iff.mp hi
  rw [Nat.zero_add] at h ⊢
  have hl := (List.getElem?_eq_some_iff.mp hx).1
  have e1 : xs = xs.take i ++ x :: xs.drop (i + 1) := by
    have := List.drop_eq_getElem_cons hl
    conv => lhs; rw [← List.take_append_drop i xs, this]
    rw [(List.getElem?_eq_some_iff.mp hx).2]
  have e2 : xs.take (i + 1) = xs.take i ++ [x] := by rw [List.take_add_one, hx]; rfl
  have := hs (xs.take i) x (xs.drop (i + 1)) L S e1 h
  rw [← e2] at this
  exact this
/-- a for that is a fold -/
theorem en_fold {α β : Type} {Q : Flo × Loc × Sto → Prop} (enc : α → D) (step : β → α → β) (eL : β → Loc) (eS : β → Sto) (P : β → Prop) : ∀ (xs : List α) (b : β), P b →
    (∀ x, x ∈ xs → ∀ b, P b → P (step b x) ∧ ok (eS b) ∧ En (g (enc x) (eL b) (eS b)) fun L1 => En (body L1 (eS b)) fun r => (r.1 = .nx ∨ r.1 = .ct) ∧ kill r.2.1 kl = eL (step b x) ∧ r.2.2 = eS (step b x)) →
    (P (xs.foldl step b) → ok (eS (xs.foldl step b)) ∧ Q (.nx, eL (xs.foldl step b), eS (xs.foldl step b))) → En (forL ok g body kl (xs.map enc) (eL b) (eS b)) Q
  | [], b, h0, _, hf => by
    obtain ⟨h1, h2⟩ := hf h0
    exact en_chk.mpr ⟨h1, en_some.mpr h2⟩
  | x :: xs, b, h0, hs, hf => by
    obtain ⟨p, o, L1, e1, ⟨r, L2, S2⟩, e2, h1, h2, h3⟩ := hs x List.mem_cons_self b h0
    have ih := en_fold enc step eL eS P xs (step b x) p (fun y hy => hs y (List.mem_cons_of_mem _ hy)) hf
    rw [List.map_cons]
    unfold forL
    refine en_chk.mpr ⟨o, en_bind.mpr ⟨L1, e1, en_bind.mpr ⟨_, e2, ?_⟩⟩⟩
    simp only at h1 h2 h3
    rcases h1 with rfl | rfl <;> (simp only; rw [h2, h3]; exact ih)
/-- a for that looks for the first one -/
theorem en_find {α : Type} {Q : Flo × Loc × Sto → Prop} (enc : α → D) (h : α → Option D) {L : Loc} {S : Sto} (hok : ok S) : ∀ (xs : List α),
    (∀ x, x ∈ xs → En (g (enc x) L S) fun L1 => En (body L1 S) fun r => match h x with | some d => ∃ L2, r = (.rt d, L2, S) | none => ∃ L2, (r = (.nx, L2, S) ∨ r = (.ct, L2, S)) ∧ kill L2 kl = L) →
    (match xs.findSome? h with | some d => ∀ L2, Q (.rt d, L2, S) | none => Q (.nx, L, S)) → En (forL ok g body kl (xs.map enc) L S) Q
  | [], _, q => en_chk.mpr ⟨hok, en_some.mpr q⟩
  | x :: xs, H, q => by
    obtain ⟨L1, e1, r, e2, h1⟩ := H x List.mem_cons_self
    rw [List.map_cons]
    unfold forL
    refine en_chk.mpr ⟨hok, en_bind.mpr ⟨L1, e1, en_bind.mpr ⟨_, e2, ?_⟩⟩⟩
    rw [List.findSome?_cons] at q
    cases hx : h x with
    | some d =>
      rw [hx] at h1 q
      obtain ⟨L2, rfl⟩ := h1
      exact en_some.mpr (q L2)
    | none =>
      rw [hx] at h1 q
      obtain ⟨L2, h1, h2⟩ := h1
      have ih := en_find enc h hok xs (fun y hy => H y (List.mem_cons_of_mem _ hy)) q
      rcases h1 with rfl | rfl <;> (simp only [h2]; exact ih)
/-- a comprehension, by what holds ahead of each turn -/
theorem en_lc {L0 : Loc} {Q : List D × Sto → Prop} (I : Nat → List D → Sto → Prop) (items : List D) {S : Sto} (h0 : I 0 [] S)
    (hs : ∀ i d acc S, items[i]? = some d → I i acc S → ok S ∧ En (g d L0 S) fun L1 => En (tt L1 S) fun p => if p.1 = true then En (te L1 p.2) fun y => I (i + 1) (acc ++ [y.1]) y.2 else I (i + 1) acc p.2)
    (hf : ∀ acc S, I items.length acc S → ok S ∧ Q (acc, S)) : En (lcL ok g tt te L0 items S) Q := by
  obtain ⟨ys, S', e, h⟩ := lcL_rel (ok := ok) (g := g) (tt := tt) (te := te) (L0 := L0) I items [] 0 h0 (fun i d acc S hi h => by
    rw [Nat.zero_add] at h ⊢
    obtain ⟨o, L1, e1, ⟨b, S1⟩, e2, q⟩ := hs i d acc S hi h
    refine ⟨o, L1, e1, b, S1, e2, fun hb => ?_, fun hb => ?_⟩
    · subst hb; exact q
    · subst hb
      obtain ⟨⟨y, S2⟩, e3, q⟩ := q
      exact ⟨y, S2, e3, q⟩) (fun acc S h => (hf acc S (by rwa [Nat.zero_add] at h)).1)
  rw [Nat.zero_add, List.nil_append] at h
  exact ⟨_, e, (hf _ _ h).2⟩
/-- a comprehension that reads -/
theorem en_lcM {α : Type} {L0 : Loc} {S : Sto} {Q : List D × Sto → Prop} (enc : α → D) (p : α → Bool) (h : α → D) (xs : List α) (hok : ok S)
    (H : ∀ x, x ∈ xs → En (g (enc x) L0 S) fun L1 => En (tt L1 S) fun q => q = (p x, S) ∧ (p x = true → En (te L1 S) fun y => y = (h x, S))) (hq : Q ((xs.filter p).map h, S)) : En (lcL ok g tt te L0 (xs.map enc) S) Q := by
  refine ⟨_, lcL_map enc p h hok xs fun x hx => ?_, hq⟩
  obtain ⟨L1, e1, q, e2, rfl, q2⟩ := H x hx
  exact ⟨L1, e1, e2, fun hp => (q2 hp).val⟩
theorem en_lcA {α : Type} {L0 : Loc} {S : Sto} {Q : List D × Sto → Prop} (enc : α → D) (h : α → D) (xs : List α) (hok : ok S)
    (H : ∀ x, x ∈ xs → En (g (enc x) L0 S) fun L1 => En (te L1 S) fun y => y = (h x, S)) (hq : Q (xs.map h, S)) : En (lcL ok g bYes te L0 (xs.map enc) S) Q := by
  refine en_lcM enc (fun _ => true) h xs hok (fun x hx => (H x hx).mono fun L1 q => en_some.mpr ⟨rfl, fun _ => q⟩) ?_
  rwa [List.filter_eq_self.mpr fun _ _ => rfl]
/-- a comprehension that draws -/
theorem en_lcD {α β : Type} {L0 : Loc} {Q : List D × Sto → Prop} (enc : α → D) (out : β → D) (R : Sto → Prop) (P : α → β → Prop) : ∀ (xs : List α) {S : Sto}, R S → (∀ S, R S → ok S) →
    (∀ x, x ∈ xs → ∀ S, R S → En (g (enc x) L0 S) fun L1 => En (te L1 S) fun y => R y.2 ∧ ∃ b, y.1 = out b ∧ P x b) →
    (∀ (ys : List β) S', R S' → ys.length = xs.length → (∀ (i : Nat) x y, xs[i]? = some x → ys[i]? = some y → P x y) → Q (ys.map out, S')) → En (lcL ok g bYes te L0 (xs.map enc) S) Q
  | [], S, r, ho, _, hq => by
    unfold lcL
    exact en_chk.mpr ⟨ho S r, en_some.mpr (hq [] S r rfl fun i x y h => by simp at h)⟩
  | x :: xs, S, r, ho, H, hq => by
    obtain ⟨L1, e1, ⟨y, S1⟩, e2, r1, b, hb, pb⟩ := H x List.mem_cons_self S r
    simp only at hb
    subst hb
    have ih := en_lcD (L0 := L0) (Q := fun p => Q (out b :: p.1, p.2)) enc out R P xs r1 ho (fun z hz => H z (List.mem_cons_of_mem _ hz)) fun ys S' r' hl hp => hq (b :: ys) S' r' (by simp [hl]) fun i z w h1 h2 => by
      cases i with
      | zero => cases h1; cases h2; exact pb
      | succ i => exact hp i z w (by simpa using h1) (by simpa using h2)
    rw [List.map_cons]
    unfold lcL
    refine en_chk.mpr ⟨ho S r, en_bind.mpr ⟨L1, e1, ?_⟩⟩
    show En ((some (true, S)).bind _) _
    rw [Option.bind_some, if_pos rfl]
    refine en_bind.mpr ⟨_, e2, en_bind.mpr ?_⟩
    exact ih.mono fun p hp => en_some.mpr hp
end

section
variable {fa : AF} {L : Loc} {S : Sto} {own : List Nat} {it : IF} {g : GF} {tt : TF} {te tk tv f fo : EF}
theorem ev_tupD : eTupD fa L S = (fa L S).bind fun p => if Sz p.1.length then some (.tud p.1, p.2) else none := rfl
theorem ev_lcF0 : lcF own it g tt te L S = (it L S).bind fun p => (lcL p.1.ok g tt te (wipeL L own) p.1.items p.2).bind fun r => if Sz r.1.length then some r else none := rfl
theorem ev_dc {f : DF} : eDc f L S = (f L S).bind fun p => some (.ref p.2.length, p.2 ++ [.dic p.1]) := rfl
theorem ev_dcF : dcF own it g tt tk tv L S = (it L S).bind fun p => dcL p.1.ok g tt tk tv (wipeL L own) p.1.items [] p.2 := rfl
theorem ev_metD {g : List D → List D → Option D} : eMetD g fo fa L S = (fo L S).bind fun p => match p.1 with
  | .tud xs => (fa L p.2).bind fun q => (g xs q.1).map fun d => (d, q.2)
  | _ => none := rfl
theorem ev_idxL : eIdxL fo fa L S = (fo L S).bind fun p => match p.1 with
  | .lst xs => (fa L p.2).bind fun q => (gIdxT xs q.1).map fun d => (d, q.2)
  | _ => none := rfl
theorem ev_lockV {i : Nat} : eLockV i f L S = match L[i]? with
  | some (some (.ref k)) => (lockS k S).bind fun S1 => (f L S1).bind fun r => (unlockS k r.2).map fun S2 => (r.1, S2)
  | _ => none := rfl
theorem ev_keyL : iKeyL f L S = (f L S).bind fun p => match p.1 with
  | .ref k => match p.2[k]? with | some (.dil kvs) => some (⟨(kvs.map (·.1)).map kD, fun _ => True⟩, p.2) | _ => none
  | _ => none := rfl
end
/-- all rules of rewriting in one -/
theorem ev_all : type_of% @ev_var ∧ type_of% @ev_c ∧ type_of% @ev_op2 ∧ type_of% @ev_op1 ∧ type_of% @ev_nil ∧ type_of% @ev_cons ∧ type_of% @ev_tup ∧ type_of% @ev_lst ∧ type_of% @ev_lstM ∧ type_of% @ev_fun ∧ type_of% @ev_val ∧ type_of% @ev_band ∧ type_of% @ev_bor ∧ type_of% @ev_bnot ∧ type_of% @ev_byes ∧ type_of% @ev_and ∧ type_of% @ev_or ∧ type_of% @ev_not ∧ type_of% @ev_chain ∧ type_of% @ev_fro ∧ type_of% @ev_mut ∧ type_of% @ev_set ∧ type_of% @ev_exp ∧ type_of% @ev_ret ∧ type_of% @ev_retN ∧ type_of% @ev_nx ∧ type_of% @ev_bk ∧ type_of% @ev_ct ∧ type_of% @ev_asg ∧ type_of% @ev_put ∧ type_of% @ev_gname ∧ type_of% @ev_gtup ∧ type_of% @ev_gtupR ∧ type_of% @ev_gn0 ∧ type_of% @ev_gn1 ∧ type_of% @ev_iseq ∧ type_of% @ev_seqt ∧ type_of% @ev_seqtd ∧ type_of% @ev_seql ∧ type_of% @ev_seqa ∧ type_of% @ev_irng1 ∧ type_of% @ev_irng2 ∧ type_of% @ev_irngB ∧ type_of% @ev_ienum ∧ type_of% @ev_izip ∧ type_of% @ev_onone ∧ type_of% @ev_osome ∧ type_of% @ev_sl ∧ type_of% @ev_rev ∧ type_of% @ev_met ∧ type_of% @ev_lrg ∧ type_of% @ev_trg ∧ type_of% @ev_rg1 ∧ type_of% @ev_rg2 ∧ type_of% @ev_dicN ∧ type_of% @ev_ditN ∧ type_of% @ev_for ∧ type_of% @ev_kill0 ∧ type_of% @ev_kill1 ∧ type_of% @ev_wipe0 ∧ type_of% @ev_wipe1 ∧ type_of% @ev_mkF ∧ type_of% @ev_mkT ∧ type_of% @en_some ∧ type_of% @en_bind ∧ type_of% @en_map ∧ type_of% @en_chk ∧ type_of% @en_sz ∧ type_of% @en_seq ∧ type_of% @sq_nx ∧ type_of% @sq_ct ∧ type_of% @sq_bk ∧ type_of% @sq_rt ∧ type_of% @flq_nx ∧ type_of% @flq_ct ∧ type_of% @flq_bk ∧ type_of% @flq_rt ∧ type_of% @en_rt ∧ type_of% @en_out ∧ type_of% @gAdd_i ∧ type_of% @gSub_i ∧ type_of% @gNeg_i ∧ type_of% @gLt_i ∧ type_of% @gLe_i ∧ type_of% @gGt_i ∧ type_of% @gGe_i ∧ type_of% @gEq_i ∧ type_of% @gNe_i ∧ type_of% @gIx_t ∧ type_of% @gIx_td ∧ type_of% @gIx_l ∧ type_of% @gLen_t ∧ type_of% @gLen_td ∧ type_of% @gLen_l ∧ type_of% @gTup_l ∧ type_of% @gTup_t ∧ type_of% @gTup_td ∧ type_of% @atI_nat ∧ type_of% @atI_suc ∧ type_of% @atI_0 ∧ type_of% @atI_1 ∧ type_of% @atI_2 ∧ type_of% @atI_3 ∧ type_of% @atI_m1 ∧ type_of% @gSl_t ∧ type_of% @gSl_l ∧ type_of% @gEq_r ∧ type_of% @gNe_r ∧ type_of% @sz_0 ∧ type_of% @sz_1 ∧ type_of% @sz_2 ∧ type_of% @sz_3 ∧ type_of% @sz_4 ∧ type_of% @sz_5 ∧ type_of% @sz_6 ∧ type_of% @sz_7 ∧ type_of% @sz_8 ∧ type_of% @ev_tupD ∧ type_of% @ev_lcF0 ∧ type_of% @ev_dcF ∧ type_of% @ev_dc ∧ type_of% @ev_metD ∧ type_of% @ev_idxL ∧ type_of% @ev_lockV ∧ type_of% @ev_keyL :=
  ⟨@ev_var, @ev_c, @ev_op2, @ev_op1, @ev_nil, @ev_cons, @ev_tup, @ev_lst, @ev_lstM, @ev_fun, @ev_val, @ev_band, @ev_bor, @ev_bnot, @ev_byes, @ev_and, @ev_or, @ev_not, @ev_chain, @ev_fro, @ev_mut, @ev_set, @ev_exp, @ev_ret, @ev_retN, @ev_nx, @ev_bk, @ev_ct, @ev_asg, @ev_put, @ev_gname, @ev_gtup, @ev_gtupR, @ev_gn0, @ev_gn1, @ev_iseq, @ev_seqt, @ev_seqtd, @ev_seql, @ev_seqa, @ev_irng1, @ev_irng2, @ev_irngB, @ev_ienum, @ev_izip, @ev_onone, @ev_osome, @ev_sl, @ev_rev, @ev_met, @ev_lrg, @ev_trg, @ev_rg1, @ev_rg2, @ev_dicN, @ev_ditN, @ev_for, @ev_kill0, @ev_kill1, @ev_wipe0, @ev_wipe1, @ev_mkF, @ev_mkT, @en_some, @en_bind, @en_map, @en_chk, @en_sz, @en_seq, @sq_nx, @sq_ct, @sq_bk, @sq_rt, @flq_nx, @flq_ct, @flq_bk, @flq_rt, @en_rt, @en_out, @gAdd_i, @gSub_i, @gNeg_i, @gLt_i, @gLe_i, @gGt_i, @gGe_i, @gEq_i, @gNe_i, @gIx_t, @gIx_td, @gIx_l, @gLen_t, @gLen_td, @gLen_l, @gTup_l, @gTup_t, @gTup_td, @atI_nat, @atI_suc, @atI_0, @atI_1, @atI_2, @atI_3, @atI_m1, @gSl_t, @gSl_l, @gEq_r, @gNe_r, @sz_0, @sz_1, @sz_2, @sz_3, @sz_4, @sz_5, @sz_6, @sz_7, @sz_8, @ev_tupD, @ev_lcF0, @ev_dcF, @ev_dc, @ev_metD, @ev_idxL, @ev_lockV, @ev_keyL⟩
theorem ls_all : type_of% @List.getElem?_cons_zero.{0} ∧ type_of% @List.getElem?_cons_succ.{0} ∧ type_of% @List.set_cons_zero.{0} ∧ type_of% @List.set_cons_succ.{0} ∧ type_of% @Option.bind_some.{0,0} ∧ type_of% @Option.map_some.{0,0} ∧ type_of% @List.length_cons.{0} ∧ type_of% @List.length_nil.{0} ∧ type_of% @List.map_cons.{0,0} ∧ type_of% @List.map_nil.{0,0} ∧ type_of% @List.cons_append.{0} ∧ type_of% @List.nil_append.{0} ∧ type_of% @if_true.{1} ∧ type_of% @if_false.{1} ∧ type_of% @true_and ∧ type_of% @and_true ∧ type_of% @Bool.not_true ∧ type_of% @Bool.not_false ∧ type_of% @List.replicate_succ.{0} ∧ type_of% @List.replicate_zero.{0} ∧ type_of% @Bool.false_eq_true ∧ type_of% @eq_self.{1} ∧ type_of% @decide_true ∧ type_of% @decide_false ∧ type_of% @implies_true.{0} ∧ type_of% @implies_true.{1} :=
  ⟨@List.getElem?_cons_zero.{0}, @List.getElem?_cons_succ.{0}, @List.set_cons_zero.{0}, @List.set_cons_succ.{0}, @Option.bind_some.{0,0}, @Option.map_some.{0,0}, @List.length_cons.{0}, @List.length_nil.{0}, @List.map_cons.{0,0}, @List.map_nil.{0,0}, @List.cons_append.{0}, @List.nil_append.{0}, @if_true.{1}, @if_false.{1}, @true_and, @and_true, @Bool.not_true, @Bool.not_false, @List.replicate_succ.{0}, @List.replicate_zero.{0}, @Bool.false_eq_true, @eq_self.{1}, @decide_true, @decide_false, @implies_true.{0}, @implies_true.{1}⟩
end DS
namespace DS
open PySem PySem.Spec PyProof.Rows L2
/-! ### typed things in two forms of data -/
structure Eq2 {α : Type} [DecidableEq α] (f : Nat) (e e' : α → D) : Prop where
  p1 : ∀ a, Pn f (e a)
  p2 : ∀ a, Pn f (e' a)
  eq : ∀ a b, PyData.eqv (toPy (e a)) (toPy (e' b)) = decide (a = b)
section
variable {α β γ : Type} [DecidableEq α] [DecidableEq β] [DecidableEq γ] {f g : Nat} {e e' : α → D} {d d' : β → D} {c c' : γ → D} {S : Sto}
theorem eqv_allE (h : ∀ a b, PyData.eqv (toPy (e a)) (toPy (e' b)) = decide (a = b)) : ∀ xs ys : List α, PyData.eqvAll ((xs.map e).map toPy) ((ys.map e').map toPy) = decide (xs = ys)
  | [], [] => by unfold PyData.eqvAll; simp
  | [], y :: ys => by unfold PyData.eqvAll; simp
  | x :: xs, [] => by unfold PyData.eqvAll; simp
  | x :: xs, y :: ys => by
    simp only [List.map_cons]
    unfold PyData.eqvAll
    rw [eqv_allE h xs ys, h]
    by_cases hh : x = y <;> simp [hh]
theorem Eq2.int : Eq2 1 D.int D.int := ⟨fun _ => pn_int, fun _ => pn_int, fun a b => by simp⟩
theorem Eq2.nat : Eq2 1 (fun n : Nat => D.int n) (fun n : Nat => D.int n) := ⟨fun _ => pn_int, fun _ => pn_int, fun a b => by
  simp only [toPy_int, eqv_int]
  by_cases h : a = b
  · simp [h]
  · have : ¬ (a : Int) = b := by omega
    simp [h, this]⟩
theorem pn_mapE {e : α → D} (h : ∀ a, Pn f (e a)) (xs : List α) : ∀ x, x ∈ xs.map e → Pn f x := fun x hx => by
  obtain ⟨a, _, rfl⟩ := List.mem_map.mp hx
  exact h a
theorem Eq2.tt (h : Eq2 f e e') : Eq2 (f + 1) (fun xs : List α => .tup (xs.map e)) (fun xs : List α => .tup (xs.map e')) := ⟨fun xs => pn_mapE h.p1 xs, fun xs => pn_mapE h.p2 xs, fun a b => by
  rw [toPy_tup, toPy_tup]; unfold PyData.eqv; exact eqv_allE h.eq a b⟩
theorem Eq2.td (h : Eq2 f e e') : Eq2 (f + 1) (fun xs : List α => .tup (xs.map e)) (fun xs : List α => .tud (xs.map e')) := ⟨fun xs => pn_mapE h.p1 xs, fun xs => pn_mapE h.p2 xs, fun a b => by
  rw [toPy_tup, toPy_tud]; unfold PyData.eqv; exact eqv_allE h.eq a b⟩
theorem Eq2.dt (h : Eq2 f e e') : Eq2 (f + 1) (fun xs : List α => .tud (xs.map e)) (fun xs : List α => .tup (xs.map e')) := ⟨fun xs => pn_mapE h.p1 xs, fun xs => pn_mapE h.p2 xs, fun a b => by
  rw [toPy_tup, toPy_tud]; unfold PyData.eqv; exact eqv_allE h.eq a b⟩
theorem Eq2.dd (h : Eq2 f e e') : Eq2 (f + 1) (fun xs : List α => .tud (xs.map e)) (fun xs : List α => .tud (xs.map e')) := ⟨fun xs => pn_mapE h.p1 xs, fun xs => pn_mapE h.p2 xs, fun a b => by
  rw [toPy_tud, toPy_tud]; unfold PyData.eqv; exact eqv_allE h.eq a b⟩
theorem Eq2.ll (h : Eq2 f e e') : Eq2 (f + 1) (fun xs : List α => .lst (xs.map e)) (fun xs : List α => .lst (xs.map e')) := ⟨fun xs => pn_mapE h.p1 xs, fun xs => pn_mapE h.p2 xs, fun a b => by
  rw [toPy_lst, toPy_lst]; unfold PyData.eqv; exact eqv_allE h.eq a b⟩
theorem Eq2.up (h : Eq2 f e e') (hf : f ≤ g) : Eq2 g e e' := ⟨fun a => pn_up (h.p1 a) hf, fun a => pn_up (h.p2 a) hf, h.eq⟩
theorem Eq2.two (h : Eq2 f e e') (h2 : Eq2 f d d') : Eq2 (f + 1) (fun p : α × β => .tup [e p.1, d p.2]) (fun p : α × β => .tup [e' p.1, d' p.2]) := ⟨fun p x hx => by
  simp only [List.mem_cons, List.not_mem_nil, or_false] at hx
  rcases hx with rfl | rfl
  · exact h.p1 _
  · exact h2.p1 _, fun p x hx => by
  simp only [List.mem_cons, List.not_mem_nil, or_false] at hx
  rcases hx with rfl | rfl
  · exact h.p2 _
  · exact h2.p2 _, fun a b => by
  obtain ⟨a1, a2⟩ := a
  obtain ⟨b1, b2⟩ := b
  rw [toPy_tup, toPy_tup]
  simp only [List.map_cons, List.map_nil, PyData.eqv, PyData.eqvAll, h.eq, h2.eq, Prod.mk.injEq, Bool.and_true, Bool.decide_and]⟩
theorem Eq2.three (h : Eq2 f e e') (h2 : Eq2 f d d') (h3 : Eq2 f c c') : Eq2 (f + 1) (fun p : α × β × γ => .tup [e p.1, d p.2.1, c p.2.2]) (fun p : α × β × γ => .tup [e' p.1, d' p.2.1, c' p.2.2]) := ⟨fun p x hx => by
  simp only [List.mem_cons, List.not_mem_nil, or_false] at hx
  rcases hx with rfl | rfl | rfl
  · exact h.p1 _
  · exact h2.p1 _
  · exact h3.p1 _, fun p x hx => by
  simp only [List.mem_cons, List.not_mem_nil, or_false] at hx
  rcases hx with rfl | rfl | rfl
  · exact h.p2 _
  · exact h2.p2 _
  · exact h3.p2 _, fun a b => by
  obtain ⟨a1, a2, a3⟩ := a
  obtain ⟨b1, b2, b3⟩ := b
  rw [toPy_tup, toPy_tup]
  simp only [List.map_cons, List.map_nil, PyData.eqv, PyData.eqvAll, h.eq, h2.eq, h3.eq, Prod.mk.injEq, Bool.and_true, Bool.decide_and]⟩
theorem gEq2 (h : Eq2 f e e') (hf : f ≤ 64) (a b : α) : gEq (e a) (e' b) S = some (.bl (decide (a = b)), S) := by rw [gEq_pn (h.p1 a) (h.p2 b) hf, h.eq]
theorem gNe2 (h : Eq2 f e e') (hf : f ≤ 64) (a b : α) : gNe (e a) (e' b) S = some (.bl (!decide (a = b)), S) := by rw [gNe_pn (h.p1 a) (h.p2 b) hf, h.eq]
theorem gEqL (h : Eq2 f e e') (hf : f ≤ 63) (xs ys : List α) : gEq (.lst (xs.map e)) (.lst (ys.map e')) S = some (.bl (decide (xs = ys)), S) := gEq2 h.ll (by omega) xs ys
theorem gNeL (h : Eq2 f e e') (hf : f ≤ 63) (xs ys : List α) : gNe (.lst (xs.map e)) (.lst (ys.map e')) S = some (.bl (!decide (xs = ys)), S) := gNe2 h.ll (by omega) xs ys
theorem res_r {k : Nat} {xs : List D} (hk : S[k]? = some (.lst xs)) : pyS S (.ref k) = toPy (.lst xs) := by
  unfold pyS res
  simp only [hk]
theorem res_l {xs : List D} : pyS S (.lst xs) = toPy (.lst xs) := rfl
theorem gEq_rl (h : Eq2 f e e') (hf : f ≤ 63) {k : Nat} {xs ys : List α} (hk : S[k]? = some (.lst (xs.map e))) : gEq (.ref k) (.lst (ys.map e')) S = some (.bl (decide (xs = ys)), S) := by
  have h1 := pn_shaped (h.ll.p1 xs) (show f + 1 ≤ 64 by omega)
  have h2 := pn_shaped (h.ll.p2 ys) (show f + 1 ≤ 64 by omega)
  show (if SeqAt.shaped (pyS S (.ref k)) = true ∧ SeqAt.shaped (pyS S (.lst (ys.map e'))) = true then _ else none) = _
  rw [res_r hk, res_l, if_pos ⟨h1, h2⟩, h.ll.eq]
theorem gNe_rl (h : Eq2 f e e') (hf : f ≤ 63) {k : Nat} {xs ys : List α} (hk : S[k]? = some (.lst (xs.map e))) : gNe (.ref k) (.lst (ys.map e')) S = some (.bl (!decide (xs = ys)), S) := by
  have h1 := pn_shaped (h.ll.p1 xs) (show f + 1 ≤ 64 by omega)
  have h2 := pn_shaped (h.ll.p2 ys) (show f + 1 ≤ 64 by omega)
  show (if SeqAt.shaped (pyS S (.ref k)) = true ∧ SeqAt.shaped (pyS S (.lst (ys.map e'))) = true then _ else none) = _
  rw [res_r hk, res_l, if_pos ⟨h1, h2⟩, h.ll.eq]
theorem any_E (h : Eq2 f e' e) (a : α) (xs : List α) : ((xs.map e').map toPy).any (fun z => PyData.eqv z (toPy (e a))) = decide (a ∈ xs) := by
  rw [List.map_map, Bool.eq_iff_iff, List.any_eq_true, decide_eq_true_iff]
  constructor
  · rintro ⟨z, hz, q⟩
    obtain ⟨r, hr, rfl⟩ := List.mem_map.mp hz
    simp only [Function.comp, h.eq, decide_eq_true_iff] at q
    exact q ▸ hr
  · intro q
    exact ⟨toPy (e' a), List.mem_map.mpr ⟨a, q, rfl⟩, by rw [h.eq]; simp⟩
theorem shaped_E {e : α → D} (h : ∀ a, Pn f (e a)) (hf : f ≤ 63) (xs : List α) : SeqAt.shaped (.list (toPys (xs.map e))) = true := by
  have := pn_shaped (f := f + 1) (d := .lst (xs.map e)) (pn_mapE h xs) (by omega)
  rwa [toPy_lst, ← toPys_map] at this
/-- in, of typed things -/
theorem in_tE0 {neg : Bool} (h : Eq2 f e' e) (hf : f ≤ 63) (a : α) (xs : List α) : inD neg (e a) (.tup (xs.map e')) S = some (.bl (neg.xor (decide (a ∈ xs))), S) := by
  have q : inD neg (e a) (.tup (xs.map e')) S = if SeqAt.shaped (pyS S (e a)) = true ∧ SeqAt.shaped (.list (toPys (xs.map e'))) = true then some (.bl (neg.xor ((toPys (xs.map e')).any fun z => PyData.eqv z (pyS S (e a)))), S) else none := by
    cases e a <;> rfl
  rw [q, pn_res (h.p2 a), if_pos ⟨pn_shaped (h.p2 a) (by omega), shaped_E h.p1 hf xs⟩, toPys_map, any_E h]
theorem in_dE0 {neg : Bool} (h : Eq2 f e' e) (hf : f ≤ 63) (a : α) (xs : List α) : inD neg (e a) (.tud (xs.map e')) S = some (.bl (neg.xor (decide (a ∈ xs))), S) := by
  have q : inD neg (e a) (.tud (xs.map e')) S = if SeqAt.shaped (pyS S (e a)) = true ∧ SeqAt.shaped (.list (toPys (xs.map e'))) = true then some (.bl (neg.xor ((toPys (xs.map e')).any fun z => PyData.eqv z (pyS S (e a)))), S) else none := by
    cases e a <;> rfl
  rw [q, pn_res (h.p2 a), if_pos ⟨pn_shaped (h.p2 a) (by omega), shaped_E h.p1 hf xs⟩, toPys_map, any_E h]
theorem in_lE0 {neg : Bool} (h : Eq2 f e' e) (hf : f ≤ 63) (a : α) (xs : List α) : inD neg (e a) (.lst (xs.map e')) S = some (.bl (neg.xor (decide (a ∈ xs))), S) := by
  have q : inD neg (e a) (.lst (xs.map e')) S = if SeqAt.shaped (pyS S (e a)) = true ∧ SeqAt.shaped (.list (toPys (xs.map e'))) = true then some (.bl (neg.xor ((toPys (xs.map e')).any fun z => PyData.eqv z (pyS S (e a)))), S) else none := by
    cases e a <;> rfl
  rw [q, pn_res (h.p2 a), if_pos ⟨pn_shaped (h.p2 a) (by omega), shaped_E h.p1 hf xs⟩, toPys_map, any_E h]
theorem dec_same {p : Prop} (d1 d2 : Decidable p) : @decide p d1 = @decide p d2 := by rw [Subsingleton.elim d1 d2]
theorem in_tE {neg : Bool} (h : Eq2 f e' e) (hf : f ≤ 63) (a : α) (xs : List α) [dd : Decidable (a ∈ xs)] : inD neg (e a) (.tup (xs.map e')) S = some (.bl (neg.xor (@decide (a ∈ xs) dd)), S) := by
  rw [in_tE0 h hf a xs, dec_same _ dd]
theorem in_dE {neg : Bool} (h : Eq2 f e' e) (hf : f ≤ 63) (a : α) (xs : List α) [dd : Decidable (a ∈ xs)] : inD neg (e a) (.tud (xs.map e')) S = some (.bl (neg.xor (@decide (a ∈ xs) dd)), S) := by
  rw [in_dE0 h hf a xs, dec_same _ dd]
theorem in_lE {neg : Bool} (h : Eq2 f e' e) (hf : f ≤ 63) (a : α) (xs : List α) [dd : Decidable (a ∈ xs)] : inD neg (e a) (.lst (xs.map e')) S = some (.bl (neg.xor (@decide (a ∈ xs) dd)), S) := by
  rw [in_lE0 h hf a xs, dec_same _ dd]
theorem in_rE {neg : Bool} (h : Eq2 f e' e) (hf : f ≤ 63) (a : α) {k : Nat} {xs : List α} (hk : S[k]? = some (.lst (xs.map e'))) : inD neg (e a) (.ref k) S = some (.bl (neg.xor (decide (a ∈ xs))), S) := by
  have q : inD neg (e a) (.ref k) S = match S[k]? with
    | some (.lst xs) => if SeqAt.shaped (pyS S (e a)) = true ∧ SeqAt.shaped (.list (toPys xs)) = true then some (.bl (neg.xor ((toPys xs).any fun z => PyData.eqv z (pyS S (e a)))), S) else none
    | _ => (dictGet S k (e a)).map fun o => (.bl (neg.xor o.isSome), S) := by
    cases e a <;> rfl
  rw [q, hk]
  simp only
  rw [pn_res (h.p2 a), if_pos ⟨pn_shaped (h.p2 a) (by omega), shaped_E h.p1 hf xs⟩, toPys_map, any_E h]
end
/-! ### what may be sorted, and how -/
def leE {α : Type} (e : α → D) (a b : α) : Bool := PySem.W.dataLe false toPy (e a) (e b)
def srtE {α : Type} (e : α → D) (xs : List α) : List α := xs.mergeSort (leE e)
structure So {α : Type} (e : α → D) : Prop where
  al : ∀ a b, PySem.W.alike (toPy (e a)) (toPy (e b)) = true
section
variable {α β γ : Type} [DecidableEq α] [DecidableEq β] [DecidableEq γ] {f g : Nat} {e e' : α → D} {d d' : β → D} {c c' : γ → D} {S : Sto}
theorem So.int : So D.int := ⟨fun a b => by simp [PySem.W.alike]⟩
theorem So.nat : So (fun n : Nat => D.int n) := ⟨fun a b => by simp [PySem.W.alike]⟩
theorem alike_mapE (h : So e) : ∀ xs ys : List α, PySem.W.alikeAll ((xs.map e).map toPy) ((ys.map e).map toPy) = true
  | [], _ => by simp [PySem.W.alikeAll]
  | _ :: _, [] => by simp [PySem.W.alikeAll]
  | x :: xs, y :: ys => by
    simp only [List.map_cons]
    rw [PySem.W.alikeAll, alike_mapE h xs ys, h.al]
    rfl
theorem So.tup (h : So e) : So (fun xs : List α => D.tup (xs.map e)) := ⟨fun a b => by
  rw [toPy_tup, toPy_tup]; unfold PySem.W.alike; exact alike_mapE h a b⟩
theorem So.tud (h : So e) : So (fun xs : List α => D.tud (xs.map e)) := ⟨fun a b => by
  rw [toPy_tud, toPy_tud]; unfold PySem.W.alike; exact alike_mapE h a b⟩
theorem So.two (h : So e) (h2 : So d) : So (fun p : α × β => .tup [e p.1, d p.2]) := ⟨fun a b => by
  rw [toPy_tup, toPy_tup]; simp [PySem.W.alike, PySem.W.alikeAll, h.al, h2.al]⟩
theorem So.three (h : So e) (h2 : So d) (h3 : So c) : So (fun p : α × β × γ => .tup [e p.1, d p.2.1, c p.2.2]) := ⟨fun a b => by
  rw [toPy_tup, toPy_tup]; simp [PySem.W.alike, PySem.W.alikeAll, h.al, h2.al, h3.al]⟩
theorem leE_eq {a b : α} : leE e a b = !PySem.W.dataLt (toPy (e b)) (toPy (e a)) := rfl
theorem leE_total (a b : α) : (leE e a b || leE e b a) = true := by
  rw [leE_eq, leE_eq]
  cases h1 : PySem.W.dataLt (toPy (e b)) (toPy (e a)) with
  | false => rfl
  | true =>
    cases h2 : PySem.W.dataLt (toPy (e a)) (toPy (e b)) with
    | false => rfl
    | true =>
      have := lex_trans (O := itemOrd) _ _ _ h1 h2
      rw [lex_irrefl] at this
      cases this
theorem leE_trans (a b c : α) (h1 : leE e a b = true) (h2 : leE e b c = true) : leE e a c = true := by
  rw [leE_eq] at h1 h2 ⊢
  cases h3 : PySem.W.dataLt (toPy (e c)) (toPy (e a)) with
  | false => rfl
  | true =>
    rcases lex_negTrans (O := itemOrd) _ (PySem.W.keyToks (toPy (e b))) _ h3 with h | h
    · rw [show PySem.W.dataLt (toPy (e c)) (toPy (e b)) = true from h] at h2; cases h2
    · rw [show PySem.W.dataLt (toPy (e b)) (toPy (e a)) = true from h] at h1; cases h1
theorem toks_inj {x y : PyData} (h : PySem.W.alike x y = true) (hk : PySem.W.keyToks x = PySem.W.keyToks y) : PyData.eqv x y = true := by
  cases he : PyData.eqv x y with
  | true => rfl
  | false =>
    exfalso
    have h2 := (PySem.W.toks_eqv x y h).2 he
    have a1 := h2 [] [.inl 0]
    have a2 := h2 [] []
    rw [hk] at a1 a2
    rw [PySem.W.lex_pre] at a1 a2
    have b1 : PyProof.Rows.lexLt itemOrd [] [Sum.inl 0] = true := rfl
    have b2 : PyProof.Rows.lexLt itemOrd [] [] = false := rfl
    rw [b1] at a1
    rw [b2] at a2
    rw [← a1] at a2
    cases a2
theorem leE_anti (h : Eq2 f e e) (s : So e) {a b : α} (h1 : leE e a b = true) (h2 : leE e b a = true) : a = b := by
  rw [leE_eq] at h1 h2
  have k1 : PySem.W.dataLt (toPy (e b)) (toPy (e a)) = false := by simpa using h1
  have k2 : PySem.W.dataLt (toPy (e a)) (toPy (e b)) = false := by simpa using h2
  have := toks_inj (s.al a b) (lex_total (O := itemOrd) _ _ k2 k1)
  rw [h.eq] at this
  exact of_decide_eq_true this
theorem srtE_perm (xs : List α) : (srtE e xs).Perm xs := List.mergeSort_perm _ _
theorem srtE_mem {xs : List α} {a : α} : a ∈ srtE e xs ↔ a ∈ xs := (srtE_perm xs).mem_iff
theorem srtE_len {xs : List α} : (srtE e xs).length = xs.length := (srtE_perm xs).length_eq
theorem srtE_sorted (xs : List α) : (srtE e xs).Pairwise fun a b => leE e a b = true := List.pairwise_mergeSort (fun a b c => leE_trans a b c) (fun a b => leE_total a b) xs
theorem sortE_uniq (h : Eq2 f e e) (s : So e) : ∀ {xs ys : List α}, xs.Pairwise (fun a b => leE e a b = true) → ys.Pairwise (fun a b => leE e a b = true) → xs.Perm ys → xs = ys
  | [], ys, _, _, p => by rw [List.nil_perm.mp p]
  | x :: xs, [], _, _, p => absurd p.length_eq (by simp)
  | x :: xs, y :: ys, hx, hy, p => by
    have h1 : x ∈ y :: ys := p.mem_iff.mp List.mem_cons_self
    have h2 : y ∈ x :: xs := p.mem_iff.mpr List.mem_cons_self
    have q : x = y := by
      rcases List.mem_cons.mp h1 with q | h3
      · exact q
      · rcases List.mem_cons.mp h2 with q | h4
        · exact q.symm
        · exact leE_anti h s ((List.pairwise_cons.mp hx).1 y h4) ((List.pairwise_cons.mp hy).1 x h3)
    subst q
    rw [sortE_uniq h s (List.pairwise_cons.mp hx).2 (List.pairwise_cons.mp hy).2 (List.perm_cons x |>.mp p)]
theorem srtE_eq (h : Eq2 f e e) (s : So e) {xs ys : List α} (hs : ys.Pairwise fun a b => leE e a b = true) (p : ys.Perm xs) : srtE e xs = ys := sortE_uniq h s (srtE_sorted xs) hs ((srtE_perm xs).trans p.symm)
theorem srtE_id (h : Eq2 f e e) (s : So e) {xs : List α} (hs : xs.Pairwise fun a b => leE e a b = true) : srtE e xs = xs := srtE_eq h s hs (List.Perm.refl _)
theorem sortD_E (xs : List α) : sortD false (xs.map e) = (srtE e xs).map e := by
  unfold sortD srtE
  rw [← List.map_mergeSort (r := leE e) (s := PySem.W.dataLe false toPy) (f := e) (l := xs)]
  exact fun a _ b _ => rfl
theorem srtOk_E (h : Eq2 f e e) (s : So e) (hf : f ≤ 60) (hs : (∀ a, ∃ x r, toPy (e a) = .tuple (x :: r)) ∨ ∀ a, toPy (e a) ≠ .none ∧ ∀ xs, toPy (e a) ≠ .tuple xs) (xs : List α) : SrtOk (xs.map e) := by
  refine ⟨fun d hd => ?_, ?_, ?_, fun d hd => ?_⟩
  · obtain ⟨i, _, rfl⟩ := List.mem_map.mp hd
    exact (pn_py (h.p1 i)).1
  · intro d hd d' hd'
    rw [List.map_map] at hd hd'
    obtain ⟨i, _, rfl⟩ := List.mem_map.mp hd
    obtain ⟨j, _, rfl⟩ := List.mem_map.mp hd'
    exact s.al i j
  · rcases hs with hs | hs
    · refine .inl fun d hd => ?_
      rw [List.map_map] at hd
      obtain ⟨i, _, rfl⟩ := List.mem_map.mp hd
      exact hs i
    · refine .inr fun d hd => ?_
      rw [List.map_map] at hd
      obtain ⟨i, _, rfl⟩ := List.mem_map.mp hd
      exact hs i
  · obtain ⟨i, _, rfl⟩ := List.mem_map.mp hd
    have := (pn_py (h.p1 i)).2
    omega
theorem srtOk_sub (h : Eq2 f e e) (s : So e) (hf : f ≤ 60) {xs : List α} (hs : ∀ a, a ∈ xs → ∃ x r, toPy (e a) = .tuple (x :: r)) : SrtOk (xs.map e) := by
  refine ⟨fun d hd => ?_, ?_, .inl fun d hd => ?_, fun d hd => ?_⟩
  · obtain ⟨i, _, rfl⟩ := List.mem_map.mp hd
    exact (pn_py (h.p1 i)).1
  · intro d hd d' hd'
    rw [List.map_map] at hd hd'
    obtain ⟨i, _, rfl⟩ := List.mem_map.mp hd
    obtain ⟨j, _, rfl⟩ := List.mem_map.mp hd'
    exact s.al i j
  · rw [List.map_map] at hd
    obtain ⟨i, hi, rfl⟩ := List.mem_map.mp hd
    exact hs i hi
  · obtain ⟨i, _, rfl⟩ := List.mem_map.mp hd
    have := (pn_py (h.p1 i)).2
    omega
theorem gSortedE {fr : Bool} {x : D} {xs : List α} (hx : itemsD S x = some (xs.map e)) (ok : SrtAny (xs.map e)) (hl : xs.length ≤ 16777216) : gSorted fr [x] S = some (mkL fr ((srtE e xs).map e) S) := by
  show (itemsD S x).bind _ = _
  rw [hx, Option.bind_some, chk_pos ⟨ok, by rw [List.length_map]; exact sz_ok hl⟩, sortD_E]
/-- tuples: all of them not empty, or one at most -/
theorem srtAny_E (h : Eq2 f e e) (s : So e) (hf : f ≤ 60) {xs : List α} (hs : xs.length ≤ 1 ∨ ∀ a, a ∈ xs → ∃ x r, toPy (e a) = .tuple (x :: r)) : SrtAny (xs.map e) :=
  hs.elim (fun h1 => .inr (by rw [List.length_map]; exact h1)) fun h2 => .inl (srtOk_sub h s hf h2)
theorem leE_int {a b : Int} : leE D.int a b = decide (a ≤ b) := by
  rw [leE_eq]
  simp only [toPy_int]
  rw [PySem.W.dataLt_int, PySem.W.not_lt_int]
theorem leE_row {a b : List Int} : leE (fun xs : List Int => D.tup (xs.map .int)) a b = decide (a ≤ b) := by
  rw [leE_eq, toPy_tup, toPy_tup, PySem.W.dataLt_tuple]
  have e : ∀ l : List Int, (l.map D.int).map toPy = l.map PyData.int := fun l => by
    rw [List.map_map]
    apply List.map_congr_left
    intro x _
    exact toPy_int
  rw [e, e]
  show (!PySem.W.rowLt (b.map .int) (a.map .int)) = _
  rw [PySem.W.dataLt_ints]
  by_cases h : b < a
  · have h' : ¬ a ≤ b := fun r => List.not_lt.mpr r h
    simp [h, h']
  · have h' : a ≤ b := List.not_lt.mp h
    simp [h, h']
theorem leE_rowD {a b : List Int} : leE (fun xs : List Int => D.tud (xs.map .int)) a b = decide (a ≤ b) := by
  have : leE (fun xs : List Int => D.tud (xs.map .int)) a b = leE (fun xs : List Int => D.tup (xs.map .int)) a b := by
    rw [leE_eq, leE_eq, toPy_tup, toPy_tup, toPy_tud, toPy_tud]
  rw [this, leE_row]
end
end DS
namespace DS
open PySem PySem.Spec PyProof.Rows L2
/-! ### texts of data: from the text back to the data -/
/-- what stands behind a text inside a tuple's text -/
def Dl (r : List Nat) : Prop := r = [] ∨ ∃ t, r = 44 :: t ∨ r = 41 :: t
structure Code {α : Type} (ok : α → Prop) (T : α → List Nat) : Prop where
  un : ∀ x y, ok x → ok y → ∀ r s, Dl r → Dl s → T x ++ r = T y ++ s → x = y ∧ r = s
  hd : ∀ x, ok x → ∃ c t, T x = c :: t ∧ c ≠ 41
theorem split_at {P : Nat → Prop} : ∀ {a b r s : List Nat}, (∀ c, c ∈ a → P c) → (∀ c, c ∈ b → P c) → (∀ c t, r = c :: t → ¬ P c) → (∀ c t, s = c :: t → ¬ P c) → a ++ r = b ++ s → a = b ∧ r = s
  | [], [], r, s, _, _, _, _, h => ⟨rfl, h⟩
  | [], y :: b, r, s, _, hb, hr, _, h => absurd (hb y List.mem_cons_self) (hr y _ h)
  | x :: a, [], r, s, ha, _, _, hs, h => absurd (ha x List.mem_cons_self) (hs x _ h.symm)
  | x :: a, y :: b, r, s, ha, hb, hr, hs, h => by
    obtain ⟨h1, h2⟩ := List.cons.inj h
    obtain ⟨h3, h4⟩ := split_at (fun c hc => ha c (List.mem_cons_of_mem _ hc)) (fun c hc => hb c (List.mem_cons_of_mem _ hc)) hr hs h2
    exact ⟨by rw [h1, h3], h4⟩
def txt (s : Str) : List Nat := s.cps.toList
theorem txt_app (a b : Str) : txt (a ++ b) = txt a ++ txt b := by
  show (a.cps ++ b.cps).toList = _
  rw [Array.toList_append]; rfl
theorem txt_inj {a b : Str} (h : txt a = txt b) : a = b := PySem.W.str_of_cps h
def intT (i : Int) : List Nat := txt (Str.ofString (toString i))
theorem dl_no {r : List Nat} (h : Dl r) : ∀ c t, r = c :: t → ¬ (c ≠ 44 ∧ c ≠ 41) := fun c t e => by
  rcases h with h | ⟨u, h | h⟩
  · rw [h] at e; cases e
  · rw [h] at e; cases e; simp
  · rw [h] at e; cases e; simp
theorem code_int : Code (fun i : Int => 0 ≤ i ∧ i < 10 ^ 10) intT where
  un := fun x y hx hy r s dr ds h => by
    have free : ∀ i : Int, ∀ c, c ∈ intT i → c ≠ 44 ∧ c ≠ 41 := fun i c hc => by
      refine ⟨fun e => ?_, fun e => ?_⟩
      · subst e; exact (intText_free_44 i).mp hc
      · subst e; exact (intText_free_41 i).mp hc
    obtain ⟨h1, h2⟩ := split_at (free x) (free y) (dl_no dr) (dl_no ds) h
    have e := txt_inj h1
    have e1 := PySem.W.KIN.num_reads hx.1 hx.2
    have e2 := PySem.W.KIN.num_reads hy.1 hy.2
    rw [e, e2] at e1
    exact ⟨(Option.some.inj e1).symm, h2⟩
  hd := fun x hx => by
    cases h : intT x with
    | nil =>
      exfalso
      have e1 := PySem.W.KIN.num_reads hx.1 hx.2
      have e2 : Str.ofString (toString x) = Str.ofString "" := txt_inj (h.trans rfl)
      rw [e2] at e1
      have e3 : intText? (Str.ofString "") = none := by decide +kernel
      rw [e3] at e1
      cases e1
    | cons c t => exact ⟨c, t, rfl, fun e => (intText_free_41 x).mp (by rw [← e]; show c ∈ intT x; rw [h]; exact List.mem_cons_self)⟩
/-- behind the first part of a tuple's text -/
def behT : List (List Nat) → List Nat
  | [] => []
  | [x] => x ++ [41]
  | x :: y :: r => x ++ 44 :: 32 :: behT (y :: r)
/-- behind the ( -/
def openT : List (List Nat) → List Nat
  | [] => [41]
  | [x] => x ++ [44, 41]
  | x :: y :: r => x ++ 44 :: 32 :: behT (y :: r)
theorem join_txt : ∀ ts : List Str, ts ≠ [] → txt (Str.join ", " ts) ++ [41] = behT (ts.map txt)
  | [], h => absurd rfl h
  | [x], _ => rfl
  | x :: y :: r, _ => by
    have e : Str.join ", " (x :: y :: r) = x ++ ", " ++ Str.join ", " (y :: r) := rfl
    rw [e, txt_app, txt_app, List.append_assoc, List.append_assoc, join_txt (y :: r) (by simp)]
    have : txt (", " : Str) = [44, 32] := by decide +kernel
    rw [this]
    rfl
theorem tuple_txt (ts : List Str) : txt (tupleText ts) = 40 :: openT (ts.map txt) := by
  unfold tupleText
  rw [txt_app, txt_app]
  have e1 : txt ("(" : Str) = [40] := by decide +kernel
  rw [e1]
  match ts with
  | [] => decide +kernel
  | [x] =>
    have e2 : (([x] : List Str).length == 1) = true := rfl
    rw [e2]
    have : txt ((if true = true then ",)" else ")" : String) : Str) = [44, 41] := by decide +kernel
    rw [this]
    rfl
  | x :: y :: r =>
    have e2 : ((x :: y :: r).length == 1) = false := by simp
    rw [e2]
    have : txt ((if false = true then ",)" else ")" : String) : Str) = [41] := by decide +kernel
    rw [this, List.append_assoc, join_txt _ (by simp)]
    rfl
section
variable {α : Type} {ok : α → Prop} {T : α → List Nat}
theorem beh_un (h : Code ok T) : ∀ (xs ys : List α), xs ≠ [] → ys ≠ [] → (∀ x, x ∈ xs → ok x) → (∀ y, y ∈ ys → ok y) → ∀ r s, behT (xs.map T) ++ r = behT (ys.map T) ++ s → xs = ys ∧ r = s
  | [], _, h0, _, _, _, _, _, _ => absurd rfl h0
  | _, [], _, h0, _, _, _, _, _ => absurd rfl h0
  | [x], [y], _, _, hx, hy, r, s, e => by
    have e : T x ++ [41] ++ r = T y ++ [41] ++ s := e
    rw [List.append_assoc, List.append_assoc] at e
    obtain ⟨h1, h2⟩ := h.un x y (hx x List.mem_cons_self) (hy y List.mem_cons_self) _ _ (.inr ⟨r, .inr rfl⟩) (.inr ⟨s, .inr rfl⟩) e
    exact ⟨by rw [h1], (List.cons.inj h2).2⟩
  | [x], y :: y2 :: ys, _, _, hx, hy, r, s, e => by
    have e : T x ++ [41] ++ r = (T y ++ 44 :: 32 :: behT ((y2 :: ys).map T)) ++ s := e
    rw [List.append_assoc, List.append_assoc] at e
    obtain ⟨h1, h2⟩ := h.un x y (hx x List.mem_cons_self) (hy y List.mem_cons_self) _ _ (.inr ⟨r, .inr rfl⟩) (.inr ⟨_, .inl rfl⟩) e
    cases h2
  | x :: x2 :: xs, [y], _, _, hx, hy, r, s, e => by
    have e : (T x ++ 44 :: 32 :: behT ((x2 :: xs).map T)) ++ r = T y ++ [41] ++ s := e
    rw [List.append_assoc, List.append_assoc] at e
    obtain ⟨h1, h2⟩ := h.un x y (hx x List.mem_cons_self) (hy y List.mem_cons_self) _ _ (.inr ⟨_, .inl rfl⟩) (.inr ⟨s, .inr rfl⟩) e
    cases h2
  | x :: x2 :: xs, y :: y2 :: ys, _, _, hx, hy, r, s, e => by
    have e : (T x ++ 44 :: 32 :: behT ((x2 :: xs).map T)) ++ r = (T y ++ 44 :: 32 :: behT ((y2 :: ys).map T)) ++ s := e
    rw [List.append_assoc, List.append_assoc] at e
    obtain ⟨h1, h2⟩ := h.un x y (hx x List.mem_cons_self) (hy y List.mem_cons_self) _ _ (.inr ⟨_, .inl rfl⟩) (.inr ⟨_, .inl rfl⟩) e
    have h3 : behT ((x2 :: xs).map T) ++ r = behT ((y2 :: ys).map T) ++ s := by
      have := (List.cons.inj (List.cons.inj h2).2).2
      exact this
    obtain ⟨h4, h5⟩ := beh_un h (x2 :: xs) (y2 :: ys) (by simp) (by simp) (fun z hz => hx z (List.mem_cons_of_mem _ hz)) (fun z hz => hy z (List.mem_cons_of_mem _ hz)) r s h3
    exact ⟨by rw [h1, h4], h5⟩
theorem open_un (h : Code ok T) (xs ys : List α) (hx : ∀ x, x ∈ xs → ok x) (hy : ∀ y, y ∈ ys → ok y) (r s : List Nat) (e : openT (xs.map T) ++ r = openT (ys.map T) ++ s) : xs = ys ∧ r = s := by
  match xs, ys with
  | [], [] => exact ⟨rfl, (List.cons.inj e).2⟩
  | [], y :: ys =>
    exfalso
    obtain ⟨c, t, h1, h2⟩ := h.hd y (hy y List.mem_cons_self)
    cases ys with
    | nil =>
      have e : 41 :: r = (T y ++ [44, 41]) ++ s := e
      rw [h1] at e
      exact h2 (List.cons.inj e).1.symm
    | cons y2 ys =>
      have e : 41 :: r = (T y ++ 44 :: 32 :: behT ((y2 :: ys).map T)) ++ s := e
      rw [h1] at e
      exact h2 (List.cons.inj e).1.symm
  | x :: xs, [] =>
    exfalso
    obtain ⟨c, t, h1, h2⟩ := h.hd x (hx x List.mem_cons_self)
    cases xs with
    | nil =>
      have e : (T x ++ [44, 41]) ++ r = 41 :: s := e
      rw [h1] at e
      exact h2 (List.cons.inj e).1
    | cons x2 xs =>
      have e : (T x ++ 44 :: 32 :: behT ((x2 :: xs).map T)) ++ r = 41 :: s := e
      rw [h1] at e
      exact h2 (List.cons.inj e).1
  | [x], [y] =>
    have e : T x ++ [44, 41] ++ r = T y ++ [44, 41] ++ s := e
    rw [List.append_assoc, List.append_assoc] at e
    obtain ⟨h1, h2⟩ := h.un x y (hx x List.mem_cons_self) (hy y List.mem_cons_self) _ _ (.inr ⟨_, .inl rfl⟩) (.inr ⟨_, .inl rfl⟩) e
    exact ⟨by rw [h1], (List.cons.inj (List.cons.inj h2).2).2⟩
  | [x], y :: y2 :: ys =>
    exfalso
    have e : T x ++ [44, 41] ++ r = (T y ++ 44 :: 32 :: behT ((y2 :: ys).map T)) ++ s := e
    rw [List.append_assoc, List.append_assoc] at e
    obtain ⟨h1, h2⟩ := h.un x y (hx x List.mem_cons_self) (hy y List.mem_cons_self) _ _ (.inr ⟨_, .inl rfl⟩) (.inr ⟨_, .inl rfl⟩) e
    exact absurd (List.cons.inj (List.cons.inj h2).2).1 (by decide)
  | x :: x2 :: xs, [y] =>
    exfalso
    have e : (T x ++ 44 :: 32 :: behT ((x2 :: xs).map T)) ++ r = T y ++ [44, 41] ++ s := e
    rw [List.append_assoc, List.append_assoc] at e
    obtain ⟨h1, h2⟩ := h.un x y (hx x List.mem_cons_self) (hy y List.mem_cons_self) _ _ (.inr ⟨_, .inl rfl⟩) (.inr ⟨_, .inl rfl⟩) e
    exact absurd (List.cons.inj (List.cons.inj h2).2).1 (by decide)
  | x :: x2 :: xs, y :: y2 :: ys => exact beh_un h (x :: x2 :: xs) (y :: y2 :: ys) (by simp) (by simp) hx hy r s e
theorem code_tup (h : Code ok T) : Code (fun xs : List α => ∀ x, x ∈ xs → ok x) (fun xs => 40 :: openT (xs.map T)) where
  un := fun xs ys hx hy r s _ _ e => open_un h xs ys hx hy r s (List.cons.inj e).2
  hd := fun xs _ => ⟨40, _, rfl, by decide⟩
end
/-- the text of a tuple of such, from the texts of its parts -/
theorem shown_map {α : Type} {T : α → List Nat} {e : α → PyData} (he : ∀ a, txt (e a).shown = T a) (xs : List α) : txt (PyData.shown (.tuple (xs.map e))) = 40 :: openT (xs.map T) := by
  unfold PyData.shown
  have e1 : ∀ xs : List PyData, PyData.shownAll xs = xs.map PyData.shown := fun xs => by
    induction xs with
    | nil => unfold PyData.shownAll; rfl
    | cons x xs ih => unfold PyData.shownAll; rw [ih]; rfl
  rw [tuple_txt, e1, List.map_map, List.map_map]
  congr 2
  apply List.map_congr_left
  intro a _
  exact he a
theorem shown_int (i : Int) : txt (PyData.shown (.int i)) = intT i := by unfold PyData.shown; rfl
end DS
set_option maxHeartbeats 0
namespace K07
open PySem PySem.Spec PyProof.Rows L2 DS
def tp (i : Nat) : Stmt := PySem.Challenge.pw_seenorstruck_k07_rows_or_crowds.main.body.getD i (.Pass ⟨0, 0, 0, 0⟩)
abbrev s__law_open_cells : Stmt := tp 18
abbrev s__law_pick : Stmt := tp 19
abbrev s__law_any_order : Stmt := tp 20
abbrev s__law_draw_stand : Stmt := tp 21
abbrev s__law_draw_lot : Stmt := tp 22
abbrev s__law_draw_counts : Stmt := tp 23
abbrev s__law_draw_rule : Stmt := tp 24
abbrev s__law_low : Stmt := tp 25
abbrev s__law_high : Stmt := tp 26
abbrev s__law_rows : Stmt := tp 27
abbrev s_lot_of : Stmt := tp 1
abbrev s_told_bounds : Stmt := tp 3
abbrev s_high_of : Stmt := tp 4
abbrev s_roomed : Stmt := tp 5
abbrev s_chained : Stmt := tp 7
abbrev s_go_on : Stmt := tp 6
abbrev s_placed : Stmt := tp 8
abbrev s_handed : Stmt := tp 10
abbrev s_give_one : Stmt := tp 9
abbrev s_given_lows : Stmt := tp 11
abbrev s_put_together : Stmt := tp 12
abbrev s_answered : Stmt := tp 13
abbrev s_crowd_none : Stmt := tp 15
abbrev s_crowd_paper : Stmt := tp 14
abbrev s_struck_crowds : Stmt := tp 16
abbrev s__law_values : Stmt := tp 28
abbrev s__law_is_crowd : Stmt := tp 29
abbrev s__law_is_want : Stmt := tp 30
abbrev s__law_is_up : Stmt := tp 31
abbrev s__law_paper_fault : Stmt := tp 32
abbrev s__law_told_right : Stmt := tp 33
abbrev s_law : Stmt := tp 34
/-! ### the defs as plain functions -/
noncomputable def B__law_open_cells : SF := sSeq (sSet 1 (eC (.int 11))) (sSeq (sFor (iSeq (eVar 0)) (gfName 2) (sSet 1 (eOp2 gMod (eFun (gInt) (aCons (eOp2 gAdd (eOp2 gAdd (eOp2 gMul (eVar 1) (eC (.int 69069))) (eOp2 gMul (eVar 2) (eC (.int 31)))) (eC (.int 5))) (aNil))) (eC (.int 2147483629)))) [2]) (sSeq (sSet 3 (eFro (lcF [2] (iSeq (eVar 0)) (gfName 2) (bYes) (eFun (gAbs) (aCons (eVar 2) (aNil)))))) (sRet (eDisp [(eC (.str "cells"), eRev true (eVar 3)), (eC (.str "left"), eC (.int 1)), (eC (.str "mixed"), eVar 1), (eC (.str "turn"), eC (.int 0))]))))
noncomputable def F__law_open_cells : FF := fnF 1 4 false B__law_open_cells
noncomputable def B__law_pick : SF := sSeq (sIf (bVal (eOp2 gLt (eVar 1) (eC (.int 2)))) (sRet (eC (.int 0))) (sNx)) (sSeq (sSet 2 (eOp2 gIx (eVar 0) (eC (.str "cells")))) (sSeq (sWhile (bAnd (bVal (eOp2 gLt (eOp2 gIx (eVar 0) (eC (.str "left"))) (eC (.int 2)))) (bVal (eOp2 gGt (eFun (gLen) (aCons (eVar 2) (aNil))) (eC (.int 0))))) (sPut (eMet mPop (eVar 2) aNil) (eVar 0) (eC (.str "left"))) []) (sSeq (sSet 3 (eOp2 gIx (eVar 0) (eC (.str "left")))) (sSeq (sIf (bVal (eOp2 gGt (eVar 3) (eC (.int 1)))) (sSeq (sPut (eOp2 gFdiv (eVar 3) (eVar 1)) (eVar 0) (eC (.str "left"))) (sRet (eOp2 gMod (eFun (gInt) (aCons (eVar 3) (aNil))) (eVar 1)))) (sNx)) (sSeq (sPut (eOp2 gAdd (eOp2 gIx (eVar 0) (eC (.str "turn"))) (eC (.int 1))) (eVar 0) (eC (.str "turn"))) (sSeq (sSet 4 (eOp2 gIx (eVar 0) (eC (.str "turn")))) (sSeq (sSet 5 (eOp2 gMod (eFun (gInt) (aCons (eOp2 gAdd (eOp2 gIx (eVar 0) (eC (.str "mixed"))) (eOp2 gMul (eVar 4) (eC (.int 104729)))) (aNil))) (eC (.int 998244353)))) (sSeq (sSet 5 (eOp2 gMod (eFun (gInt) (aCons (eOp2 gAdd (eOp2 gMul (eVar 5) (eVar 5)) (eOp2 gMul (eVar 4) (eC (.int 17)))) (aNil))) (eC (.int 2147483647)))) (sRet (eOp2 gMod (eFun (gInt) (aCons (eOp2 gFdiv (eVar 5) (eC (.int 16))) (aNil))) (eVar 1)))))))))))
noncomputable def F__law_pick : FF := fnF 2 6 true B__law_pick
noncomputable def B__law_any_order : SF := sSeq (sSet 2 (eFun (gList true) (aCons (eVar 1) (aNil)))) (sRet (eFro (lcF [3] (iRng1 (aCons (eFun (gLen) (aCons (eVar 2) (aNil))) (aNil))) (gfName 3) (bYes) (eMet mPopAt (eVar 2) (aCons (eFun (F__law_pick) (aCons (eVar 0) (aCons (eFun (gLen) (aCons (eVar 2) (aNil))) (aNil)))) (aNil))))))
noncomputable def F__law_any_order : FF := fnF 2 4 true B__law_any_order
noncomputable def B__law_draw_stand : SF := sSeq (sAsg (eTup (aCons (eLstM (aNil)) (aCons (eFun (gSorted false) (aCons (eSl false (eFun (F__law_any_order) (aCons (eVar 0) (aCons (eLst (aCons (eC (.int 0)) (aCons (eC (.int 1)) (aCons (eC (.int 2)) (aCons (eC (.int 3)) (aCons (eC (.int 5)) (aCons (eC (.int 9)) (aCons (eC (.int 40)) (aCons (eC (.int 63)) (aNil)))))))))) (aNil)))) (oNone) (oSome (eOp2 gAdd (eC (.int 2)) (eFun (F__law_pick) (aCons (eVar 0) (aCons (eC (.int 5)) (aNil))))))) (aNil))) (aNil)))) (gfTupR [3, 4])) (sSeq (sFor (iRng1 (aCons (eOp2 gAdd (eC (.int 1)) (eFun (F__law_pick) (aCons (eVar 0) (aCons (eC (.int 8)) (aNil))))) (aNil))) (gfName 2) (sSeq (sSet 5 (eIf (bVal (eOp2 gGt (eFun (F__law_pick) (aCons (eVar 0) (aCons (eC (.int 30)) (aNil)))) (eC (.int 0)))) (eOp2 gAdd (eC (.int 1)) (eFun (F__law_pick) (aCons (eVar 0) (aCons (eVar 1) (aNil))))) (eC (.int 0)))) (sExp (eMet mAppend (eVar 3) (aCons (eFun (gTuple) (aCons (eFun (gSorted false) (aCons (eSl false (eFun (F__law_any_order) (aCons (eVar 0) (aCons (eVar 4) (aNil)))) (oNone) (oSome (eVar 5))) (aNil))) (aNil))) (aNil))))) [2, 5]) (sRet (eFun (gTuple) (aCons (eVar 3) (aNil)))))
noncomputable def F__law_draw_stand : FF := fnF 2 6 true B__law_draw_stand
noncomputable def B__law_draw_lot : SF := sSeq (sSet 3 (eOp2 gAdd (eC (.int 1)) (eFun (F__law_pick) (aCons (eVar 0) (aCons (eFun (gMin2) (aCons (eVar 2) (aCons (eFun (gLen) (aCons (eVar 1) (aNil))) (aNil)))) (aNil)))))) (sRet (eFun gTupleD (aCons (eFun (gSorted false) (aCons (eSl false (eFun (F__law_any_order) (aCons (eVar 0) (aCons (eLRg false (rgF1 (eFun (gLen) (aCons (eVar 1) (aNil))))) (aNil)))) (oNone) (oSome (eVar 3))) (aNil))) (aNil))))
noncomputable def F__law_draw_lot : FF := fnF 3 4 true B__law_draw_lot
noncomputable def B__law_draw_counts : SF := sSeq (sSet 3 (eLst (aNil))) (sSeq (sFor (iSeq (eVar 2)) (gfName 4) (sSet 3 (eOp2 gAdd (eVar 3) (eFro (lcF [6] (iSeq (eOp2 gIx (eVar 1) (eVar 4))) (gfName 6) (bVal (eOp2 (inD true) (eVar 6) (eVar 3))) (eVar 6))))) [4]) (sSeq (sSet 5 (eFro (lcF [4] (iSeq (eVar 2)) (gfName 4) (bVal (eOp2 gNe (eOp2 gIx (eVar 1) (eVar 4)) (eTup (aNil)))) (eOp2 gIx (eFun (F__law_any_order) (aCons (eVar 0) (aCons (eFun (gList false) (aCons (eOp2 gIx (eVar 1) (eVar 4)) (aNil))) (aNil)))) (eC (.int 0)))))) (sSeq (sAsg (eTup (aCons (eLstM (aNil)) (aCons (eOp2 gEq (eFun (F__law_pick) (aCons (eVar 0) (aCons (eC (.int 2)) (aNil)))) (eC (.int 0))) (aNil)))) (gfTupR [7, 8])) (sSeq (sFor (iSeq (eFun (gSorted false) (aCons (eOp2 gAdd (eVar 3) (eOp2 gMul (eLst (aCons (eC (.int 7)) (aNil))) (eFun (gInt) (aCons (eOp2 gEq (eFun (F__law_pick) (aCons (eVar 0) (aCons (eC (.int 6)) (aNil)))) (eC (.int 0))) (aNil))))) (aNil)))) (gfName 6) (sSeq (sSet 9 (eCntL (eVar 5) (aCons (eVar 6) (aNil)))) (sSeq (sSet 10 (eFun (gMax2) (aCons (eC (.int 0)) (aCons (eOp2 gAdd (eOp2 gSub (eVar 9) (eOp2 gIx (eLst (aCons (eC (.int 0)) (aCons (eC (.int 0)) (aCons (eC (.int 1)) (aCons (eC (.int 9)) (aNil)))))) (eFun (F__law_pick) (aCons (eVar 0) (aCons (eC (.int 4)) (aNil)))))) (eFun (gInt) (aCons (eOp2 gEq (eFun (F__law_pick) (aCons (eVar 0) (aCons (eC (.int 12)) (aNil)))) (eC (.int 0))) (aNil)))) (aNil))))) (sSeq (sSet 11 (eIf (bAnd (bVal (eVar 8)) (bVal (eOp2 gEq (eFun (F__law_pick) (aCons (eVar 0) (aCons (eC (.int 2)) (aNil)))) (eC (.int 0))))) (eVar 10) (eOp2 gAdd (eFun (gMax2) (aCons (eVar 10) (aCons (eVar 9) (aNil)))) (eOp2 gIx (eLst (aCons (eC (.int 0)) (aCons (eC (.int 0)) (aCons (eC (.int 0)) (aCons (eC (.int 1)) (aCons (eC (.int 5)) (aNil))))))) (eFun (F__law_pick) (aCons (eVar 0) (aCons (eC (.int 5)) (aNil)))))))) (sIf (bVal (eOp2 gGt (eFun (F__law_pick) (aCons (eVar 0) (aCons (eC (.int 5)) (aNil)))) (eC (.int 0)))) (sExp (eMet mAppend (eVar 7) (aCons (eTup (aCons (eVar 6) (aCons (eVar 10) (aCons (eVar 11) (aNil))))) (aNil)))) (sNx))))) [6, 9, 10, 11]) (sRet (eFun (gTuple) (aCons (eVar 7) (aNil))))))))
noncomputable def F__law_draw_counts : FF := fnF 3 12 true B__law_draw_counts
noncomputable def B__law_draw_rule : SF := sSeq (sSet 3 (eFun (F__law_draw_lot) (aCons (eVar 0) (aCons (eVar 1) (aCons (eVar 2) (aNil)))))) (sSeq (sIf (bVal (eOp2 gEq (eFun (F__law_pick) (aCons (eVar 0) (aCons (eC (.int 2)) (aNil)))) (eC (.int 0)))) (sRet (eTup (aCons (eC (.str "unlike")) (aCons (eVar 3) (aNil))))) (sNx)) (sRet (eTup (aCons (eC (.str "counts")) (aCons (eVar 3) (aCons (eFun (F__law_draw_counts) (aCons (eVar 0) (aCons (eVar 1) (aCons (eVar 3) (aNil))))) (aNil)))))))
noncomputable def F__law_draw_rule : FF := fnF 3 4 true B__law_draw_rule
noncomputable def B__law_low : SF := sRet (eIf (bVal (eOp2 gEq (eOp2 gIx (eVar 0) (eC (.int 0))) (eC (.str "counts")))) (eFun (gSum) (aCons (eFro (lcF [2] (iSeq (eOp2 gIx (eVar 0) (eC (.int 2)))) (gfName 2) (bVal (eOp2 gEq (eOp2 gIx (eVar 2) (eC (.int 0))) (eVar 1))) (eOp2 gIx (eVar 2) (eC (.int 1))))) (aNil))) (eC (.int 0)))
noncomputable def F__law_low : FF := fnF 2 3 true B__law_low
noncomputable def B__law_high : SF := sSeq (sIf (bVal (eOp2 gEq (eOp2 gIx (eVar 0) (eC (.int 0))) (eC (.str "unlike")))) (sRet (eC (.int 1))) (sNx)) (sSeq (sSet 2 (eFro (lcF [3] (iSeq (eOp2 gIx (eVar 0) (eC (.int 2)))) (gfName 3) (bVal (eOp2 gEq (eOp2 gIx (eVar 3) (eC (.int 0))) (eVar 1))) (eOp2 gIx (eVar 3) (eC (.int 2)))))) (sRet (eIf (bVal (eOp2 gNe (eVar 2) (eLst (aNil)))) (eOp2 gIx (eVar 2) (eC (.int 0))) (eOp2 gPow (eC (.int 10)) (eC (.int 9))))))
noncomputable def F__law_high : FF := fnF 2 4 true B__law_high
noncomputable def B__law_rows : SF := sSeq (sSet 2 (eLst (aCons (eTupD (aNil)) (aNil)))) (sSeq (sFor (iSeq (eOp2 gIx (eVar 1) (eC (.int 1)))) (gfName 3) (sSeq (sSet 5 (eLst (aNil))) (sSeq (sFor (iSeq (eVar 2)) (gfName 6) (sSet 5 (eOp2 gAdd (eVar 5) (eFro (lcF [8] (iSeq (eOp2 gIx (eVar 0) (eVar 3))) (gfName 8) (bVal (eOp2 gLt (eMetD gCntT (eVar 6) (aCons (eVar 8) (aNil))) (eFun (F__law_high) (aCons (eVar 1) (aCons (eVar 8) (aNil)))))) (eOp2 gAddD (eVar 6) (eTupD (aCons (eVar 8) (aNil)))))))) [6]) (sSet 2 (eVar 5)))) [3, 5, 6]) (sSeq (sSet 4 (eIf (bVal (eOp2 gEq (eOp2 gIx (eVar 1) (eC (.int 0))) (eC (.str "counts")))) (eFro (lcF [7] (iSeq (eOp2 gIx (eVar 1) (eC (.int 2)))) (gfName 7) (bYes) (eOp2 gIx (eVar 7) (eC (.int 0))))) (eLst (aNil)))) (sRet (eFro (lcF [6] (iSeq (eVar 2)) (gfName 6) (bVal (eFun (gAll) (aCons (eFro (lcF [8] (iSeq (eVar 4)) (gfName 8) (bYes) (eOp2 gGe (eMetD gCntT (eVar 6) (aCons (eVar 8) (aNil))) (eFun (F__law_low) (aCons (eVar 1) (aCons (eVar 8) (aNil))))))) (aNil)))) (eVar 6))))))
noncomputable def F__law_rows : FF := fnF 2 9 true B__law_rows
noncomputable def B_lot_of : SF := sRet (eFun gTupleD (aCons (eFun (gSorted false) (aCons (eOp2 gIx (eVar 0) (eC (.int 1))) (aNil))) (aNil)))
noncomputable def F_lot_of : FF := fnF 1 1 true B_lot_of
noncomputable def B_told_bounds : SF := sSeq (sIf (bVal (eOp2 gEq (eOp2 gIx (eVar 0) (eC (.int 0))) (eC (.str "unlike")))) (sRet (eDicN)) (sNx)) (sRet (eDc (dcF [1, 2, 3] (iSeq (eOp2 gIx (eVar 0) (eC (.int 2)))) (gfTup [1, 2, 3]) (bYes) (eVar 1) (eTup (aCons (eVar 2) (aCons (eVar 3) (aNil)))))))
noncomputable def F_told_bounds : FF := fnF 1 4 false B_told_bounds
noncomputable def B_high_of : SF := sSeq (sIf (bVal (eOp2 gEq (eOp2 gIx (eVar 0) (eC (.int 0))) (eC (.str "unlike")))) (sRet (eC (.int 1))) (sNx)) (sRet (eOp2 gIx (eDGet (eFun (F_told_bounds) (aCons (eVar 0) (aNil))) (eVar 1) (eTup (aCons (eC (.int 0)) (aCons (eC .non) (aNil))))) (eC (.int 1))))
noncomputable def F_high_of : FF := fnF 2 2 true B_high_of
noncomputable def B_roomed : SF := sSeq (sSet 3 (eFun (F_high_of) (aCons (eVar 0) (aCons (eVar 2) (aNil))))) (sRet (eOr (eOp2 gIsN (eVar 3) (eC .non)) (eOp2 gLt (eFun (gLen) (aCons (eLockV 1 (eFro (lcF [4] (iKeyL (eVar 1)) (gfName 4) (bVal (eOp2 gEq (eOp2 gIx (eVar 1) (eVar 4)) (eVar 2))) (eVar 4)))) (aNil))) (eVar 3))))
noncomputable def F_roomed : FF := fnF 3 5 true B_roomed
noncomputable def B_chained : SF := sSeq (sSet 4 (eFun gDictC (aCons (eVar 0) (aNil)))) (sSeq (sWhile (bVal (eOp2 gNotN (eVar 2) (eC .non))) (sSeq (sAsg (eOp2 gIx (eVar 1) (eVar 2)) (gfTup [5, 6, 7])) (sSeq (sPut (eVar 3) (eVar 4) (eVar 5)) (sAsg (eTup (aCons (eVar 6) (aCons (eVar 7) (aNil)))) (gfTupR [2, 3])))) [5, 6, 7]) (sRet (eVar 4)))
noncomputable def F_chained : FF := fnF 4 8 false B_chained
noncomputable def B_go_on : SF := sSeq (sAsg (eTup (aCons (eLst (aCons (eTup (aCons (eVar 3) (aCons (eC .non) (aCons (eC .non) (aNil))))) (aNil))) (aCons (eLstM (aNil)) (aCons (eC (.int 0)) (aNil))))) (gfTup [4, 5, 6])) (sSeq (sWhile (bVal (eOp2 gLt (eVar 6) (eFun (gLen) (aCons (eVar 4) (aNil))))) (sSeq (sFor (iSeq (eOp2 gIx (eVar 1) (eOp2 gIx (eOp2 gIx (eVar 4) (eVar 6)) (eC (.int 0))))) (gfName 7) (sSeq (sIf (bVal (eFun (F_roomed) (aCons (eVar 0) (aCons (eVar 2) (aCons (eVar 7) (aNil)))))) (sRet (eTup (aCons (eFun (F_chained) (aCons (eVar 2) (aCons (eVar 4) (aCons (eVar 6) (aCons (eVar 7) (aNil)))))) (aCons (eC .non) (aNil))))) (sNx)) (sIf (bVal (eOp2 (inD true) (eVar 7) (eVar 5))) (sSeq (sExp (eMet mAppend (eVar 5) (aCons (eVar 7) (aNil)))) (sSet 4 (eOp2 gAdd (eVar 4) (eLockV 2 (eFro (lcF [11] (iKeyL (eVar 2)) (gfName 11) (bVal (eOp2 gEq (eOp2 gIx (eVar 2) (eVar 11)) (eVar 7))) (eTup (aCons (eVar 11) (aCons (eVar 6) (aCons (eVar 7) (aNil))))))))))) (sNx))) [7]) (sSet 6 (eOp2 gAdd (eVar 6) (eC (.int 1))))) [7]) (sRet (eTup (aCons (eC .non) (aCons (eFro (lcF [8, 9, 10] (iSeq (eVar 4)) (gfTup [8, 9, 10]) (bYes) (eVar 8))) (aNil))))))
noncomputable def F_go_on : FF := fnF 4 12 false B_go_on
noncomputable def B_placed : SF := sSeq (sSet 2 (eDicN)) (sSeq (sLockV 1 (sFor (iKeyL (eVar 1)) (gfName 3) (sSeq (sAsg (eFun (F_go_on) (aCons (eVar 0) (aCons (eVar 1) (aCons (eVar 2) (aCons (eVar 3) (aNil)))))) (gfTup [4, 5])) (sSeq (sIf (bVal (eOp2 gIsR (eVar 4) (eC .non))) (sRet (eTup (aCons (eC .non) (aCons (eVar 5) (aNil))))) (sNx)) (sSet 2 (eVar 4)))) [3, 4, 5])) (sRet (eTup (aCons (eVar 2) (aCons (eC .non) (aNil))))))
noncomputable def F_placed : FF := fnF 2 6 false B_placed
noncomputable def B_handed : SF := sSeq (sSet 4 (eFun gDictC (aCons (eVar 0) (aNil)))) (sSeq (sWhile (bVal (eOp2 gNotN (eVar 2) (eC .non))) (sSeq (sAsg (eOp2 gIx (eVar 1) (eVar 2)) (gfTup [5, 6, 7])) (sSeq (sPut (eVar 5) (eVar 4) (eVar 3)) (sAsg (eTup (aCons (eVar 6) (aCons (eVar 7) (aNil)))) (gfTupR [2, 3])))) [5, 6, 7]) (sRet (eVar 4)))
noncomputable def F_handed : FF := fnF 4 8 false B_handed
noncomputable def B_give_one : SF := sSeq (sAsg (eTup (aCons (eLst (aCons (eTup (aCons (eVar 2) (aCons (eC .non) (aCons (eC .non) (aNil))))) (aNil))) (aCons (eLstM (aNil)) (aCons (eC (.int 0)) (aNil))))) (gfTupR [3, 4, 5])) (sSeq (sWhile (bVal (eOp2 gLt (eVar 5) (eFun (gLen) (aCons (eVar 3) (aNil))))) (sSeq (sLockV 0 (sFor (iKeyL (eVar 0)) (gfName 6) (sIf (bAnd (bVal (eOp2 (inD false) (eOp2 gIx (eOp2 gIx (eVar 3) (eVar 5)) (eC (.int 0))) (eOp2 gIx (eVar 0) (eVar 6)))) (bVal (eOp2 (inD true) (eVar 6) (eVar 4)))) (sSeq (sExp (eMet mAppend (eVar 4) (aCons (eVar 6) (aNil)))) (sSeq (sIf (bVal (eOp2 (inD true) (eVar 6) (eVar 1))) (sRet (eTup (aCons (eFun (F_handed) (aCons (eVar 1) (aCons (eVar 3) (aCons (eVar 5) (aCons (eVar 6) (aNil)))))) (aCons (eC .non) (aNil))))) (sNx)) (sIf (bVal (eOp2 (inD true) (eOp2 gIx (eVar 1) (eVar 6)) (eFro (lcF [10] (iSeq (eVar 3)) (gfName 10) (bYes) (eOp2 gIx (eVar 10) (eC (.int 0))))))) (sSet 3 (eOp2 gAdd (eVar 3) (eLst (aCons (eTup (aCons (eOp2 gIx (eVar 1) (eVar 6)) (aCons (eVar 5) (aCons (eVar 6) (aNil))))) (aNil))))) (sNx)))) (sNx)) [6])) (sSet 5 (eOp2 gAdd (eVar 5) (eC (.int 1))))) [6]) (sRet (eTup (aCons (eC .non) (aCons (eFun (gSorted false) (aCons (eFro (lcF [7, 8, 9] (iSeq (eVar 3)) (gfTup [7, 8, 9]) (bYes) (eVar 7))) (aNil))) (aNil))))))
noncomputable def F_give_one : FF := fnF 3 11 false B_give_one
noncomputable def B_given_lows : SF := sSeq (sSet 2 (eDicN)) (sSeq (sFor (iSeq (eItemsS (eFun (F_told_bounds) (aCons (eVar 0) (aNil))))) (gfTupG [gn 3, gt [5, 6]]) (sFor (iRng1 (aCons (eVar 5) (aNil))) (gfName 4) (sSeq (sAsg (eFun (F_give_one) (aCons (eVar 1) (aCons (eVar 2) (aCons (eVar 3) (aNil))))) (gfTup [7, 8])) (sSeq (sIf (bVal (eOp2 gIsR (eVar 7) (eC .non))) (sRet (eTup (aCons (eC .non) (aCons (eVar 8) (aNil))))) (sNx)) (sSet 2 (eVar 7)))) [4, 7, 8]) [3, 4, 5, 6, 7, 8]) (sRet (eTup (aCons (eVar 2) (aCons (eC .non) (aNil))))))
noncomputable def F_given_lows : FF := fnF 2 9 false B_given_lows
noncomputable def B_put_together : SF := sSeq (sAsg (eTup (aCons (eFun gDictC (aCons (eVar 1) (aNil))) (aCons (eFun (F_told_bounds) (aCons (eVar 0) (aNil))) (aNil)))) (gfTup [4, 5])) (sSeq (sFor (iSeq (eFun (gSorted false) (aCons (eVar 5) (aNil)))) (gfName 3) (sWhile (bVal (eOp2 gLt (eFun (gLen) (aCons (eLockV 4 (eFro (lcF [7] (iKeyL (eVar 4)) (gfName 7) (bVal (eOp2 gEq (eOp2 gIx (eVar 4) (eVar 7)) (eVar 3))) (eVar 7)))) (aNil))) (eOp2 gIx (eOp2 gIx (eVar 5) (eVar 3)) (eC (.int 0))))) (sSeq (sSet 6 (eVar 3)) (sWhile (bVal (eOp2 gNotN (eVar 6) (eC .non))) (sSeq (sSet 7 (eOp2 gIx (eLockV 2 (eFro (lcF [10] (iKeyL (eVar 2)) (gfName 10) (bAnd (bVal (eOp2 gEq (eOp2 gIx (eVar 2) (eVar 10)) (eVar 6))) (bVal (eOp2 gNe (eOp2 gIx (eVar 4) (eVar 10)) (eVar 6)))) (eVar 10)))) (eC (.int 0)))) (sSeq (sSet 8 (eOp2 gIx (eVar 4) (eVar 7))) (sSeq (sPut (eVar 6) (eVar 4) (eVar 7)) (sSeq (sSet 9 (eFun (gLen) (aCons (eLockV 4 (eFro (lcF [10] (iKeyL (eVar 4)) (gfName 10) (bVal (eOp2 gEq (eOp2 gIx (eVar 4) (eVar 10)) (eVar 8))) (eVar 10)))) (aNil)))) (sSet 6 (eIf (bAnd (bVal (eOp2 (inD false) (eVar 8) (eVar 5))) (bVal (eOp2 gLt (eVar 9) (eOp2 gIx (eOp2 gIx (eVar 5) (eVar 8)) (eC (.int 0)))))) (eVar 8) (eC .non))))))) [7, 8, 9])) [6, 7, 8, 9]) [3, 6, 7, 8, 9]) (sRet (eVar 4)))
noncomputable def F_put_together : FF := fnF 3 11 false B_put_together
noncomputable def B_answered : SF := sSeq (sAsg (eFun (F_placed) (aCons (eVar 0) (aCons (eVar 2) (aNil)))) (gfTup [5, 6])) (sSeq (sIf (bVal (eOp2 gIsR (eVar 5) (eC .non))) (sRet (eTup (aCons (eC (.str "crowd")) (aCons (eFun (gTuple) (aCons (eFun (gSorted false) (aCons (eFro (lcF [9] (iSeq (eVar 6)) (gfName 9) (bVal (eOp2 gNe (eVar 9) (eVar 3))) (eVar 9))) (aNil))) (aNil))) (aNil))))) (sNx)) (sSeq (sAsg (eFun (F_given_lows) (aCons (eVar 0) (aCons (eVar 2) (aNil)))) (gfTup [7, 8])) (sSeq (sIf (bVal (eOp2 gIsR (eVar 7) (eC .non))) (sRet (eTup (aCons (eC (.str "want")) (aCons (eFun (gTuple) (aCons (eVar 8) (aNil))) (aNil))))) (sNx)) (sSeq (sSet 4 (eFun (F_put_together) (aCons (eVar 0) (aCons (eVar 5) (aCons (eVar 7) (aNil)))))) (sRet (eTup (aCons (eC (.str "row")) (aCons (eFun (gTuple) (aCons (eFro (lcF [9] (iSeq (eVar 1)) (gfName 9) (bYes) (eOp2 gIx (eVar 4) (eVar 9)))) (aNil))) (aNil)))))))))
noncomputable def F_answered : FF := fnF 4 10 true B_answered
noncomputable def B_crowd_none : SF := sSeq (sSet 2 (eFun (F_lot_of) (aCons (eVar 1) (aNil)))) (sRet (eFun (F_answered) (aCons (eVar 1) (aCons (eVar 2) (aCons (eDc (dcF [3] (iSeq (eVar 2)) (gfName 3) (bYes) (eVar 3) (eOp2 gIx (eVar 0) (eVar 3)))) (aCons (eC .non) (aNil)))))))
noncomputable def F_crowd_none : FF := fnF 2 4 true B_crowd_none
noncomputable def B_crowd_paper : SF := sSeq (sSet 4 (eFun (F_lot_of) (aCons (eVar 1) (aNil)))) (sSeq (sSet 5 (eDc (dcF [6] (iSeq (eVar 4)) (gfName 6) (bYes) (eVar 6) (eIf (bVal (eOp2 gNe (eVar 6) (eVar 2))) (eOp2 gIx (eVar 0) (eVar 6)) (eTup (aCons (eVar 3) (aNil))))))) (sRet (eFun (F_answered) (aCons (eVar 1) (aCons (eVar 4) (aCons (eVar 5) (aCons (eVar 2) (aNil))))))))
noncomputable def F_crowd_paper : FF := fnF 4 7 true B_crowd_paper
noncomputable def B_struck_crowds : SF := sSeq (sSet 2 (eLstM (aNil))) (sSeq (sFor (iSeq (eFun (F_lot_of) (aCons (eVar 1) (aNil)))) (gfName 3) (sFor (iSeq (eOp2 gIx (eVar 0) (eVar 3))) (gfName 4) (sIf (bVal (eOp2 gNe (eOp2 gIx (eFun (F_crowd_paper) (aCons (eVar 0) (aCons (eVar 1) (aCons (eVar 3) (aCons (eVar 4) (aNil)))))) (eC (.int 0))) (eC (.str "row")))) (sExp (eMet mAppend (eVar 2) (aCons (eTup (aCons (eVar 3) (aCons (eVar 4) (aNil)))) (aNil)))) (sNx)) [4]) [3, 4]) (sRet (eFun (gTuple) (aCons (eVar 2) (aNil)))))
noncomputable def F_struck_crowds : FF := fnF 2 5 true B_struck_crowds
noncomputable def B__law_values : SF := sSeq (sSet 2 (eLst (aNil))) (sSeq (sFor (iSeq (eVar 1)) (gfName 3) (sSet 2 (eOp2 gAdd (eVar 2) (eFro (lcF [4] (iSeq (eOp2 gIx (eVar 0) (eVar 3))) (gfName 4) (bVal (eOp2 (inD true) (eVar 4) (eVar 2))) (eVar 4))))) [3]) (sRet (eFun (gSorted false) (aCons (eVar 2) (aNil)))))
noncomputable def F__law_values : FF := fnF 2 5 true B__law_values
noncomputable def B__law_is_crowd : SF := sSeq (sSet 4 (eFun (F__law_values) (aCons (eVar 0) (aCons (eVar 2) (aNil))))) (sSeq (sIf (bVal (eOp2 gLt (eFun (gSum) (aCons (eFro (lcF [6] (iSeq (eVar 4)) (gfName 6) (bYes) (eFun (F__law_high) (aCons (eVar 1) (aCons (eVar 6) (aNil)))))) (aNil))) (eFun (gLen) (aCons (eVar 2) (aNil))))) (sRet (eC (.bl true))) (sNx)) (sSeq (sIf (bVal (eOp2 gIsN (eVar 3) (eC .non))) (sRet (eC (.bl false))) (sNx)) (sSeq (sSet 5 (eOp2 gAdd (eVar 4) (eFro (lcF [6] (iSeq (eLst (aCons (eVar 3) (aNil)))) (gfName 6) (bVal (eOp2 (inD true) (eVar 6) (eVar 4))) (eVar 6))))) (sRet (eOp2 gLe (eFun (gSum) (aCons (eFro (lcF [6] (iSeq (eVar 5)) (gfName 6) (bYes) (eFun (F__law_high) (aCons (eVar 1) (aCons (eVar 6) (aNil)))))) (aNil))) (eFun (gLen) (aCons (eVar 2) (aNil))))))))
noncomputable def F__law_is_crowd : FF := fnF 4 7 true B__law_is_crowd
noncomputable def B__law_is_want : SF := sSeq (sSet 5 (eFun (gInt) (aCons (eAnd (eOp2 gNotN (eVar 2) (eC .non)) (eOp2 (inD false) (eVar 3) (eVar 4))) (aNil)))) (sSeq (sFor (iSeq (eOp2 gIx (eVar 1) (eC (.int 1)))) (gfName 6) (sSet 5 (eOp2 gAdd (eVar 5) (eFun (gInt) (aCons (eAnd (eOp2 gNe (eVar 6) (eVar 2)) (eOp2 gNe (eFro (lcF [7] (iSeq (eOp2 gIx (eVar 0) (eVar 6))) (gfName 7) (bVal (eOp2 (inD false) (eVar 7) (eVar 4))) (eVar 7))) (eLst (aNil)))) (aNil))))) [6]) (sRet (eOp2 gLt (eVar 5) (eFun (gSum) (aCons (eFro (lcF [6] (iSeq (eVar 4)) (gfName 6) (bYes) (eFun (F__law_low) (aCons (eVar 1) (aCons (eVar 6) (aNil)))))) (aNil))))))
noncomputable def F__law_is_want : FF := fnF 5 8 true B__law_is_want
noncomputable def B__law_is_up : SF := sSeq (sIf (bOr (bNot (bVal (eIsi .tup (eVar 0)))) (bNot (bVal (eFun (gAll) (aCons (eFro (lcF [2] (iSeq (eVar 0)) (gfName 2) (bYes) (eAnd (eIsi .int (eVar 2)) (eNot (eIsi .bool (eVar 2)))))) (aNil)))))) (sRet (eC (.bl false))) (sNx)) (sRet (eAnd (eFun (gAll) (aCons (eFro (lcF [2] (iSeq (eVar 0)) (gfName 2) (bYes) (eOp2 (inD false) (eVar 2) (eVar 1)))) (aNil))) (eOp2 gEq (eFun (gList false) (aCons (eVar 0) (aNil))) (eFun (gSorted false) (aCons (eFun (gDictP) (aCons (eFro (lcF [2] (iSeq (eVar 0)) (gfName 2) (bYes) (eTup (aCons (eVar 2) (aCons (eC (.int 0)) (aNil)))))) (aNil))) (aNil))))))
noncomputable def F__law_is_up : FF := fnF 2 3 true B__law_is_up
noncomputable def B__law_paper_fault : SF := sSeq (sIf (bOr (bNot (bVal (eIsi .tup (eVar 4)))) (bOr (bVal (eOp2 gNe (eFun (gLen) (aCons (eVar 4) (aNil))) (eC (.int 2)))) (bNot (bVal (eIsi .str (eOp2 gIx (eVar 4) (eC (.int 0)))))))) (sRet (eTup (aCons (eC (.str "form")) (aNil)))) (sNx)) (sSeq (sIf (bNot (bVal (eIsi .tup (eOp2 gIx (eVar 4) (eC (.int 1)))))) (sRet (eTup (aCons (eC (.str "form")) (aNil)))) (sNx)) (sSeq (sAsg (eVar 4) (gfTup [5, 6])) (sSeq (sIf (bVal (eOp2 gEq (eVar 5) (eC (.str "row")))) (sSeq (sIf (bOr (bVal (eOp2 gNe (eFun (gLen) (aCons (eVar 6) (aNil))) (eFun (gLen) (aCons (eOp2 gIx (eVar 1) (eC (.int 1))) (aNil))))) (bNot (bVal (eFun (gAll) (aCons (eFro (lcF [9] (iSeq (eVar 6)) (gfName 9) (bYes) (eAnd (eIsi .int (eVar 9)) (eNot (eIsi .bool (eVar 9)))))) (aNil)))))) (sRet (eTup (aCons (eC (.str "form")) (aNil)))) (sNx)) (sSeq (sIf (bNot (bVal (eFun (gAll) (aCons (eFro (lcF [9] (iSeq (eVar 6)) (gfName 9) (bYes) (eOp2 gGe (eVar 9) (eC (.int 0))))) (aNil))))) (sRet (eTup (aCons (eC (.str "form")) (aNil)))) (sNx)) (sSet 7 (eAnd (eOp2 (inD false) (eVar 6) (eFun (F__law_rows) (aCons (eVar 0) (aCons (eVar 1) (aNil))))) (eOr (eOp2 gIsN (eVar 2) (eC .non)) (eOp2 gEq (eOp2 gIx (eVar 6) (eMetD gIdxT (eOp2 gIx (eVar 1) (eC (.int 1))) (aCons (eVar 2) (aNil)))) (eVar 3))))))) (sIf (bVal (eOp2 gEq (eVar 5) (eC (.str "crowd")))) (sSeq (sIf (bOr (bNot (bVal (eFun (F__law_is_up) (aCons (eVar 6) (aCons (eFro (lcF [9] (iSeq (eOp2 gIx (eVar 1) (eC (.int 1)))) (gfName 9) (bVal (eOp2 gNe (eVar 9) (eVar 2))) (eVar 9))) (aNil)))))) (bAnd (bVal (eOp2 gIsN (eVar 2) (eC .non))) (bVal (eOp2 gEq (eVar 6) (eTup (aNil)))))) (sRet (eTup (aCons (eC (.str "form")) (aNil)))) (sNx)) (sSet 7 (eFun (F__law_is_crowd) (aCons (eVar 0) (aCons (eVar 1) (aCons (eVar 6) (aCons (eVar 3) (aNil)))))))) (sSeq (sSet 8 (eIf (bVal (eOp2 gEq (eOp2 gIx (eVar 1) (eC (.int 0))) (eC (.str "counts")))) (eFro (lcF [9] (iSeq (eOp2 gIx (eVar 1) (eC (.int 2)))) (gfName 9) (bYes) (eOp2 gIx (eVar 9) (eC (.int 0))))) (eLst (aNil)))) (sSeq (sIf (bOr (bVal (eOp2 gNe (eVar 5) (eC (.str "want")))) (bOr (bVal (eOp2 gEq (eVar 6) (eTup (aNil)))) (bNot (bVal (eFun (F__law_is_up) (aCons (eVar 6) (aCons (eVar 8) (aNil)))))))) (sRet (eTup (aCons (eC (.str "form")) (aNil)))) (sNx)) (sSet 7 (eFun (F__law_is_want) (aCons (eVar 0) (aCons (eVar 1) (aCons (eVar 2) (aCons (eVar 3) (aCons (eVar 6) (aNil)))))))))))) (sRet (eIf (bVal (eVar 7)) (eC .non) (eTup (aCons (eVar 5) (aNil))))))))
noncomputable def F__law_paper_fault : FF := fnF 5 10 true B__law_paper_fault
noncomputable def B__law_told_right : SF := sSeq (sSet 5 (eFro (lcF [8] (iRng1 (aCons (eC (.int 2)) (aNil))) (gfName 8) (bYes) (eFun (F_crowd_paper) (aCons (eVar 0) (aCons (eVar 1) (aCons (eVar 3) (aCons (eVar 4) (aNil))))))))) (sSeq (sSet 6 (eMetD gIdxT (eOp2 gIx (eVar 1) (eC (.int 1))) (aCons (eVar 3) (aNil)))) (sSeq (sSet 7 (eOp2 gNe (eFro (lcF [9] (iSeq (eVar 2)) (gfName 9) (bVal (eOp2 gEq (eOp2 gIx (eVar 9) (eVar 6)) (eVar 4))) (eVar 9))) (eLst (aNil)))) (sSeq (sIf (bOr (bVal (eOp2 gNe (eFun gReprN (aCons (eOp2 gIx (eVar 5) (eC (.int 0))) (aNil))) (eFun gReprN (aCons (eOp2 gIx (eVar 5) (eC (.int 1))) (aNil))))) (bVal (eOp2 gNotN (eFun (F__law_paper_fault) (aCons (eVar 0) (aCons (eVar 1) (aCons (eVar 3) (aCons (eVar 4) (aCons (eOp2 gIx (eVar 5) (eC (.int 0))) (aNil))))))) (eC .non)))) (sRet (eC (.bl false))) (sNx)) (sRet (eOp2 gEq (eOp2 gEq (eOp2 gIx (eOp2 gIx (eVar 5) (eC (.int 0))) (eC (.int 0))) (eC (.str "row"))) (eVar 7))))))
noncomputable def F__law_told_right : FF := fnF 5 10 true B__law_told_right
noncomputable def B_law : SF := sSeq (sSet 1 (eFun (F__law_open_cells) (aCons (eVar 0) (aNil)))) (sSeq (sFor (iRng1 (aCons (eC (.int 4)) (aNil))) (gfName 2) (sSeq (sSet 3 (eFun (F__law_draw_stand) (aCons (eVar 1) (aCons (eC (.int 4)) (aNil))))) (sSeq (sSet 4 (eFun (F__law_draw_rule) (aCons (eVar 1) (aCons (eVar 3) (aCons (eOp2 gIx (eLst (aCons (eC (.int 3)) (aCons (eC (.int 4)) (aCons (eC (.int 5)) (aCons (eC (.int 6)) (aNil)))))) (eVar 2)) (aNil)))))) (sSeq (sAsg (eTup (aCons (eFun gReprN (aCons (eLst (aCons (eVar 3) (aCons (eVar 4) (aNil)))) (aNil))) (aCons (eFun (F__law_rows) (aCons (eVar 3) (aCons (eVar 4) (aNil)))) (aCons (eLst (aNil)) (aNil))))) (gfTupR [6, 7, 8])) (sSeq (sFor (iEnum (aCons (eOp2 gIx (eVar 4) (eC (.int 1))) (aNil))) (gfTup [9, 10]) (sFor (iSeq (eOp2 gIx (eVar 3) (eVar 10))) (gfName 11) (sSeq (sIf (bNot (bVal (eFun (F__law_told_right) (aCons (eVar 3) (aCons (eVar 4) (aCons (eVar 7) (aCons (eVar 10) (aCons (eVar 11) (aNil))))))))) (sRet (eC (.bl false))) (sNx)) (sSet 8 (eOp2 gAdd (eVar 8) (eOp2 gMul (eLst (aCons (eTup (aCons (eVar 10) (aCons (eVar 11) (aNil)))) (aNil))) (eFun (gInt) (aCons (eOp2 gEq (eFro (lcF [13] (iSeq (eVar 7)) (gfName 13) (bVal (eOp2 gEq (eOp2 gIx (eVar 13) (eVar 9)) (eVar 11))) (eVar 13))) (eLst (aNil))) (aNil))))))) [11]) [9, 10, 11]) (sSeq (sIf (bVal (eOp2 gNe (eFun gReprN (aCons (eFun (F_struck_crowds) (aCons (eVar 3) (aCons (eVar 4) (aNil)))) (aNil))) (eFun gReprN (aCons (eFun (gTuple) (aCons (eVar 8) (aNil))) (aNil))))) (sRet (eC (.bl false))) (sNx)) (sSeq (sSet 5 (eFro (lcF [12] (iRng1 (aCons (eC (.int 2)) (aNil))) (gfName 12) (bYes) (eFun (F_crowd_none) (aCons (eVar 3) (aCons (eVar 4) (aNil))))))) (sSeq (sIf (bOr (bVal (eOp2 gNe (eFun gReprN (aCons (eOp2 gIx (eVar 5) (eC (.int 0))) (aNil))) (eFun gReprN (aCons (eOp2 gIx (eVar 5) (eC (.int 1))) (aNil))))) (bVal (eOp2 gNotN (eFun (F__law_paper_fault) (aCons (eVar 3) (aCons (eVar 4) (aCons (eC .non) (aCons (eC .non) (aCons (eOp2 gIx (eVar 5) (eC (.int 0))) (aNil))))))) (eC .non)))) (sRet (eC (.bl false))) (sNx)) (sIf (bOr (bVal (eOp2 gNe (eOp2 gEq (eOp2 gIx (eOp2 gIx (eVar 5) (eC (.int 0))) (eC (.int 0))) (eC (.str "row"))) (eOp2 gNe (eVar 7) (eLst (aNil))))) (bVal (eOp2 gNe (eFun gReprN (aCons (eLst (aCons (eVar 3) (aCons (eVar 4) (aNil)))) (aNil))) (eVar 6)))) (sRet (eC (.bl false))) (sNx))))))))) [2, 3, 4, 5, 6, 7, 8, 9, 10, 11]) (sRet (eC (.bl true))))
noncomputable def F_law : FF := fnF 1 14 true B_law
/-! ### what the top has written -/
structure Tab where
  a__law_open_cells : Addr
  d__law_open_cells : FuncData
  a__law_pick : Addr
  d__law_pick : FuncData
  a__law_any_order : Addr
  d__law_any_order : FuncData
  a__law_draw_stand : Addr
  d__law_draw_stand : FuncData
  a__law_draw_lot : Addr
  d__law_draw_lot : FuncData
  a__law_draw_counts : Addr
  d__law_draw_counts : FuncData
  a__law_draw_rule : Addr
  d__law_draw_rule : FuncData
  a__law_low : Addr
  d__law_low : FuncData
  a__law_high : Addr
  d__law_high : FuncData
  a__law_rows : Addr
  d__law_rows : FuncData
  a_lot_of : Addr
  d_lot_of : FuncData
  a_told_bounds : Addr
  d_told_bounds : FuncData
  a_high_of : Addr
  d_high_of : FuncData
  a_roomed : Addr
  d_roomed : FuncData
  a_chained : Addr
  d_chained : FuncData
  a_go_on : Addr
  d_go_on : FuncData
  a_placed : Addr
  d_placed : FuncData
  a_handed : Addr
  d_handed : FuncData
  a_give_one : Addr
  d_give_one : FuncData
  a_given_lows : Addr
  d_given_lows : FuncData
  a_put_together : Addr
  d_put_together : FuncData
  a_answered : Addr
  d_answered : FuncData
  a_crowd_none : Addr
  d_crowd_none : FuncData
  a_crowd_paper : Addr
  d_crowd_paper : FuncData
  a_struck_crowds : Addr
  d_struck_crowds : FuncData
  a__law_values : Addr
  d__law_values : FuncData
  a__law_is_crowd : Addr
  d__law_is_crowd : FuncData
  a__law_is_want : Addr
  d__law_is_want : FuncData
  a__law_is_up : Addr
  d__law_is_up : FuncData
  a__law_paper_fault : Addr
  d__law_paper_fault : FuncData
  a__law_told_right : Addr
  d__law_told_right : FuncData
  a_law : Addr
  d_law : FuncData
structure Tx (K : PySem.W.Frag) (mg : Str → Option Value) (t : Tab) : Prop where
  z_abs : mg "abs" = none
  z_all : mg "all" = none
  z_bool : mg "bool" = none
  z_dict : mg "dict" = none
  z_enumerate : mg "enumerate" = none
  z_int : mg "int" = none
  z_isinstance : mg "isinstance" = none
  z_len : mg "len" = none
  z_list : mg "list" = none
  z_max : mg "max" = none
  z_min : mg "min" = none
  z_range : mg "range" = none
  z_repr : mg "repr" = none
  z_sorted : mg "sorted" = none
  z_str : mg "str" = none
  z_sum : mg "sum" = none
  z_tuple : mg "tuple" = none
  F__law_open_cells : Fun K "_law_open_cells" "_law_open_cells" s__law_open_cells t.a__law_open_cells t.d__law_open_cells
  m__law_open_cells : mg "_law_open_cells" = some (.ref t.a__law_open_cells)
  b__law_open_cells : Binds K t.d__law_open_cells ["script"] []
  F__law_pick : Fun K "_law_pick" "_law_pick" s__law_pick t.a__law_pick t.d__law_pick
  m__law_pick : mg "_law_pick" = some (.ref t.a__law_pick)
  b__law_pick : Binds K t.d__law_pick ["source", "most"] []
  F__law_any_order : Fun K "_law_any_order" "_law_any_order" s__law_any_order t.a__law_any_order t.d__law_any_order
  m__law_any_order : mg "_law_any_order" = some (.ref t.a__law_any_order)
  b__law_any_order : Binds K t.d__law_any_order ["source", "things"] []
  F__law_draw_stand : Fun K "_law_draw_stand" "_law_draw_stand" s__law_draw_stand t.a__law_draw_stand t.d__law_draw_stand
  m__law_draw_stand : mg "_law_draw_stand" = some (.ref t.a__law_draw_stand)
  b__law_draw_stand : Binds K t.d__law_draw_stand ["source", "most"] []
  F__law_draw_lot : Fun K "_law_draw_lot" "_law_draw_lot" s__law_draw_lot t.a__law_draw_lot t.d__law_draw_lot
  m__law_draw_lot : mg "_law_draw_lot" = some (.ref t.a__law_draw_lot)
  b__law_draw_lot : Binds K t.d__law_draw_lot ["source", "stand", "most"] []
  F__law_draw_counts : Fun K "_law_draw_counts" "_law_draw_counts" s__law_draw_counts t.a__law_draw_counts t.d__law_draw_counts
  m__law_draw_counts : mg "_law_draw_counts" = some (.ref t.a__law_draw_counts)
  b__law_draw_counts : Binds K t.d__law_draw_counts ["source", "stand", "lot"] []
  F__law_draw_rule : Fun K "_law_draw_rule" "_law_draw_rule" s__law_draw_rule t.a__law_draw_rule t.d__law_draw_rule
  m__law_draw_rule : mg "_law_draw_rule" = some (.ref t.a__law_draw_rule)
  b__law_draw_rule : Binds K t.d__law_draw_rule ["source", "stand", "most"] []
  F__law_low : Fun K "_law_low" "_law_low" s__law_low t.a__law_low t.d__law_low
  m__law_low : mg "_law_low" = some (.ref t.a__law_low)
  b__law_low : Binds K t.d__law_low ["rule", "value"] []
  F__law_high : Fun K "_law_high" "_law_high" s__law_high t.a__law_high t.d__law_high
  m__law_high : mg "_law_high" = some (.ref t.a__law_high)
  b__law_high : Binds K t.d__law_high ["rule", "value"] []
  F__law_rows : Fun K "_law_rows" "_law_rows" s__law_rows t.a__law_rows t.d__law_rows
  m__law_rows : mg "_law_rows" = some (.ref t.a__law_rows)
  b__law_rows : Binds K t.d__law_rows ["stand", "rule"] []
  F_lot_of : Fun K "lot_of" "lot_of" s_lot_of t.a_lot_of t.d_lot_of
  m_lot_of : mg "lot_of" = some (.ref t.a_lot_of)
  b_lot_of : Binds K t.d_lot_of ["rule"] []
  F_told_bounds : Fun K "told_bounds" "told_bounds" s_told_bounds t.a_told_bounds t.d_told_bounds
  m_told_bounds : mg "told_bounds" = some (.ref t.a_told_bounds)
  b_told_bounds : Binds K t.d_told_bounds ["rule"] []
  F_high_of : Fun K "high_of" "high_of" s_high_of t.a_high_of t.d_high_of
  m_high_of : mg "high_of" = some (.ref t.a_high_of)
  b_high_of : Binds K t.d_high_of ["rule", "value"] []
  F_roomed : Fun K "roomed" "roomed" s_roomed t.a_roomed t.d_roomed
  m_roomed : mg "roomed" = some (.ref t.a_roomed)
  b_roomed : Binds K t.d_roomed ["rule", "place", "value"] []
  F_chained : Fun K "chained" "chained" s_chained t.a_chained t.d_chained
  m_chained : mg "chained" = some (.ref t.a_chained)
  b_chained : Binds K t.d_chained ["place", "met", "number", "value"] []
  F_go_on : Fun K "go_on" "go_on" s_go_on t.a_go_on t.d_go_on
  m_go_on : mg "go_on" = some (.ref t.a_go_on)
  b_go_on : Binds K t.d_go_on ["rule", "domains", "place", "first"] []
  F_placed : Fun K "placed" "placed" s_placed t.a_placed t.d_placed
  m_placed : mg "placed" = some (.ref t.a_placed)
  b_placed : Binds K t.d_placed ["rule", "domains"] []
  F_handed : Fun K "handed" "handed" s_handed t.a_handed t.d_handed
  m_handed : mg "handed" = some (.ref t.a_handed)
  b_handed : Binds K t.d_handed ["given", "met", "number", "name"] []
  F_give_one : Fun K "give_one" "give_one" s_give_one t.a_give_one t.d_give_one
  m_give_one : mg "give_one" = some (.ref t.a_give_one)
  b_give_one : Binds K t.d_give_one ["domains", "given", "first"] []
  F_given_lows : Fun K "given_lows" "given_lows" s_given_lows t.a_given_lows t.d_given_lows
  m_given_lows : mg "given_lows" = some (.ref t.a_given_lows)
  b_given_lows : Binds K t.d_given_lows ["rule", "domains"] []
  F_put_together : Fun K "put_together" "put_together" s_put_together t.a_put_together t.d_put_together
  m_put_together : mg "put_together" = some (.ref t.a_put_together)
  b_put_together : Binds K t.d_put_together ["rule", "place", "given"] []
  F_answered : Fun K "answered" "answered" s_answered t.a_answered t.d_answered
  m_answered : mg "answered" = some (.ref t.a_answered)
  b_answered : Binds K t.d_answered ["rule", "lot", "domains", "name"] []
  F_crowd_none : Fun K "crowd_none" "crowd_none" s_crowd_none t.a_crowd_none t.d_crowd_none
  m_crowd_none : mg "crowd_none" = some (.ref t.a_crowd_none)
  b_crowd_none : Binds K t.d_crowd_none ["stand", "rule"] []
  F_crowd_paper : Fun K "crowd_paper" "crowd_paper" s_crowd_paper t.a_crowd_paper t.d_crowd_paper
  m_crowd_paper : mg "crowd_paper" = some (.ref t.a_crowd_paper)
  b_crowd_paper : Binds K t.d_crowd_paper ["stand", "rule", "name", "value"] []
  F_struck_crowds : Fun K "struck_crowds" "struck_crowds" s_struck_crowds t.a_struck_crowds t.d_struck_crowds
  m_struck_crowds : mg "struck_crowds" = some (.ref t.a_struck_crowds)
  b_struck_crowds : Binds K t.d_struck_crowds ["stand", "rule"] []
  F__law_values : Fun K "_law_values" "_law_values" s__law_values t.a__law_values t.d__law_values
  m__law_values : mg "_law_values" = some (.ref t.a__law_values)
  b__law_values : Binds K t.d__law_values ["stand", "names"] []
  F__law_is_crowd : Fun K "_law_is_crowd" "_law_is_crowd" s__law_is_crowd t.a__law_is_crowd t.d__law_is_crowd
  m__law_is_crowd : mg "_law_is_crowd" = some (.ref t.a__law_is_crowd)
  b__law_is_crowd : Binds K t.d__law_is_crowd ["stand", "rule", "names", "value"] []
  F__law_is_want : Fun K "_law_is_want" "_law_is_want" s__law_is_want t.a__law_is_want t.d__law_is_want
  m__law_is_want : mg "_law_is_want" = some (.ref t.a__law_is_want)
  b__law_is_want : Binds K t.d__law_is_want ["stand", "rule", "name", "value", "some"] []
  F__law_is_up : Fun K "_law_is_up" "_law_is_up" s__law_is_up t.a__law_is_up t.d__law_is_up
  m__law_is_up : mg "_law_is_up" = some (.ref t.a__law_is_up)
  b__law_is_up : Binds K t.d__law_is_up ["value", "known"] []
  F__law_paper_fault : Fun K "_law_paper_fault" "_law_paper_fault" s__law_paper_fault t.a__law_paper_fault t.d__law_paper_fault
  m__law_paper_fault : mg "_law_paper_fault" = some (.ref t.a__law_paper_fault)
  b__law_paper_fault : Binds K t.d__law_paper_fault ["stand", "rule", "name", "value", "paper"] []
  F__law_told_right : Fun K "_law_told_right" "_law_told_right" s__law_told_right t.a__law_told_right t.d__law_told_right
  m__law_told_right : mg "_law_told_right" = some (.ref t.a__law_told_right)
  b__law_told_right : Binds K t.d__law_told_right ["stand", "rule", "rows", "name", "value"] []
  F_law : Fun K "law" "law" s_law t.a_law t.d_law
  m_law : mg "law" = some (.ref t.a_law)
  b_law : Binds K t.d_law ["script"] []
theorem bt_abs : bootBuiltins "abs" = some (.builtin "abs") := by decide +kernel
theorem bt_all : bootBuiltins "all" = some (.builtin "all") := by decide +kernel
theorem bt_bool : bootBuiltins "bool" = some (.type "bool") := by decide +kernel
theorem bt_dict : bootBuiltins "dict" = some (.type "dict") := by decide +kernel
theorem bt_enumerate : bootBuiltins "enumerate" = some (.type "enumerate") := by decide +kernel
theorem bt_int : bootBuiltins "int" = some (.type "int") := by decide +kernel
theorem bt_isinstance : bootBuiltins "isinstance" = some (.builtin "isinstance") := by decide +kernel
theorem bt_len : bootBuiltins "len" = some (.builtin "len") := by decide +kernel
theorem bt_list : bootBuiltins "list" = some (.type "list") := by decide +kernel
theorem bt_max : bootBuiltins "max" = some (.builtin "max") := by decide +kernel
theorem bt_min : bootBuiltins "min" = some (.builtin "min") := by decide +kernel
theorem bt_range : bootBuiltins "range" = some (.type "range") := by decide +kernel
theorem bt_repr : bootBuiltins "repr" = some (.builtin "repr") := by decide +kernel
theorem bt_sorted : bootBuiltins "sorted" = some (.builtin "sorted") := by decide +kernel
theorem bt_str : bootBuiltins "str" = some (.type "str") := by decide +kernel
theorem bt_sum : bootBuiltins "sum" = some (.builtin "sum") := by decide +kernel
theorem bt_tuple : bootBuiltins "tuple" = some (.type "tuple") := by decide +kernel
section
variable {P : Program} {w : World} {K : PySem.W.Frag} {mg : Str → Option Value} {base : Heap} {t : Tab}
theorem sc__law_open_cells : FnScope ["script", "stirred", "cell", "cells"] ["script"] (defScope s__law_open_cells) := ⟨rfl, rfl, rfl, by decide +kernel, rfl, by decide +kernel, by decide +kernel⟩
theorem sc__law_pick : FnScope ["source", "most", "cells", "others", "lap", "stirred"] ["source", "most"] (defScope s__law_pick) := ⟨rfl, rfl, rfl, by decide +kernel, rfl, by decide +kernel, by decide +kernel⟩
theorem sc__law_any_order : FnScope ["source", "things", "others", "lap"] ["source", "things"] (defScope s__law_any_order) := ⟨rfl, rfl, rfl, by decide +kernel, rfl, by decide +kernel, by decide +kernel⟩
theorem sc__law_draw_stand : FnScope ["source", "most", "name", "found", "lot", "many"] ["source", "most"] (defScope s__law_draw_stand) := ⟨rfl, rfl, rfl, by decide +kernel, rfl, by decide +kernel, by decide +kernel⟩
theorem sc__law_draw_lot : FnScope ["source", "stand", "most", "many"] ["source", "stand", "most"] (defScope s__law_draw_lot) := ⟨rfl, rfl, rfl, by decide +kernel, rfl, by decide +kernel, by decide +kernel⟩
theorem sc__law_draw_counts : FnScope ["source", "stand", "lot", "some", "name", "row", "value", "found", "few", "many", "low", "high"] ["source", "stand", "lot"] (defScope s__law_draw_counts) := ⟨rfl, rfl, rfl, by decide +kernel, rfl, by decide +kernel, by decide +kernel⟩
theorem sc__law_draw_rule : FnScope ["source", "stand", "most", "lot"] ["source", "stand", "most"] (defScope s__law_draw_rule) := ⟨rfl, rfl, rfl, by decide +kernel, rfl, by decide +kernel, by decide +kernel⟩
theorem sc__law_low : FnScope ["rule", "value", "one"] ["rule", "value"] (defScope s__law_low) := ⟨rfl, rfl, rfl, by decide +kernel, rfl, by decide +kernel, by decide +kernel⟩
theorem sc__law_high : FnScope ["rule", "value", "highs", "one"] ["rule", "value"] (defScope s__law_high) := ⟨rfl, rfl, rfl, by decide +kernel, rfl, by decide +kernel, by decide +kernel⟩
theorem sc__law_rows : FnScope ["stand", "rule", "found", "name", "told", "late", "row", "one", "value"] ["stand", "rule"] (defScope s__law_rows) := ⟨rfl, rfl, rfl, by decide +kernel, rfl, by decide +kernel, by decide +kernel⟩
theorem sc_lot_of : FnScope ["rule"] ["rule"] (defScope s_lot_of) := ⟨rfl, rfl, rfl, by decide +kernel, rfl, by decide +kernel, by decide +kernel⟩
theorem sc_told_bounds : FnScope ["rule", "value", "low", "high"] ["rule"] (defScope s_told_bounds) := ⟨rfl, rfl, rfl, by decide +kernel, rfl, by decide +kernel, by decide +kernel⟩
theorem sc_high_of : FnScope ["rule", "value"] ["rule", "value"] (defScope s_high_of) := ⟨rfl, rfl, rfl, by decide +kernel, rfl, by decide +kernel, by decide +kernel⟩
theorem sc_roomed : FnScope ["rule", "place", "value", "high", "name"] ["rule", "place", "value"] (defScope s_roomed) := ⟨rfl, rfl, rfl, by decide +kernel, rfl, by decide +kernel, by decide +kernel⟩
theorem sc_chained : FnScope ["place", "met", "number", "value", "late", "name", "before", "old"] ["place", "met", "number", "value"] (defScope s_chained) := ⟨rfl, rfl, rfl, by decide +kernel, rfl, by decide +kernel, by decide +kernel⟩
theorem sc_go_on : FnScope ["rule", "domains", "place", "first", "met", "seen", "number", "value", "name", "before", "old", "other"] ["rule", "domains", "place", "first"] (defScope s_go_on) := ⟨rfl, rfl, rfl, by decide +kernel, rfl, by decide +kernel, by decide +kernel⟩
theorem sc_placed : FnScope ["rule", "domains", "place", "name", "late", "met"] ["rule", "domains"] (defScope s_placed) := ⟨rfl, rfl, rfl, by decide +kernel, rfl, by decide +kernel, by decide +kernel⟩
theorem sc_handed : FnScope ["given", "met", "number", "name", "late", "value", "before", "old"] ["given", "met", "number", "name"] (defScope s_handed) := ⟨rfl, rfl, rfl, by decide +kernel, rfl, by decide +kernel, by decide +kernel⟩
theorem sc_give_one : FnScope ["domains", "given", "first", "met", "seen", "number", "name", "value", "before", "old", "one"] ["domains", "given", "first"] (defScope s_give_one) := ⟨rfl, rfl, rfl, by decide +kernel, rfl, by decide +kernel, by decide +kernel⟩
theorem sc_given_lows : FnScope ["rule", "domains", "given", "value", "lap", "low", "high", "late", "met"] ["rule", "domains"] (defScope s_given_lows) := ⟨rfl, rfl, rfl, by decide +kernel, rfl, by decide +kernel, by decide +kernel⟩
theorem sc_put_together : FnScope ["rule", "place", "given", "value", "late", "bounds", "due", "name", "old", "stands", "one"] ["rule", "place", "given"] (defScope s_put_together) := ⟨rfl, rfl, rfl, by decide +kernel, rfl, by decide +kernel, by decide +kernel⟩
theorem sc_answered : FnScope ["rule", "lot", "domains", "name", "late", "place", "names", "given", "values", "one"] ["rule", "lot", "domains", "name"] (defScope s_answered) := ⟨rfl, rfl, rfl, by decide +kernel, rfl, by decide +kernel, by decide +kernel⟩
theorem sc_crowd_none : FnScope ["stand", "rule", "lot", "one"] ["stand", "rule"] (defScope s_crowd_none) := ⟨rfl, rfl, rfl, by decide +kernel, rfl, by decide +kernel, by decide +kernel⟩
theorem sc_crowd_paper : FnScope ["stand", "rule", "name", "value", "lot", "domains", "one"] ["stand", "rule", "name", "value"] (defScope s_crowd_paper) := ⟨rfl, rfl, rfl, by decide +kernel, rfl, by decide +kernel, by decide +kernel⟩
theorem sc_struck_crowds : FnScope ["stand", "rule", "found", "name", "value"] ["stand", "rule"] (defScope s_struck_crowds) := ⟨rfl, rfl, rfl, by decide +kernel, rfl, by decide +kernel, by decide +kernel⟩
theorem sc__law_values : FnScope ["stand", "names", "found", "name", "value"] ["stand", "names"] (defScope s__law_values) := ⟨rfl, rfl, rfl, by decide +kernel, rfl, by decide +kernel, by decide +kernel⟩
theorem sc__law_is_crowd : FnScope ["stand", "rule", "names", "value", "some", "more", "one"] ["stand", "rule", "names", "value"] (defScope s__law_is_crowd) := ⟨rfl, rfl, rfl, by decide +kernel, rfl, by decide +kernel, by decide +kernel⟩
theorem sc__law_is_want : FnScope ["stand", "rule", "name", "value", "some", "many", "one", "late"] ["stand", "rule", "name", "value", "some"] (defScope s__law_is_want) := ⟨rfl, rfl, rfl, by decide +kernel, rfl, by decide +kernel, by decide +kernel⟩
theorem sc__law_is_up : FnScope ["value", "known", "one"] ["value", "known"] (defScope s__law_is_up) := ⟨rfl, rfl, rfl, by decide +kernel, rfl, by decide +kernel, by decide +kernel⟩
theorem sc__law_paper_fault : FnScope ["stand", "rule", "name", "value", "paper", "word", "some", "is_one", "told", "one"] ["stand", "rule", "name", "value", "paper"] (defScope s__law_paper_fault) := ⟨rfl, rfl, rfl, by decide +kernel, rfl, by decide +kernel, by decide +kernel⟩
theorem sc__law_told_right : FnScope ["stand", "rule", "rows", "name", "value", "told", "k", "is_seen", "turn", "row"] ["stand", "rule", "rows", "name", "value"] (defScope s__law_told_right) := ⟨rfl, rfl, rfl, by decide +kernel, rfl, by decide +kernel, by decide +kernel⟩
theorem sc_law : FnScope ["script", "source", "lap", "stand", "rule", "told", "shown", "rows", "struck", "k", "name", "value", "turn", "row"] ["script"] (defScope s_law) := ⟨rfl, rfl, rfl, by decide +kernel, rfl, by decide +kernel, by decide +kernel⟩
theorem ok__law_open_cells (T : Tx K mg t) : FnD P w K mg base 1 t.a__law_open_cells t.d__law_open_cells ["script"] F__law_open_cells := by
  have nd := (sc__law_open_cells).nd
  refine fnd_of T.F__law_open_cells sc__law_open_cells rfl rfl fun cdv A outer s H hr => ?_
  exact dss_cons (ds_set nd (de_int)) (dss_cons (ds_for [2] PassesOwn.never rfl (di_seq (de_var 0)) (dg_name nd) (dss_one (ds_set nd (de_op op_mod ok_i2 (de_callTy call_int1 int_ok T.z_int bt_int (da_cons (de_op op_addD ok_add (de_op op_addD ok_add (de_op op_mulD ok_mul (de_var 1) (de_int)) (de_op op_mulD ok_mul (de_var 2) (de_int))) (de_int)) (da_nil))) (de_int))))) (dss_cons (ds_setLc (own := [("cell", 2)]) rfl nd (di_seq (de_var 0)) (blkOk_by (by kernel_rfl)) (by decide) (fun _ _ _ _ _ => dg_name nd) (fun _ _ _ _ _ => dts_nil) (fun _ _ _ _ _ => de_callB call_abs abs_ok T.z_abs bt_abs (da_cons (de_var 2) (da_nil))) (sw_true rfl rfl rfl (by decide +kernel))) (dss_one (ds_ret (de_disp (fs := [(eC (.str "cells"), eRev true (eVar 3)), (eC (.str "left"), eC (.int 1)), (eC (.str "mixed"), eVar 1), (eC (.str "turn"), eC (.int 0))]) (pps_cons (de_str) (de_rev true (de_var 3)) (pps_cons (de_str) (de_int) (pps_cons (de_str) (de_var 1) (pps_cons (de_str) (de_int) (pps_nil))))))))))
theorem ok__law_pick (T : Tx K mg t) : FnD P w K mg base 1 t.a__law_pick t.d__law_pick ["source", "most"] F__law_pick := by
  have nd := (sc__law_pick).nd
  refine fnd_of T.F__law_pick sc__law_pick rfl rfl fun cdv A outer s H hr => ?_
  exact dss_cons (ds_if (db_cmp op_lt ok_c (de_var 1) (de_int)) (dss_one (ds_ret (de_int))) (dss_nil)) (dss_cons (ds_set nd (de_ix (ix_A hr.u1) ok_ix (de_var 0) (de_str))) (dss_cons (ds_while [] PassesOwn.never (db_w (dw_and (db_cmp op_lt ok_c (de_ix (ix_A hr.u1) ok_ix (de_var 0) (de_str)) (de_int)) (dw_and1 (db_cmp op_gt ok_c (de_callB call_lenA len_ok T.z_len bt_len (da_cons (de_var 2) (da_nil))) (de_int))))) (dss_one (ds_put hr.u1 (de_met0 PySem.F.slot_list_pop PySem.F.type_list_pop mt_pop pop_ok (de_var 2)) (de_var 0) (de_str)))) (dss_cons (ds_set nd (de_ix (ix_A hr.u1) ok_ix (de_var 0) (de_str))) (dss_cons (ds_if (db_cmp op_gt ok_c (de_var 3) (de_int)) (dss_cons (ds_put hr.u1 (de_op op_fdiv ok_i2 (de_var 3) (de_var 1)) (de_var 0) (de_str)) (dss_one (ds_ret (de_op op_mod ok_i2 (de_callTy call_int1 int_ok T.z_int bt_int (da_cons (de_var 3) (da_nil))) (de_var 1))))) (dss_nil)) (dss_cons (ds_put hr.u1 (de_op op_addD ok_add (de_ix (ix_A hr.u1) ok_ix (de_var 0) (de_str)) (de_int)) (de_var 0) (de_str)) (dss_cons (ds_set nd (de_ix (ix_A hr.u1) ok_ix (de_var 0) (de_str))) (dss_cons (ds_set nd (de_op op_mod ok_i2 (de_callTy call_int1 int_ok T.z_int bt_int (da_cons (de_op op_addD ok_add (de_ix (ix_A hr.u1) ok_ix (de_var 0) (de_str)) (de_op op_mulD ok_mul (de_var 4) (de_int))) (da_nil))) (de_int))) (dss_cons (ds_set nd (de_op op_mod ok_i2 (de_callTy call_int1 int_ok T.z_int bt_int (da_cons (de_op op_addD ok_add (de_op op_mulD ok_mul (de_var 5) (de_var 5)) (de_op op_mulD ok_mul (de_var 4) (de_int))) (da_nil))) (de_int))) (dss_one (ds_ret (de_op op_mod ok_i2 (de_callTy call_int1 int_ok T.z_int bt_int (da_cons (de_op op_fdiv ok_i2 (de_var 5) (de_int)) (da_nil))) (de_var 1))))))))))))
theorem ok__law_any_order (T : Tx K mg t) : FnD P w K mg base 2 t.a__law_any_order t.d__law_any_order ["source", "things"] F__law_any_order := by
  have nd := (sc__law_any_order).nd
  refine fnd_of T.F__law_any_order sc__law_any_order rfl rfl fun cdv A outer s H hr => ?_
  exact dss_cons (ds_set nd (de_callTy (call_listA rfl) (list_ok true) T.z_list bt_list (da_cons (de_var 1) (da_nil)))) (dss_one (ds_ret (de_lc (own := [("lap", 3)]) rfl nd (di_rng1 T.z_range (da_cons (de_callB call_lenA len_ok T.z_len bt_len (da_cons (de_var 2) (da_nil))) (da_nil))) (blkOk_by (by kernel_rfl)) (by decide) (fun _ _ _ _ _ => dg_name nd) (fun _ _ _ _ _ => dts_nil) (fun _ _ _ _ _ => de_met PySem.F.slot_list_pop PySem.F.type_list_pop mt_popAt popAt_ok (de_var 2) (da_cons (de_call ((ok__law_pick T).mono (by decide)) hr T.m__law_pick (T.F__law_pick).kp T.b__law_pick (da_cons (de_var 0) (da_cons (de_callB call_lenA len_ok T.z_len bt_len (da_cons (de_var 2) (da_nil))) (da_nil)))) (da_nil))))))
theorem ok__law_draw_stand (T : Tx K mg t) : FnD P w K mg base 3 t.a__law_draw_stand t.d__law_draw_stand ["source", "most"] F__law_draw_stand := by
  have nd := (sc__law_draw_stand).nd
  refine fnd_of T.F__law_draw_stand sc__law_draw_stand rfl rfl fun cdv A outer s H hr => ?_
  exact dss_cons (ds_asgSw (xs := ["found", "lot"]) rfl nd (de_tup (da_cons (de_lstM (da_nil)) (da_cons (de_callB (call_srt rfl hr.u66 false) (srt_ok false) T.z_sorted bt_sorted (da_cons (de_sl false (de_call ((ok__law_any_order T).mono (by decide)) hr T.m__law_any_order (T.F__law_any_order).kp T.b__law_any_order (da_cons (de_var 0) (da_cons (de_lst (da_cons (de_int) (da_cons (de_int) (da_cons (de_int) (da_cons (de_int) (da_cons (de_int) (da_cons (de_int) (da_cons (de_int) (da_cons (de_int) (da_nil)))))))))) (da_nil)))) (do_none) (do_some (de_op op_addD ok_add (de_int) (de_call ((ok__law_pick T).mono (by decide)) hr T.m__law_pick (T.F__law_pick).kp T.b__law_pick (da_cons (de_var 0) (da_cons (de_int) (da_nil))))))) (da_nil))) (da_nil)))) (by exact ⟨rfl, rfl, rfl, rfl, trivial⟩)) (dss_cons (ds_for [2, 5] PassesOwn.never rfl (di_rng1 T.z_range (da_cons (de_op op_addD ok_add (de_int) (de_call ((ok__law_pick T).mono (by decide)) hr T.m__law_pick (T.F__law_pick).kp T.b__law_pick (da_cons (de_var 0) (da_cons (de_int) (da_nil))))) (da_nil))) (dg_name nd) (dss_cons (ds_set nd (de_if (db_cmp op_gt ok_c (de_call ((ok__law_pick T).mono (by decide)) hr T.m__law_pick (T.F__law_pick).kp T.b__law_pick (da_cons (de_var 0) (da_cons (de_int) (da_nil)))) (de_int)) (de_op op_addD ok_add (de_int) (de_call ((ok__law_pick T).mono (by decide)) hr T.m__law_pick (T.F__law_pick).kp T.b__law_pick (da_cons (de_var 0) (da_cons (de_var 1) (da_nil))))) (de_int))) (dss_one (ds_expr (de_met PySem.F.slot_list_append PySem.F.type_list_append mt_append append_ok (de_var 3) (da_cons (de_callTy call_tuple_of tup_ok T.z_tuple bt_tuple (da_cons (de_callB (call_srt rfl hr.u66 false) (srt_ok false) T.z_sorted bt_sorted (da_cons (de_sl false (de_call ((ok__law_any_order T).mono (by decide)) hr T.m__law_any_order (T.F__law_any_order).kp T.b__law_any_order (da_cons (de_var 0) (da_cons (de_var 4) (da_nil)))) (do_none) (do_some (de_var 5))) (da_nil))) (da_nil))) (da_nil))))))) (dss_one (ds_ret (de_callTy call_tuple_of tup_ok T.z_tuple bt_tuple (da_cons (de_var 3) (da_nil))))))
theorem ok__law_draw_lot (T : Tx K mg t) : FnD P w K mg base 3 t.a__law_draw_lot t.d__law_draw_lot ["source", "stand", "most"] F__law_draw_lot := by
  have nd := (sc__law_draw_lot).nd
  refine fnd_of T.F__law_draw_lot sc__law_draw_lot rfl rfl fun cdv A outer s H hr => ?_
  exact dss_cons (ds_set nd (de_op op_addD ok_add (de_int) (de_call ((ok__law_pick T).mono (by decide)) hr T.m__law_pick (T.F__law_pick).kp T.b__law_pick (da_cons (de_var 0) (da_cons (de_callB (call_min2 rfl) min2_ok T.z_min bt_min (da_cons (de_var 2) (da_cons (de_callB call_lenA len_ok T.z_len bt_len (da_cons (de_var 1) (da_nil))) (da_nil)))) (da_nil)))))) (dss_one (ds_ret (de_callTy call_tupD tupD_ok T.z_tuple bt_tuple (da_cons (de_callB (call_srt rfl hr.u66 false) (srt_ok false) T.z_sorted bt_sorted (da_cons (de_sl false (de_call ((ok__law_any_order T).mono (by decide)) hr T.m__law_any_order (T.F__law_any_order).kp T.b__law_any_order (da_cons (de_var 0) (da_cons (de_lrg false rfl T.z_list (dr_1 T.z_range (de_callB call_lenA len_ok T.z_len bt_len (da_cons (de_var 1) (da_nil))))) (da_nil)))) (do_none) (do_some (de_var 3))) (da_nil))) (da_nil)))))
theorem ok__law_draw_counts (T : Tx K mg t) : FnD P w K mg base 3 t.a__law_draw_counts t.d__law_draw_counts ["source", "stand", "lot"] F__law_draw_counts := by
  have nd := (sc__law_draw_counts).nd
  refine fnd_of T.F__law_draw_counts sc__law_draw_counts rfl rfl fun cdv A outer s H hr => ?_
  exact dss_cons (ds_set nd (de_lst (da_nil))) (dss_cons (ds_for [4] PassesOwn.never rfl (di_seq (de_var 2)) (dg_name nd) (dss_one (ds_set nd (de_op op_addD ok_add (de_var 3) (de_lc (own := [("value", 6)]) rfl nd (di_seq (de_ix (ix_A hr.u1) ok_ix (de_var 1) (de_var 4))) (blkOk_by (by kernel_rfl)) (by decide) (fun _ _ _ _ _ => dg_name nd) (fun _ _ _ _ _ => dts_one (db_cmp (op_notInA hr.u65) ok_notIn (de_var 6) (de_var 3))) (fun _ _ _ _ _ => de_var 6)))))) (dss_cons (ds_setLc (own := [("name", 4)]) rfl nd (di_seq (de_var 2)) (blkOk_by (by kernel_rfl)) (by decide) (fun _ _ _ _ _ => dg_name nd) (fun _ _ _ _ _ => dts_one (db_cmp (op_neA hr.u64) ok_ne (de_ix (ix_A hr.u1) ok_ix (de_var 1) (de_var 4)) (de_tup (da_nil)))) (fun _ _ _ _ _ => de_ix (ix_A hr.u1) ok_ix (de_call ((ok__law_any_order T).mono (by decide)) hr T.m__law_any_order (T.F__law_any_order).kp T.b__law_any_order (da_cons (de_var 0) (da_cons (de_callTy (call_listA rfl) (list_ok false) T.z_list bt_list (da_cons (de_ix (ix_A hr.u1) ok_ix (de_var 1) (de_var 4)) (da_nil))) (da_nil)))) (de_int)) (sw_true rfl rfl rfl (by decide +kernel))) (dss_cons (ds_asgSw (xs := ["found", "few"]) rfl nd (de_tup (da_cons (de_lstM (da_nil)) (da_cons (de_cmp (op_eqA hr.u64) ok_eq (de_call ((ok__law_pick T).mono (by decide)) hr T.m__law_pick (T.F__law_pick).kp T.b__law_pick (da_cons (de_var 0) (da_cons (de_int) (da_nil)))) (de_int)) (da_nil)))) (by exact ⟨rfl, rfl, rfl, rfl, trivial⟩)) (dss_cons (ds_for [6, 9, 10, 11] PassesOwn.never rfl (di_seq (de_callB (call_srt rfl hr.u66 false) (srt_ok false) T.z_sorted bt_sorted (da_cons (de_op op_addD ok_add (de_var 3) (de_op op_mulD ok_mul (de_lst (da_cons (de_int) (da_nil))) (de_callTy call_int1 int_ok T.z_int bt_int (da_cons (de_cmp (op_eqA hr.u64) ok_eq (de_call ((ok__law_pick T).mono (by decide)) hr T.m__law_pick (T.F__law_pick).kp T.b__law_pick (da_cons (de_var 0) (da_cons (de_int) (da_nil)))) (de_int)) (da_nil))))) (da_nil)))) (dg_name nd) (dss_cons (ds_set nd (de_cntL hr.u66 (de_var 5) (da_cons (de_var 6) (da_nil)))) (dss_cons (ds_set nd (de_callB (call_max2 rfl) max2_ok T.z_max bt_max (da_cons (de_int) (da_cons (de_op op_addD ok_add (de_op op_sub ok_sub (de_var 9) (de_ix (ix_A hr.u1) ok_ix (de_lst (da_cons (de_int) (da_cons (de_int) (da_cons (de_int) (da_cons (de_int) (da_nil)))))) (de_call ((ok__law_pick T).mono (by decide)) hr T.m__law_pick (T.F__law_pick).kp T.b__law_pick (da_cons (de_var 0) (da_cons (de_int) (da_nil)))))) (de_callTy call_int1 int_ok T.z_int bt_int (da_cons (de_cmp (op_eqA hr.u64) ok_eq (de_call ((ok__law_pick T).mono (by decide)) hr T.m__law_pick (T.F__law_pick).kp T.b__law_pick (da_cons (de_var 0) (da_cons (de_int) (da_nil)))) (de_int)) (da_nil)))) (da_nil))))) (dss_cons (ds_set nd (de_if (db_w (dw_and (db_val (de_var 8)) (dw_and1 (db_cmp (op_eqA hr.u64) ok_eq (de_call ((ok__law_pick T).mono (by decide)) hr T.m__law_pick (T.F__law_pick).kp T.b__law_pick (da_cons (de_var 0) (da_cons (de_int) (da_nil)))) (de_int))))) (de_var 10) (de_op op_addD ok_add (de_callB (call_max2 rfl) max2_ok T.z_max bt_max (da_cons (de_var 10) (da_cons (de_var 9) (da_nil)))) (de_ix (ix_A hr.u1) ok_ix (de_lst (da_cons (de_int) (da_cons (de_int) (da_cons (de_int) (da_cons (de_int) (da_cons (de_int) (da_nil))))))) (de_call ((ok__law_pick T).mono (by decide)) hr T.m__law_pick (T.F__law_pick).kp T.b__law_pick (da_cons (de_var 0) (da_cons (de_int) (da_nil)))))))) (dss_one (ds_if (db_cmp op_gt ok_c (de_call ((ok__law_pick T).mono (by decide)) hr T.m__law_pick (T.F__law_pick).kp T.b__law_pick (da_cons (de_var 0) (da_cons (de_int) (da_nil)))) (de_int)) (dss_one (ds_expr (de_met PySem.F.slot_list_append PySem.F.type_list_append mt_append append_ok (de_var 7) (da_cons (de_tup (da_cons (de_var 6) (da_cons (de_var 10) (da_cons (de_var 11) (da_nil))))) (da_nil))))) (dss_nil))))))) (dss_one (ds_ret (de_callTy call_tuple_of tup_ok T.z_tuple bt_tuple (da_cons (de_var 7) (da_nil)))))))))
theorem ok__law_draw_rule (T : Tx K mg t) : FnD P w K mg base 4 t.a__law_draw_rule t.d__law_draw_rule ["source", "stand", "most"] F__law_draw_rule := by
  have nd := (sc__law_draw_rule).nd
  refine fnd_of T.F__law_draw_rule sc__law_draw_rule rfl rfl fun cdv A outer s H hr => ?_
  exact dss_cons (ds_set nd (de_call ((ok__law_draw_lot T).mono (by decide)) hr T.m__law_draw_lot (T.F__law_draw_lot).kp T.b__law_draw_lot (da_cons (de_var 0) (da_cons (de_var 1) (da_cons (de_var 2) (da_nil)))))) (dss_cons (ds_if (db_cmp (op_eqA hr.u64) ok_eq (de_call ((ok__law_pick T).mono (by decide)) hr T.m__law_pick (T.F__law_pick).kp T.b__law_pick (da_cons (de_var 0) (da_cons (de_int) (da_nil)))) (de_int)) (dss_one (ds_ret (de_tup (da_cons (de_str) (da_cons (de_var 3) (da_nil)))))) (dss_nil)) (dss_one (ds_ret (de_tup (da_cons (de_str) (da_cons (de_var 3) (da_cons (de_call ((ok__law_draw_counts T).mono (by decide)) hr T.m__law_draw_counts (T.F__law_draw_counts).kp T.b__law_draw_counts (da_cons (de_var 0) (da_cons (de_var 1) (da_cons (de_var 3) (da_nil))))) (da_nil))))))))
theorem ok__law_low (T : Tx K mg t) : FnD P w K mg base 1 t.a__law_low t.d__law_low ["rule", "value"] F__law_low := by
  have nd := (sc__law_low).nd
  refine fnd_of T.F__law_low sc__law_low rfl rfl fun cdv A outer s H hr => ?_
  exact dss_one (ds_ret (de_if (db_cmp (op_eqA hr.u64) ok_eq (de_ix (ix_A hr.u1) ok_ix (de_var 0) (de_int)) (de_str)) (de_callB (cr_sum rfl) sum_ok T.z_sum bt_sum (da_cons (de_lc (own := [("one", 2)]) rfl nd (di_seq (de_ix (ix_A hr.u1) ok_ix (de_var 0) (de_int))) (blkOk_by (by kernel_rfl)) (by decide) (fun _ _ _ _ _ => dg_name nd) (fun _ _ _ _ _ => dts_one (db_cmp (op_eqA hr.u64) ok_eq (de_ix (ix_A hr.u1) ok_ix (de_var 2) (de_int)) (de_var 1))) (fun _ _ _ _ _ => de_ix (ix_A hr.u1) ok_ix (de_var 2) (de_int))) (da_nil))) (de_int)))
theorem ok__law_high (T : Tx K mg t) : FnD P w K mg base 1 t.a__law_high t.d__law_high ["rule", "value"] F__law_high := by
  have nd := (sc__law_high).nd
  refine fnd_of T.F__law_high sc__law_high rfl rfl fun cdv A outer s H hr => ?_
  exact dss_cons (ds_if (db_cmp (op_eqA hr.u64) ok_eq (de_ix (ix_A hr.u1) ok_ix (de_var 0) (de_int)) (de_str)) (dss_one (ds_ret (de_int))) (dss_nil)) (dss_cons (ds_setLc (own := [("one", 3)]) rfl nd (di_seq (de_ix (ix_A hr.u1) ok_ix (de_var 0) (de_int))) (blkOk_by (by kernel_rfl)) (by decide) (fun _ _ _ _ _ => dg_name nd) (fun _ _ _ _ _ => dts_one (db_cmp (op_eqA hr.u64) ok_eq (de_ix (ix_A hr.u1) ok_ix (de_var 3) (de_int)) (de_var 1))) (fun _ _ _ _ _ => de_ix (ix_A hr.u1) ok_ix (de_var 3) (de_int)) (sw_true rfl rfl rfl (by decide +kernel))) (dss_one (ds_ret (de_if (db_cmp (op_neA hr.u64) ok_ne (de_var 2) (de_lst (da_nil))) (de_ix (ix_A hr.u1) ok_ix (de_var 2) (de_int)) (de_op op_pow ok_i2 (de_int) (de_int))))))
theorem ok__law_rows (T : Tx K mg t) : FnD P w K mg base 2 t.a__law_rows t.d__law_rows ["stand", "rule"] F__law_rows := by
  have nd := (sc__law_rows).nd
  refine fnd_of T.F__law_rows sc__law_rows rfl rfl fun cdv A outer s H hr => ?_
  exact dss_cons (ds_set nd (de_lst (da_cons (de_tupD (da_nil)) (da_nil)))) (dss_cons (ds_for [3, 5, 6] PassesOwn.never rfl (di_seq (de_ix (ix_A hr.u1) ok_ix (de_var 1) (de_int))) (dg_name nd) (dss_cons (ds_set nd (de_lst (da_nil))) (dss_cons (ds_for [6] PassesOwn.never rfl (di_seq (de_var 2)) (dg_name nd) (dss_one (ds_set nd (de_op op_addD ok_add (de_var 5) (de_lc (own := [("value", 8)]) rfl nd (di_seq (de_ix (ix_A hr.u1) ok_ix (de_var 0) (de_var 3))) (blkOk_by (by kernel_rfl)) (by decide) (fun _ _ _ _ _ => dg_name nd) (fun _ _ _ _ _ => dts_one (db_cmp op_lt ok_c (de_cntT hr.u66 PySem.F.slot_tuple_count (de_var 6) (da_cons (de_var 8) (da_nil))) (de_call ((ok__law_high T).mono (by decide)) hr T.m__law_high (T.F__law_high).kp T.b__law_high (da_cons (de_var 1) (da_cons (de_var 8) (da_nil)))))) (fun _ _ _ _ _ => de_op op_catD ok_addD (de_var 6) (de_tupD (da_cons (de_var 8) (da_nil))))))))) (dss_one (ds_set nd (de_var 5)))))) (dss_cons (ds_set nd (de_if (db_cmp (op_eqA hr.u64) ok_eq (de_ix (ix_A hr.u1) ok_ix (de_var 1) (de_int)) (de_str)) (de_lc (own := [("one", 7)]) rfl nd (di_seq (de_ix (ix_A hr.u1) ok_ix (de_var 1) (de_int))) (blkOk_by (by kernel_rfl)) (by decide) (fun _ _ _ _ _ => dg_name nd) (fun _ _ _ _ _ => dts_nil) (fun _ _ _ _ _ => de_ix (ix_A hr.u1) ok_ix (de_var 7) (de_int))) (de_lst (da_nil)))) (dss_one (ds_ret (de_lc (own := [("row", 6)]) rfl nd (di_seq (de_var 2)) (blkOk_by (by kernel_rfl)) (by decide) (fun _ _ _ _ _ => dg_name nd) (fun _ _ _ _ _ => dts_one (db_val (de_callB (cr_all rfl) all_ok T.z_all bt_all (da_cons (de_lc (own := [("value", 8)]) rfl nd (di_seq (de_var 4)) (blkOk_by (by kernel_rfl)) (by decide) (fun _ _ _ _ _ => dg_name nd) (fun _ _ _ _ _ => dts_nil) (fun _ _ _ _ _ => de_cmp op_ge ok_c (de_cntT hr.u66 PySem.F.slot_tuple_count (de_var 6) (da_cons (de_var 8) (da_nil))) (de_call ((ok__law_low T).mono (by decide)) hr T.m__law_low (T.F__law_low).kp T.b__law_low (da_cons (de_var 1) (da_cons (de_var 8) (da_nil)))))) (da_nil))))) (fun _ _ _ _ _ => de_var 6))))))
theorem ok_lot_of (T : Tx K mg t) : FnD P w K mg base 1 t.a_lot_of t.d_lot_of ["rule"] F_lot_of := by
  have nd := (sc_lot_of).nd
  refine fnd_of T.F_lot_of sc_lot_of rfl rfl fun cdv A outer s H hr => ?_
  exact dss_one (ds_ret (de_callTy call_tupD tupD_ok T.z_tuple bt_tuple (da_cons (de_callB (call_srt rfl hr.u66 false) (srt_ok false) T.z_sorted bt_sorted (da_cons (de_ix (ix_A hr.u1) ok_ix (de_var 0) (de_int)) (da_nil))) (da_nil))))
theorem ok_told_bounds (T : Tx K mg t) : FnD P w K mg base 1 t.a_told_bounds t.d_told_bounds ["rule"] F_told_bounds := by
  have nd := (sc_told_bounds).nd
  refine fnd_of T.F_told_bounds sc_told_bounds rfl rfl fun cdv A outer s H hr => ?_
  exact dss_cons (ds_if (db_cmp (op_eqA hr.u64) ok_eq (de_ix (ix_A hr.u1) ok_ix (de_var 0) (de_int)) (de_str)) (dss_one (ds_ret (de_dicN))) (dss_nil)) (dss_one (ds_ret (de_dc (own := [("value", 1), ("low", 2), ("high", 3)]) rfl nd (di_seq (de_ix (ix_A hr.u1) ok_ix (de_var 0) (de_int))) (blkOk_by (by kernel_rfl)) (by decide) (fun _ _ _ _ _ => dg_tup rfl (dgs_cons nd (dgs_cons nd (dgs_cons nd (dgs_nil))))) (fun _ _ _ _ _ => dts_nil) (fun _ _ _ _ _ => de_var 1) (fun _ _ _ _ _ => de_tup (da_cons (de_var 2) (da_cons (de_var 3) (da_nil)))))))
theorem ok_high_of (T : Tx K mg t) : FnD P w K mg base 2 t.a_high_of t.d_high_of ["rule", "value"] F_high_of := by
  have nd := (sc_high_of).nd
  refine fnd_of T.F_high_of sc_high_of rfl rfl fun cdv A outer s H hr => ?_
  exact dss_cons (ds_if (db_cmp (op_eqA hr.u64) ok_eq (de_ix (ix_A hr.u1) ok_ix (de_var 0) (de_int)) (de_str)) (dss_one (ds_ret (de_int))) (dss_nil)) (dss_one (ds_ret (de_ix (ix_A hr.u1) ok_ix (de_dget hr.u1 (de_call ((ok_told_bounds T).mono (by decide)) hr T.m_told_bounds (T.F_told_bounds).kp T.b_told_bounds (da_cons (de_var 0) (da_nil))) (de_var 1) (de_tup (da_cons (de_int) (da_cons (de_non) (da_nil))))) (de_int))))
theorem ok_roomed (T : Tx K mg t) : FnD P w K mg base 3 t.a_roomed t.d_roomed ["rule", "place", "value"] F_roomed := by
  have nd := (sc_roomed).nd
  refine fnd_of T.F_roomed sc_roomed rfl rfl fun cdv A outer s H hr => ?_
  exact dss_cons (ds_set nd (de_call ((ok_high_of T).mono (by decide)) hr T.m_high_of (T.F_high_of).kp T.b_high_of (da_cons (de_var 0) (da_cons (de_var 2) (da_nil))))) (dss_one (ds_ret (de_or (de_cmp op_isN ok_isN (de_var 3) (de_non)) (de_one (de_cmp op_lt ok_c (de_callB call_lenA len_ok T.z_len bt_len (da_cons (de_lock 1 (de_lc (own := [("name", 4)]) rfl nd (di_keyL (de_var 1)) (blkOk_by (by kernel_rfl)) (by decide) (fun _ _ _ _ _ => dg_name nd) (fun _ _ _ _ _ => dts_one (db_cmp (op_eqA hr.u64) ok_eq (de_ix (ix_A hr.u1) ok_ix (de_var 1) (de_var 4)) (de_var 2))) (fun _ _ _ _ _ => de_var 4))) (da_nil))) (de_var 3))))))
theorem ok_chained (T : Tx K mg t) : FnD P w K mg base 1 t.a_chained t.d_chained ["place", "met", "number", "value"] F_chained := by
  have nd := (sc_chained).nd
  refine fnd_of T.F_chained sc_chained rfl rfl fun cdv A outer s H hr => ?_
  exact dss_cons (ds_set nd (de_callTy call_dictD dictC_ok T.z_dict bt_dict (da_cons (de_var 0) (da_nil)))) (dss_cons (ds_while [5, 6, 7] PassesOwn.never (db_cmp op_notN ok_notN (de_var 2) (de_non)) (dss_cons (ds_asg (de_ix (ix_A hr.u1) ok_ix (de_var 1) (de_var 2)) (dg_tup rfl (dgs_cons nd (dgs_cons nd (dgs_cons nd (dgs_nil)))))) (dss_cons (ds_put hr.u1 (de_var 3) (de_var 4) (de_var 5)) (dss_one (ds_asgSw (xs := ["number", "value"]) rfl nd (de_tup (da_cons (de_var 6) (da_cons (de_var 7) (da_nil)))) (by exact ⟨rfl, rfl, rfl, rfl, trivial⟩)))))) (dss_one (ds_ret (de_var 4))))
theorem ok_go_on (T : Tx K mg t) : FnD P w K mg base 4 t.a_go_on t.d_go_on ["rule", "domains", "place", "first"] F_go_on := by
  have nd := (sc_go_on).nd
  refine fnd_of T.F_go_on sc_go_on rfl rfl fun cdv A outer s H hr => ?_
  exact dss_cons (ds_asg (de_tup (da_cons (de_lst (da_cons (de_tup (da_cons (de_var 3) (da_cons (de_non) (da_cons (de_non) (da_nil))))) (da_nil))) (da_cons (de_lstM (da_nil)) (da_cons (de_int) (da_nil))))) (dg_tup rfl (dgs_cons nd (dgs_cons nd (dgs_cons nd (dgs_nil)))))) (dss_cons (ds_while [7] PassesOwn.never (db_cmp op_lt ok_c (de_var 6) (de_callB call_lenA len_ok T.z_len bt_len (da_cons (de_var 4) (da_nil)))) (dss_cons (ds_for [7] PassesOwn.never rfl (di_seq (de_ix (ix_A hr.u1) ok_ix (de_var 1) (de_ix (ix_A hr.u1) ok_ix (de_ix (ix_A hr.u1) ok_ix (de_var 4) (de_var 6)) (de_int)))) (dg_name nd) (dss_cons (ds_if (db_val (de_call ((ok_roomed T).mono (by decide)) hr T.m_roomed (T.F_roomed).kp T.b_roomed (da_cons (de_var 0) (da_cons (de_var 2) (da_cons (de_var 7) (da_nil)))))) (dss_one (ds_ret (de_tup (da_cons (de_call ((ok_chained T).mono (by decide)) hr T.m_chained (T.F_chained).kp T.b_chained (da_cons (de_var 2) (da_cons (de_var 4) (da_cons (de_var 6) (da_cons (de_var 7) (da_nil)))))) (da_cons (de_non) (da_nil)))))) (dss_nil)) (dss_one (ds_if (db_cmp (op_notInA hr.u65) ok_notIn (de_var 7) (de_var 5)) (dss_cons (ds_expr (de_met PySem.F.slot_list_append PySem.F.type_list_append mt_append append_ok (de_var 5) (da_cons (de_var 7) (da_nil)))) (dss_one (ds_set nd (de_op op_addD ok_add (de_var 4) (de_lock 2 (de_lc (own := [("other", 11)]) rfl nd (di_keyL (de_var 2)) (blkOk_by (by kernel_rfl)) (by decide) (fun _ _ _ _ _ => dg_name nd) (fun _ _ _ _ _ => dts_one (db_cmp (op_eqA hr.u64) ok_eq (de_ix (ix_A hr.u1) ok_ix (de_var 2) (de_var 11)) (de_var 7))) (fun _ _ _ _ _ => de_tup (da_cons (de_var 11) (da_cons (de_var 6) (da_cons (de_var 7) (da_nil))))))))))) (dss_nil))))) (dss_one (ds_set nd (de_op op_addD ok_add (de_var 6) (de_int)))))) (dss_one (ds_ret (de_tup (da_cons (de_non) (da_cons (de_lc (own := [("name", 8), ("before", 9), ("old", 10)]) rfl nd (di_seq (de_var 4)) (blkOk_by (by kernel_rfl)) (by decide) (fun _ _ _ _ _ => dg_tup rfl (dgs_cons nd (dgs_cons nd (dgs_cons nd (dgs_nil))))) (fun _ _ _ _ _ => dts_nil) (fun _ _ _ _ _ => de_var 8)) (da_nil)))))))
theorem ok_placed (T : Tx K mg t) : FnD P w K mg base 5 t.a_placed t.d_placed ["rule", "domains"] F_placed := by
  have nd := (sc_placed).nd
  refine fnd_of T.F_placed sc_placed rfl rfl fun cdv A outer s H hr => ?_
  exact dss_cons (ds_set nd (de_dicN)) (dss_cons (ds_lock 1 (ds_for [3, 4, 5] PassesOwn.never rfl (di_keyL (de_var 1)) (dg_name nd) (dss_cons (ds_asg (de_call ((ok_go_on T).mono (by decide)) hr T.m_go_on (T.F_go_on).kp T.b_go_on (da_cons (de_var 0) (da_cons (de_var 1) (da_cons (de_var 2) (da_cons (de_var 3) (da_nil)))))) (dg_tup rfl (dgs_cons nd (dgs_cons nd (dgs_nil))))) (dss_cons (ds_if (db_cmp op_isN ok_isR (de_var 4) (de_non)) (dss_one (ds_ret (de_tup (da_cons (de_non) (da_cons (de_var 5) (da_nil)))))) (dss_nil)) (dss_one (ds_set nd (de_var 4))))))) (dss_one (ds_ret (de_tup (da_cons (de_var 2) (da_cons (de_non) (da_nil)))))))
theorem ok_handed (T : Tx K mg t) : FnD P w K mg base 1 t.a_handed t.d_handed ["given", "met", "number", "name"] F_handed := by
  have nd := (sc_handed).nd
  refine fnd_of T.F_handed sc_handed rfl rfl fun cdv A outer s H hr => ?_
  exact dss_cons (ds_set nd (de_callTy call_dictD dictC_ok T.z_dict bt_dict (da_cons (de_var 0) (da_nil)))) (dss_cons (ds_while [5, 6, 7] PassesOwn.never (db_cmp op_notN ok_notN (de_var 2) (de_non)) (dss_cons (ds_asg (de_ix (ix_A hr.u1) ok_ix (de_var 1) (de_var 2)) (dg_tup rfl (dgs_cons nd (dgs_cons nd (dgs_cons nd (dgs_nil)))))) (dss_cons (ds_put hr.u1 (de_var 5) (de_var 4) (de_var 3)) (dss_one (ds_asgSw (xs := ["number", "name"]) rfl nd (de_tup (da_cons (de_var 6) (da_cons (de_var 7) (da_nil)))) (by exact ⟨rfl, rfl, rfl, rfl, trivial⟩)))))) (dss_one (ds_ret (de_var 4))))
theorem ok_give_one (T : Tx K mg t) : FnD P w K mg base 2 t.a_give_one t.d_give_one ["domains", "given", "first"] F_give_one := by
  have nd := (sc_give_one).nd
  refine fnd_of T.F_give_one sc_give_one rfl rfl fun cdv A outer s H hr => ?_
  exact dss_cons (ds_asgSw (xs := ["met", "seen", "number"]) rfl nd (de_tup (da_cons (de_lst (da_cons (de_tup (da_cons (de_var 2) (da_cons (de_non) (da_cons (de_non) (da_nil))))) (da_nil))) (da_cons (de_lstM (da_nil)) (da_cons (de_int) (da_nil))))) (by exact ⟨rfl, rfl, rfl, rfl, rfl, rfl, trivial⟩)) (dss_cons (ds_while [6] PassesOwn.never (db_cmp op_lt ok_c (de_var 5) (de_callB call_lenA len_ok T.z_len bt_len (da_cons (de_var 3) (da_nil)))) (dss_cons (ds_lock 0 (ds_for [6] PassesOwn.never rfl (di_keyL (de_var 0)) (dg_name nd) (dss_one (ds_if (db_w (dw_and (db_cmp (op_inA hr.u65) ok_in (de_ix (ix_A hr.u1) ok_ix (de_ix (ix_A hr.u1) ok_ix (de_var 3) (de_var 5)) (de_int)) (de_ix (ix_A hr.u1) ok_ix (de_var 0) (de_var 6))) (dw_and1 (db_cmp (op_notInA hr.u65) ok_notIn (de_var 6) (de_var 4))))) (dss_cons (ds_expr (de_met PySem.F.slot_list_append PySem.F.type_list_append mt_append append_ok (de_var 4) (da_cons (de_var 6) (da_nil)))) (dss_cons (ds_if (db_cmp (op_notInA hr.u65) ok_notIn (de_var 6) (de_var 1)) (dss_one (ds_ret (de_tup (da_cons (de_call ((ok_handed T).mono (by decide)) hr T.m_handed (T.F_handed).kp T.b_handed (da_cons (de_var 1) (da_cons (de_var 3) (da_cons (de_var 5) (da_cons (de_var 6) (da_nil)))))) (da_cons (de_non) (da_nil)))))) (dss_nil)) (dss_one (ds_if (db_cmp (op_notInA hr.u65) ok_notIn (de_ix (ix_A hr.u1) ok_ix (de_var 1) (de_var 6)) (de_lc (own := [("one", 10)]) rfl nd (di_seq (de_var 3)) (blkOk_by (by kernel_rfl)) (by decide) (fun _ _ _ _ _ => dg_name nd) (fun _ _ _ _ _ => dts_nil) (fun _ _ _ _ _ => de_ix (ix_A hr.u1) ok_ix (de_var 10) (de_int)))) (dss_one (ds_set nd (de_op op_addD ok_add (de_var 3) (de_lst (da_cons (de_tup (da_cons (de_ix (ix_A hr.u1) ok_ix (de_var 1) (de_var 6)) (da_cons (de_var 5) (da_cons (de_var 6) (da_nil))))) (da_nil)))))) (dss_nil))))) (dss_nil))))) (dss_one (ds_set nd (de_op op_addD ok_add (de_var 5) (de_int)))))) (dss_one (ds_ret (de_tup (da_cons (de_non) (da_cons (de_callB (call_srt rfl hr.u66 false) (srt_ok false) T.z_sorted bt_sorted (da_cons (de_lc (own := [("value", 7), ("before", 8), ("old", 9)]) rfl nd (di_seq (de_var 3)) (blkOk_by (by kernel_rfl)) (by decide) (fun _ _ _ _ _ => dg_tup rfl (dgs_cons nd (dgs_cons nd (dgs_cons nd (dgs_nil))))) (fun _ _ _ _ _ => dts_nil) (fun _ _ _ _ _ => de_var 7)) (da_nil))) (da_nil)))))))
theorem ok_given_lows (T : Tx K mg t) : FnD P w K mg base 3 t.a_given_lows t.d_given_lows ["rule", "domains"] F_given_lows := by
  have nd := (sc_given_lows).nd
  refine fnd_of T.F_given_lows sc_given_lows rfl rfl fun cdv A outer s H hr => ?_
  exact dss_cons (ds_set nd (de_dicN)) (dss_cons (ds_for [3, 4, 5, 6, 7, 8] PassesOwn.never rfl (di_seq (de_itemsS rfl hr.u66 T.z_sorted (de_call ((ok_told_bounds T).mono (by decide)) hr T.m_told_bounds (T.F_told_bounds).kp T.b_told_bounds (da_cons (de_var 0) (da_nil))))) (dg_tupG rfl (dgs0_cons (dg0_name nd) (dgs0_cons (dg0_tup rfl (dgs_cons nd (dgs_cons nd (dgs_nil)))) (dgs0_nil)))) (dss_one (ds_for [4, 7, 8] PassesOwn.never rfl (di_rng1 T.z_range (da_cons (de_var 5) (da_nil))) (dg_name nd) (dss_cons (ds_asg (de_call ((ok_give_one T).mono (by decide)) hr T.m_give_one (T.F_give_one).kp T.b_give_one (da_cons (de_var 1) (da_cons (de_var 2) (da_cons (de_var 3) (da_nil))))) (dg_tup rfl (dgs_cons nd (dgs_cons nd (dgs_nil))))) (dss_cons (ds_if (db_cmp op_isN ok_isR (de_var 7) (de_non)) (dss_one (ds_ret (de_tup (da_cons (de_non) (da_cons (de_var 8) (da_nil)))))) (dss_nil)) (dss_one (ds_set nd (de_var 7)))))))) (dss_one (ds_ret (de_tup (da_cons (de_var 2) (da_cons (de_non) (da_nil)))))))
theorem ok_put_together (T : Tx K mg t) : FnD P w K mg base 2 t.a_put_together t.d_put_together ["rule", "place", "given"] F_put_together := by
  have nd := (sc_put_together).nd
  refine fnd_of T.F_put_together sc_put_together rfl rfl fun cdv A outer s H hr => ?_
  exact dss_cons (ds_asg (de_tup (da_cons (de_callTy call_dictD dictC_ok T.z_dict bt_dict (da_cons (de_var 1) (da_nil))) (da_cons (de_call ((ok_told_bounds T).mono (by decide)) hr T.m_told_bounds (T.F_told_bounds).kp T.b_told_bounds (da_cons (de_var 0) (da_nil))) (da_nil)))) (dg_tup rfl (dgs_cons nd (dgs_cons nd (dgs_nil))))) (dss_cons (ds_for [3, 6, 7, 8, 9] PassesOwn.never rfl (di_seq (de_callB (call_srt rfl hr.u66 false) (srt_ok false) T.z_sorted bt_sorted (da_cons (de_var 5) (da_nil)))) (dg_name nd) (dss_one (ds_while [6, 7, 8, 9] PassesOwn.never (db_cmp op_lt ok_c (de_callB call_lenA len_ok T.z_len bt_len (da_cons (de_lock 4 (de_lc (own := [("name", 7)]) rfl nd (di_keyL (de_var 4)) (blkOk_by (by kernel_rfl)) (by decide) (fun _ _ _ _ _ => dg_name nd) (fun _ _ _ _ _ => dts_one (db_cmp (op_eqA hr.u64) ok_eq (de_ix (ix_A hr.u1) ok_ix (de_var 4) (de_var 7)) (de_var 3))) (fun _ _ _ _ _ => de_var 7))) (da_nil))) (de_ix (ix_A hr.u1) ok_ix (de_ix (ix_A hr.u1) ok_ix (de_var 5) (de_var 3)) (de_int))) (dss_cons (ds_set nd (de_var 3)) (dss_one (ds_while [7, 8, 9] PassesOwn.never (db_cmp op_notN ok_notN (de_var 6) (de_non)) (dss_cons (ds_set nd (de_ix (ix_A hr.u1) ok_ix (de_lock 2 (de_lc (own := [("one", 10)]) rfl nd (di_keyL (de_var 2)) (blkOk_by (by kernel_rfl)) (by decide) (fun _ _ _ _ _ => dg_name nd) (fun _ _ _ _ _ => dts_one (db_w (dw_and (db_cmp (op_eqA hr.u64) ok_eq (de_ix (ix_A hr.u1) ok_ix (de_var 2) (de_var 10)) (de_var 6)) (dw_and1 (db_cmp (op_neA hr.u64) ok_ne (de_ix (ix_A hr.u1) ok_ix (de_var 4) (de_var 10)) (de_var 6)))))) (fun _ _ _ _ _ => de_var 10))) (de_int))) (dss_cons (ds_set nd (de_ix (ix_A hr.u1) ok_ix (de_var 4) (de_var 7))) (dss_cons (ds_put hr.u1 (de_var 6) (de_var 4) (de_var 7)) (dss_cons (ds_set nd (de_callB call_lenA len_ok T.z_len bt_len (da_cons (de_lock 4 (de_lc (own := [("one", 10)]) rfl nd (di_keyL (de_var 4)) (blkOk_by (by kernel_rfl)) (by decide) (fun _ _ _ _ _ => dg_name nd) (fun _ _ _ _ _ => dts_one (db_cmp (op_eqA hr.u64) ok_eq (de_ix (ix_A hr.u1) ok_ix (de_var 4) (de_var 10)) (de_var 8))) (fun _ _ _ _ _ => de_var 10))) (da_nil)))) (dss_one (ds_set nd (de_if (db_w (dw_and (db_cmp (op_inA hr.u65) ok_in (de_var 8) (de_var 5)) (dw_and1 (db_cmp op_lt ok_c (de_var 9) (de_ix (ix_A hr.u1) ok_ix (de_ix (ix_A hr.u1) ok_ix (de_var 5) (de_var 8)) (de_int)))))) (de_var 8) (de_non)))))))))))))) (dss_one (ds_ret (de_var 4))))
theorem ok_answered (T : Tx K mg t) : FnD P w K mg base 6 t.a_answered t.d_answered ["rule", "lot", "domains", "name"] F_answered := by
  have nd := (sc_answered).nd
  refine fnd_of T.F_answered sc_answered rfl rfl fun cdv A outer s H hr => ?_
  exact dss_cons (ds_asg (de_call ((ok_placed T).mono (by decide)) hr T.m_placed (T.F_placed).kp T.b_placed (da_cons (de_var 0) (da_cons (de_var 2) (da_nil)))) (dg_tup rfl (dgs_cons nd (dgs_cons nd (dgs_nil))))) (dss_cons (ds_if (db_cmp op_isN ok_isR (de_var 5) (de_non)) (dss_one (ds_ret (de_tup (da_cons (de_str) (da_cons (de_callTy call_tuple_of tup_ok T.z_tuple bt_tuple (da_cons (de_callB (call_srt rfl hr.u66 false) (srt_ok false) T.z_sorted bt_sorted (da_cons (de_lc (own := [("one", 9)]) rfl nd (di_seq (de_var 6)) (blkOk_by (by kernel_rfl)) (by decide) (fun _ _ _ _ _ => dg_name nd) (fun _ _ _ _ _ => dts_one (db_cmp (op_neA hr.u64) ok_ne (de_var 9) (de_var 3))) (fun _ _ _ _ _ => de_var 9)) (da_nil))) (da_nil))) (da_nil)))))) (dss_nil)) (dss_cons (ds_asg (de_call ((ok_given_lows T).mono (by decide)) hr T.m_given_lows (T.F_given_lows).kp T.b_given_lows (da_cons (de_var 0) (da_cons (de_var 2) (da_nil)))) (dg_tup rfl (dgs_cons nd (dgs_cons nd (dgs_nil))))) (dss_cons (ds_if (db_cmp op_isN ok_isR (de_var 7) (de_non)) (dss_one (ds_ret (de_tup (da_cons (de_str) (da_cons (de_callTy call_tuple_of tup_ok T.z_tuple bt_tuple (da_cons (de_var 8) (da_nil))) (da_nil)))))) (dss_nil)) (dss_cons (ds_set nd (de_call ((ok_put_together T).mono (by decide)) hr T.m_put_together (T.F_put_together).kp T.b_put_together (da_cons (de_var 0) (da_cons (de_var 5) (da_cons (de_var 7) (da_nil)))))) (dss_one (ds_ret (de_tup (da_cons (de_str) (da_cons (de_callTy call_tuple_of tup_ok T.z_tuple bt_tuple (da_cons (de_lc (own := [("one", 9)]) rfl nd (di_seq (de_var 1)) (blkOk_by (by kernel_rfl)) (by decide) (fun _ _ _ _ _ => dg_name nd) (fun _ _ _ _ _ => dts_nil) (fun _ _ _ _ _ => de_ix (ix_A hr.u1) ok_ix (de_var 4) (de_var 9))) (da_nil))) (da_nil))))))))))
theorem ok_crowd_none (T : Tx K mg t) : FnD P w K mg base 7 t.a_crowd_none t.d_crowd_none ["stand", "rule"] F_crowd_none := by
  have nd := (sc_crowd_none).nd
  refine fnd_of T.F_crowd_none sc_crowd_none rfl rfl fun cdv A outer s H hr => ?_
  exact dss_cons (ds_set nd (de_call ((ok_lot_of T).mono (by decide)) hr T.m_lot_of (T.F_lot_of).kp T.b_lot_of (da_cons (de_var 1) (da_nil)))) (dss_one (ds_ret (de_call ((ok_answered T).mono (by decide)) hr T.m_answered (T.F_answered).kp T.b_answered (da_cons (de_var 1) (da_cons (de_var 2) (da_cons (de_dc (own := [("one", 3)]) rfl nd (di_seq (de_var 2)) (blkOk_by (by kernel_rfl)) (by decide) (fun _ _ _ _ _ => dg_name nd) (fun _ _ _ _ _ => dts_nil) (fun _ _ _ _ _ => de_var 3) (fun _ _ _ _ _ => de_ix (ix_A hr.u1) ok_ix (de_var 0) (de_var 3))) (da_cons (de_non) (da_nil))))))))
theorem ok_crowd_paper (T : Tx K mg t) : FnD P w K mg base 7 t.a_crowd_paper t.d_crowd_paper ["stand", "rule", "name", "value"] F_crowd_paper := by
  have nd := (sc_crowd_paper).nd
  refine fnd_of T.F_crowd_paper sc_crowd_paper rfl rfl fun cdv A outer s H hr => ?_
  exact dss_cons (ds_set nd (de_call ((ok_lot_of T).mono (by decide)) hr T.m_lot_of (T.F_lot_of).kp T.b_lot_of (da_cons (de_var 1) (da_nil)))) (dss_cons (ds_setDc (own := [("one", 6)]) rfl nd (di_seq (de_var 4)) (blkOk_by (by kernel_rfl)) (by decide) (fun _ _ _ _ _ => dg_name nd) (fun _ _ _ _ _ => dts_nil) (fun _ _ _ _ _ => de_var 6) (fun _ _ _ _ _ => de_if (db_cmp (op_neA hr.u64) ok_ne (de_var 6) (de_var 2)) (de_ix (ix_A hr.u1) ok_ix (de_var 0) (de_var 6)) (de_tup (da_cons (de_var 3) (da_nil)))) (sw_trueD rfl rfl rfl (by decide +kernel))) (dss_one (ds_ret (de_call ((ok_answered T).mono (by decide)) hr T.m_answered (T.F_answered).kp T.b_answered (da_cons (de_var 1) (da_cons (de_var 4) (da_cons (de_var 5) (da_cons (de_var 2) (da_nil)))))))))
theorem ok_struck_crowds (T : Tx K mg t) : FnD P w K mg base 8 t.a_struck_crowds t.d_struck_crowds ["stand", "rule"] F_struck_crowds := by
  have nd := (sc_struck_crowds).nd
  refine fnd_of T.F_struck_crowds sc_struck_crowds rfl rfl fun cdv A outer s H hr => ?_
  exact dss_cons (ds_set nd (de_lstM (da_nil))) (dss_cons (ds_for [3, 4] PassesOwn.never rfl (di_seq (de_call ((ok_lot_of T).mono (by decide)) hr T.m_lot_of (T.F_lot_of).kp T.b_lot_of (da_cons (de_var 1) (da_nil)))) (dg_name nd) (dss_one (ds_for [4] PassesOwn.never rfl (di_seq (de_ix (ix_A hr.u1) ok_ix (de_var 0) (de_var 3))) (dg_name nd) (dss_one (ds_if (db_cmp (op_neA hr.u64) ok_ne (de_ix (ix_A hr.u1) ok_ix (de_call ((ok_crowd_paper T).mono (by decide)) hr T.m_crowd_paper (T.F_crowd_paper).kp T.b_crowd_paper (da_cons (de_var 0) (da_cons (de_var 1) (da_cons (de_var 3) (da_cons (de_var 4) (da_nil)))))) (de_int)) (de_str)) (dss_one (ds_expr (de_met PySem.F.slot_list_append PySem.F.type_list_append mt_append append_ok (de_var 2) (da_cons (de_tup (da_cons (de_var 3) (da_cons (de_var 4) (da_nil)))) (da_nil))))) (dss_nil)))))) (dss_one (ds_ret (de_callTy call_tuple_of tup_ok T.z_tuple bt_tuple (da_cons (de_var 2) (da_nil))))))
theorem ok__law_values (T : Tx K mg t) : FnD P w K mg base 1 t.a__law_values t.d__law_values ["stand", "names"] F__law_values := by
  have nd := (sc__law_values).nd
  refine fnd_of T.F__law_values sc__law_values rfl rfl fun cdv A outer s H hr => ?_
  exact dss_cons (ds_set nd (de_lst (da_nil))) (dss_cons (ds_for [3] PassesOwn.never rfl (di_seq (de_var 1)) (dg_name nd) (dss_one (ds_set nd (de_op op_addD ok_add (de_var 2) (de_lc (own := [("value", 4)]) rfl nd (di_seq (de_ix (ix_A hr.u1) ok_ix (de_var 0) (de_var 3))) (blkOk_by (by kernel_rfl)) (by decide) (fun _ _ _ _ _ => dg_name nd) (fun _ _ _ _ _ => dts_one (db_cmp (op_notInA hr.u65) ok_notIn (de_var 4) (de_var 2))) (fun _ _ _ _ _ => de_var 4)))))) (dss_one (ds_ret (de_callB (call_srt rfl hr.u66 false) (srt_ok false) T.z_sorted bt_sorted (da_cons (de_var 2) (da_nil))))))
theorem ok__law_is_crowd (T : Tx K mg t) : FnD P w K mg base 2 t.a__law_is_crowd t.d__law_is_crowd ["stand", "rule", "names", "value"] F__law_is_crowd := by
  have nd := (sc__law_is_crowd).nd
  refine fnd_of T.F__law_is_crowd sc__law_is_crowd rfl rfl fun cdv A outer s H hr => ?_
  exact dss_cons (ds_set nd (de_call ((ok__law_values T).mono (by decide)) hr T.m__law_values (T.F__law_values).kp T.b__law_values (da_cons (de_var 0) (da_cons (de_var 2) (da_nil))))) (dss_cons (ds_if (db_cmp op_lt ok_c (de_callB (cr_sum rfl) sum_ok T.z_sum bt_sum (da_cons (de_lc (own := [("one", 6)]) rfl nd (di_seq (de_var 4)) (blkOk_by (by kernel_rfl)) (by decide) (fun _ _ _ _ _ => dg_name nd) (fun _ _ _ _ _ => dts_nil) (fun _ _ _ _ _ => de_call ((ok__law_high T).mono (by decide)) hr T.m__law_high (T.F__law_high).kp T.b__law_high (da_cons (de_var 1) (da_cons (de_var 6) (da_nil))))) (da_nil))) (de_callB call_lenA len_ok T.z_len bt_len (da_cons (de_var 2) (da_nil)))) (dss_one (ds_ret (de_bl))) (dss_nil)) (dss_cons (ds_if (db_cmp op_isN ok_isN (de_var 3) (de_non)) (dss_one (ds_ret (de_bl))) (dss_nil)) (dss_cons (ds_set nd (de_op op_addD ok_add (de_var 4) (de_lc (own := [("one", 6)]) rfl nd (di_seq (de_lst (da_cons (de_var 3) (da_nil)))) (blkOk_by (by kernel_rfl)) (by decide) (fun _ _ _ _ _ => dg_name nd) (fun _ _ _ _ _ => dts_one (db_cmp (op_notInA hr.u65) ok_notIn (de_var 6) (de_var 4))) (fun _ _ _ _ _ => de_var 6)))) (dss_one (ds_ret (de_cmp op_le ok_c (de_callB (cr_sum rfl) sum_ok T.z_sum bt_sum (da_cons (de_lc (own := [("one", 6)]) rfl nd (di_seq (de_var 5)) (blkOk_by (by kernel_rfl)) (by decide) (fun _ _ _ _ _ => dg_name nd) (fun _ _ _ _ _ => dts_nil) (fun _ _ _ _ _ => de_call ((ok__law_high T).mono (by decide)) hr T.m__law_high (T.F__law_high).kp T.b__law_high (da_cons (de_var 1) (da_cons (de_var 6) (da_nil))))) (da_nil))) (de_callB call_lenA len_ok T.z_len bt_len (da_cons (de_var 2) (da_nil)))))))))
theorem ok__law_is_want (T : Tx K mg t) : FnD P w K mg base 2 t.a__law_is_want t.d__law_is_want ["stand", "rule", "name", "value", "some"] F__law_is_want := by
  have nd := (sc__law_is_want).nd
  refine fnd_of T.F__law_is_want sc__law_is_want rfl rfl fun cdv A outer s H hr => ?_
  exact dss_cons (ds_set nd (de_callTy call_int1 int_ok T.z_int bt_int (da_cons (de_and (de_cmp op_notN ok_notN (de_var 2) (de_non)) (de_one (de_cmp (op_inA hr.u65) ok_in (de_var 3) (de_var 4)))) (da_nil)))) (dss_cons (ds_for [6] PassesOwn.never rfl (di_seq (de_ix (ix_A hr.u1) ok_ix (de_var 1) (de_int))) (dg_name nd) (dss_one (ds_set nd (de_op op_addD ok_add (de_var 5) (de_callTy call_int1 int_ok T.z_int bt_int (da_cons (de_and (de_cmp (op_neA hr.u64) ok_ne (de_var 6) (de_var 2)) (de_one (de_cmp (op_neA hr.u64) ok_ne (de_lc (own := [("late", 7)]) rfl nd (di_seq (de_ix (ix_A hr.u1) ok_ix (de_var 0) (de_var 6))) (blkOk_by (by kernel_rfl)) (by decide) (fun _ _ _ _ _ => dg_name nd) (fun _ _ _ _ _ => dts_one (db_cmp (op_inA hr.u65) ok_in (de_var 7) (de_var 4))) (fun _ _ _ _ _ => de_var 7)) (de_lst (da_nil))))) (da_nil))))))) (dss_one (ds_ret (de_cmp op_lt ok_c (de_var 5) (de_callB (cr_sum rfl) sum_ok T.z_sum bt_sum (da_cons (de_lc (own := [("one", 6)]) rfl nd (di_seq (de_var 4)) (blkOk_by (by kernel_rfl)) (by decide) (fun _ _ _ _ _ => dg_name nd) (fun _ _ _ _ _ => dts_nil) (fun _ _ _ _ _ => de_call ((ok__law_low T).mono (by decide)) hr T.m__law_low (T.F__law_low).kp T.b__law_low (da_cons (de_var 1) (da_cons (de_var 6) (da_nil))))) (da_nil)))))))
theorem ok__law_is_up (T : Tx K mg t) : FnD P w K mg base 1 t.a__law_is_up t.d__law_is_up ["value", "known"] F__law_is_up := by
  have nd := (sc__law_is_up).nd
  refine fnd_of T.F__law_is_up sc__law_is_up rfl rfl fun cdv A outer s H hr => ?_
  exact dss_cons (ds_if (db_w (dw_or (db_not (db_val (de_isi .tup T.z_isinstance bt_isinstance T.z_tuple bt_tuple (de_var 0)))) (dw_or1 (db_not (db_val (de_callB (cr_all rfl) all_ok T.z_all bt_all (da_cons (de_lc (own := [("one", 2)]) rfl nd (di_seq (de_var 0)) (blkOk_by (by kernel_rfl)) (by decide) (fun _ _ _ _ _ => dg_name nd) (fun _ _ _ _ _ => dts_nil) (fun _ _ _ _ _ => de_and (de_isi .int T.z_isinstance bt_isinstance T.z_int bt_int (de_var 2)) (de_one (de_not (de_isi .bool T.z_isinstance bt_isinstance T.z_bool bt_bool (de_var 2)))))) (da_nil)))))))) (dss_one (ds_ret (de_bl))) (dss_nil)) (dss_one (ds_ret (de_and (de_callB (cr_all rfl) all_ok T.z_all bt_all (da_cons (de_lc (own := [("one", 2)]) rfl nd (di_seq (de_var 0)) (blkOk_by (by kernel_rfl)) (by decide) (fun _ _ _ _ _ => dg_name nd) (fun _ _ _ _ _ => dts_nil) (fun _ _ _ _ _ => de_cmp (op_inA hr.u65) ok_in (de_var 2) (de_var 1))) (da_nil))) (de_one (de_cmp (op_eqA hr.u64) ok_eq (de_callTy (call_listA rfl) (list_ok false) T.z_list bt_list (da_cons (de_var 0) (da_nil))) (de_callB (call_srt rfl hr.u66 false) (srt_ok false) T.z_sorted bt_sorted (da_cons (de_callTy (call_dictP rfl) dictP_ok T.z_dict bt_dict (da_cons (de_lc (own := [("one", 2)]) rfl nd (di_seq (de_var 0)) (blkOk_by (by kernel_rfl)) (by decide) (fun _ _ _ _ _ => dg_name nd) (fun _ _ _ _ _ => dts_nil) (fun _ _ _ _ _ => de_tup (da_cons (de_var 2) (da_cons (de_int) (da_nil))))) (da_nil))) (da_nil))))))))
theorem ok__law_paper_fault (T : Tx K mg t) : FnD P w K mg base 3 t.a__law_paper_fault t.d__law_paper_fault ["stand", "rule", "name", "value", "paper"] F__law_paper_fault := by
  have nd := (sc__law_paper_fault).nd
  refine fnd_of T.F__law_paper_fault sc__law_paper_fault rfl rfl fun cdv A outer s H hr => ?_
  exact dss_cons (ds_if (db_w (dw_or (db_not (db_val (de_isi .tup T.z_isinstance bt_isinstance T.z_tuple bt_tuple (de_var 4)))) (dw_or (db_cmp (op_neA hr.u64) ok_ne (de_callB call_lenA len_ok T.z_len bt_len (da_cons (de_var 4) (da_nil))) (de_int)) (dw_or1 (db_not (db_val (de_isi .str T.z_isinstance bt_isinstance T.z_str bt_str (de_ix (ix_A hr.u1) ok_ix (de_var 4) (de_int))))))))) (dss_one (ds_ret (de_tup (da_cons (de_str) (da_nil))))) (dss_nil)) (dss_cons (ds_if (db_not (db_val (de_isi .tup T.z_isinstance bt_isinstance T.z_tuple bt_tuple (de_ix (ix_A hr.u1) ok_ix (de_var 4) (de_int))))) (dss_one (ds_ret (de_tup (da_cons (de_str) (da_nil))))) (dss_nil)) (dss_cons (ds_asg (de_var 4) (dg_tup rfl (dgs_cons nd (dgs_cons nd (dgs_nil))))) (dss_cons (ds_if (db_cmp (op_eqA hr.u64) ok_eq (de_var 5) (de_str)) (dss_cons (ds_if (db_w (dw_or (db_cmp (op_neA hr.u64) ok_ne (de_callB call_lenA len_ok T.z_len bt_len (da_cons (de_var 6) (da_nil))) (de_callB call_lenA len_ok T.z_len bt_len (da_cons (de_ix (ix_A hr.u1) ok_ix (de_var 1) (de_int)) (da_nil)))) (dw_or1 (db_not (db_val (de_callB (cr_all rfl) all_ok T.z_all bt_all (da_cons (de_lc (own := [("one", 9)]) rfl nd (di_seq (de_var 6)) (blkOk_by (by kernel_rfl)) (by decide) (fun _ _ _ _ _ => dg_name nd) (fun _ _ _ _ _ => dts_nil) (fun _ _ _ _ _ => de_and (de_isi .int T.z_isinstance bt_isinstance T.z_int bt_int (de_var 9)) (de_one (de_not (de_isi .bool T.z_isinstance bt_isinstance T.z_bool bt_bool (de_var 9)))))) (da_nil)))))))) (dss_one (ds_ret (de_tup (da_cons (de_str) (da_nil))))) (dss_nil)) (dss_cons (ds_if (db_not (db_val (de_callB (cr_all rfl) all_ok T.z_all bt_all (da_cons (de_lc (own := [("one", 9)]) rfl nd (di_seq (de_var 6)) (blkOk_by (by kernel_rfl)) (by decide) (fun _ _ _ _ _ => dg_name nd) (fun _ _ _ _ _ => dts_nil) (fun _ _ _ _ _ => de_cmp op_ge ok_c (de_var 9) (de_int))) (da_nil))))) (dss_one (ds_ret (de_tup (da_cons (de_str) (da_nil))))) (dss_nil)) (dss_one (ds_set nd (de_and (de_cmp (op_inA hr.u65) ok_in (de_var 6) (de_call ((ok__law_rows T).mono (by decide)) hr T.m__law_rows (T.F__law_rows).kp T.b__law_rows (da_cons (de_var 0) (da_cons (de_var 1) (da_nil))))) (de_one (de_or (de_cmp op_isN ok_isN (de_var 2) (de_non)) (de_one (de_cmp (op_eqA hr.u64) ok_eq (de_ix (ix_A hr.u1) ok_ix (de_var 6) (de_idxT PySem.F.slot_tuple_index (de_ix (ix_A hr.u1) ok_ix (de_var 1) (de_int)) (da_cons (de_var 2) (da_nil)))) (de_var 3)))))))))) (dss_one (ds_if (db_cmp (op_eqA hr.u64) ok_eq (de_var 5) (de_str)) (dss_cons (ds_if (db_w (dw_or (db_not (db_val (de_call ((ok__law_is_up T).mono (by decide)) hr T.m__law_is_up (T.F__law_is_up).kp T.b__law_is_up (da_cons (de_var 6) (da_cons (de_lc (own := [("one", 9)]) rfl nd (di_seq (de_ix (ix_A hr.u1) ok_ix (de_var 1) (de_int))) (blkOk_by (by kernel_rfl)) (by decide) (fun _ _ _ _ _ => dg_name nd) (fun _ _ _ _ _ => dts_one (db_cmp (op_neA hr.u64) ok_ne (de_var 9) (de_var 2))) (fun _ _ _ _ _ => de_var 9)) (da_nil)))))) (dw_or1 (db_w (dw_and (db_cmp op_isN ok_isN (de_var 2) (de_non)) (dw_and1 (db_cmp (op_eqA hr.u64) ok_eq (de_var 6) (de_tup (da_nil))))))))) (dss_one (ds_ret (de_tup (da_cons (de_str) (da_nil))))) (dss_nil)) (dss_one (ds_set nd (de_call ((ok__law_is_crowd T).mono (by decide)) hr T.m__law_is_crowd (T.F__law_is_crowd).kp T.b__law_is_crowd (da_cons (de_var 0) (da_cons (de_var 1) (da_cons (de_var 6) (da_cons (de_var 3) (da_nil))))))))) (dss_cons (ds_set nd (de_if (db_cmp (op_eqA hr.u64) ok_eq (de_ix (ix_A hr.u1) ok_ix (de_var 1) (de_int)) (de_str)) (de_lc (own := [("one", 9)]) rfl nd (di_seq (de_ix (ix_A hr.u1) ok_ix (de_var 1) (de_int))) (blkOk_by (by kernel_rfl)) (by decide) (fun _ _ _ _ _ => dg_name nd) (fun _ _ _ _ _ => dts_nil) (fun _ _ _ _ _ => de_ix (ix_A hr.u1) ok_ix (de_var 9) (de_int))) (de_lst (da_nil)))) (dss_cons (ds_if (db_w (dw_or (db_cmp (op_neA hr.u64) ok_ne (de_var 5) (de_str)) (dw_or (db_cmp (op_eqA hr.u64) ok_eq (de_var 6) (de_tup (da_nil))) (dw_or1 (db_not (db_val (de_call ((ok__law_is_up T).mono (by decide)) hr T.m__law_is_up (T.F__law_is_up).kp T.b__law_is_up (da_cons (de_var 6) (da_cons (de_var 8) (da_nil)))))))))) (dss_one (ds_ret (de_tup (da_cons (de_str) (da_nil))))) (dss_nil)) (dss_one (ds_set nd (de_call ((ok__law_is_want T).mono (by decide)) hr T.m__law_is_want (T.F__law_is_want).kp T.b__law_is_want (da_cons (de_var 0) (da_cons (de_var 1) (da_cons (de_var 2) (da_cons (de_var 3) (da_cons (de_var 6) (da_nil)))))))))))))) (dss_one (ds_ret (de_if (db_val (de_var 7)) (de_non) (de_tup (da_cons (de_var 5) (da_nil)))))))))
theorem ok__law_told_right (T : Tx K mg t) : FnD P w K mg base 8 t.a__law_told_right t.d__law_told_right ["stand", "rule", "rows", "name", "value"] F__law_told_right := by
  have nd := (sc__law_told_right).nd
  refine fnd_of T.F__law_told_right sc__law_told_right rfl rfl fun cdv A outer s H hr => ?_
  exact dss_cons (ds_setLc (own := [("turn", 8)]) rfl nd (di_rng1 T.z_range (da_cons (de_int) (da_nil))) (blkOk_by (by kernel_rfl)) (by decide) (fun _ _ _ _ _ => dg_name nd) (fun _ _ _ _ _ => dts_nil) (fun _ _ _ _ _ => de_call ((ok_crowd_paper T).mono (by decide)) hr T.m_crowd_paper (T.F_crowd_paper).kp T.b_crowd_paper (da_cons (de_var 0) (da_cons (de_var 1) (da_cons (de_var 3) (da_cons (de_var 4) (da_nil)))))) (sw_true rfl rfl rfl (by decide +kernel))) (dss_cons (ds_set nd (de_idxT PySem.F.slot_tuple_index (de_ix (ix_A hr.u1) ok_ix (de_var 1) (de_int)) (da_cons (de_var 3) (da_nil)))) (dss_cons (ds_set nd (de_cmp (op_neA hr.u64) ok_ne (de_lc (own := [("row", 9)]) rfl nd (di_seq (de_var 2)) (blkOk_by (by kernel_rfl)) (by decide) (fun _ _ _ _ _ => dg_name nd) (fun _ _ _ _ _ => dts_one (db_cmp (op_eqA hr.u64) ok_eq (de_ix (ix_A hr.u1) ok_ix (de_var 9) (de_var 6)) (de_var 4))) (fun _ _ _ _ _ => de_var 9)) (de_lst (da_nil)))) (dss_cons (ds_if (db_w (dw_or (db_cmp (op_neA hr.u64) ok_ne (de_callB (call_reprN hr.g hr.u66) reprN_ok T.z_repr bt_repr (da_cons (de_ix (ix_A hr.u1) ok_ix (de_var 5) (de_int)) (da_nil))) (de_callB (call_reprN hr.g hr.u66) reprN_ok T.z_repr bt_repr (da_cons (de_ix (ix_A hr.u1) ok_ix (de_var 5) (de_int)) (da_nil)))) (dw_or1 (db_cmp op_notN ok_notN (de_call ((ok__law_paper_fault T).mono (by decide)) hr T.m__law_paper_fault (T.F__law_paper_fault).kp T.b__law_paper_fault (da_cons (de_var 0) (da_cons (de_var 1) (da_cons (de_var 3) (da_cons (de_var 4) (da_cons (de_ix (ix_A hr.u1) ok_ix (de_var 5) (de_int)) (da_nil))))))) (de_non))))) (dss_one (ds_ret (de_bl))) (dss_nil)) (dss_one (ds_ret (de_cmp (op_eqA hr.u64) ok_eq (de_cmp (op_eqA hr.u64) ok_eq (de_ix (ix_A hr.u1) ok_ix (de_ix (ix_A hr.u1) ok_ix (de_var 5) (de_int)) (de_int)) (de_str)) (de_var 7)))))))
theorem ok_law (T : Tx K mg t) : FnD P w K mg base 9 t.a_law t.d_law ["script"] F_law := by
  have nd := (sc_law).nd
  refine fnd_of T.F_law sc_law rfl rfl fun cdv A outer s H hr => ?_
  exact dss_cons (ds_set nd (de_call ((ok__law_open_cells T).mono (by decide)) hr T.m__law_open_cells (T.F__law_open_cells).kp T.b__law_open_cells (da_cons (de_var 0) (da_nil)))) (dss_cons (ds_for [2, 3, 4, 5, 6, 7, 8, 9, 10, 11] PassesOwn.never rfl (di_rng1 T.z_range (da_cons (de_int) (da_nil))) (dg_name nd) (dss_cons (ds_set nd (de_call ((ok__law_draw_stand T).mono (by decide)) hr T.m__law_draw_stand (T.F__law_draw_stand).kp T.b__law_draw_stand (da_cons (de_var 1) (da_cons (de_int) (da_nil))))) (dss_cons (ds_set nd (de_call ((ok__law_draw_rule T).mono (by decide)) hr T.m__law_draw_rule (T.F__law_draw_rule).kp T.b__law_draw_rule (da_cons (de_var 1) (da_cons (de_var 3) (da_cons (de_ix (ix_A hr.u1) ok_ix (de_lst (da_cons (de_int) (da_cons (de_int) (da_cons (de_int) (da_cons (de_int) (da_nil)))))) (de_var 2)) (da_nil)))))) (dss_cons (ds_asgSw (xs := ["shown", "rows", "struck"]) rfl nd (de_tup (da_cons (de_callB (call_reprN hr.g hr.u66) reprN_ok T.z_repr bt_repr (da_cons (de_lst (da_cons (de_var 3) (da_cons (de_var 4) (da_nil)))) (da_nil))) (da_cons (de_call ((ok__law_rows T).mono (by decide)) hr T.m__law_rows (T.F__law_rows).kp T.b__law_rows (da_cons (de_var 3) (da_cons (de_var 4) (da_nil)))) (da_cons (de_lst (da_nil)) (da_nil))))) (by exact ⟨rfl, rfl, rfl, rfl, rfl, rfl, trivial⟩)) (dss_cons (ds_for [9, 10, 11] PassesOwn.never rfl (di_enum T.z_enumerate (da_cons (de_ix (ix_A hr.u1) ok_ix (de_var 4) (de_int)) (da_nil))) (dg_tup rfl (dgs_cons nd (dgs_cons nd (dgs_nil)))) (dss_one (ds_for [11] PassesOwn.never rfl (di_seq (de_ix (ix_A hr.u1) ok_ix (de_var 3) (de_var 10))) (dg_name nd) (dss_cons (ds_if (db_not (db_val (de_call ((ok__law_told_right T).mono (by decide)) hr T.m__law_told_right (T.F__law_told_right).kp T.b__law_told_right (da_cons (de_var 3) (da_cons (de_var 4) (da_cons (de_var 7) (da_cons (de_var 10) (da_cons (de_var 11) (da_nil))))))))) (dss_one (ds_ret (de_bl))) (dss_nil)) (dss_one (ds_set nd (de_op op_addD ok_add (de_var 8) (de_op op_mulD ok_mul (de_lst (da_cons (de_tup (da_cons (de_var 10) (da_cons (de_var 11) (da_nil)))) (da_nil))) (de_callTy call_int1 int_ok T.z_int bt_int (da_cons (de_cmp (op_eqA hr.u64) ok_eq (de_lc (own := [("row", 13)]) rfl nd (di_seq (de_var 7)) (blkOk_by (by kernel_rfl)) (by decide) (fun _ _ _ _ _ => dg_name nd) (fun _ _ _ _ _ => dts_one (db_cmp (op_eqA hr.u64) ok_eq (de_ix (ix_A hr.u1) ok_ix (de_var 13) (de_var 9)) (de_var 11))) (fun _ _ _ _ _ => de_var 13)) (de_lst (da_nil))) (da_nil))))))))))) (dss_cons (ds_if (db_cmp (op_neA hr.u64) ok_ne (de_callB (call_reprN hr.g hr.u66) reprN_ok T.z_repr bt_repr (da_cons (de_call ((ok_struck_crowds T).mono (by decide)) hr T.m_struck_crowds (T.F_struck_crowds).kp T.b_struck_crowds (da_cons (de_var 3) (da_cons (de_var 4) (da_nil)))) (da_nil))) (de_callB (call_reprN hr.g hr.u66) reprN_ok T.z_repr bt_repr (da_cons (de_callTy call_tuple_of tup_ok T.z_tuple bt_tuple (da_cons (de_var 8) (da_nil))) (da_nil)))) (dss_one (ds_ret (de_bl))) (dss_nil)) (dss_cons (ds_setLc (own := [("turn", 12)]) rfl nd (di_rng1 T.z_range (da_cons (de_int) (da_nil))) (blkOk_by (by kernel_rfl)) (by decide) (fun _ _ _ _ _ => dg_name nd) (fun _ _ _ _ _ => dts_nil) (fun _ _ _ _ _ => de_call ((ok_crowd_none T).mono (by decide)) hr T.m_crowd_none (T.F_crowd_none).kp T.b_crowd_none (da_cons (de_var 3) (da_cons (de_var 4) (da_nil)))) (sw_true rfl rfl rfl (by decide +kernel))) (dss_cons (ds_if (db_w (dw_or (db_cmp (op_neA hr.u64) ok_ne (de_callB (call_reprN hr.g hr.u66) reprN_ok T.z_repr bt_repr (da_cons (de_ix (ix_A hr.u1) ok_ix (de_var 5) (de_int)) (da_nil))) (de_callB (call_reprN hr.g hr.u66) reprN_ok T.z_repr bt_repr (da_cons (de_ix (ix_A hr.u1) ok_ix (de_var 5) (de_int)) (da_nil)))) (dw_or1 (db_cmp op_notN ok_notN (de_call ((ok__law_paper_fault T).mono (by decide)) hr T.m__law_paper_fault (T.F__law_paper_fault).kp T.b__law_paper_fault (da_cons (de_var 3) (da_cons (de_var 4) (da_cons (de_non) (da_cons (de_non) (da_cons (de_ix (ix_A hr.u1) ok_ix (de_var 5) (de_int)) (da_nil))))))) (de_non))))) (dss_one (ds_ret (de_bl))) (dss_nil)) (dss_one (ds_if (db_w (dw_or (db_cmp (op_neA hr.u64) ok_ne (de_cmp (op_eqA hr.u64) ok_eq (de_ix (ix_A hr.u1) ok_ix (de_ix (ix_A hr.u1) ok_ix (de_var 5) (de_int)) (de_int)) (de_str)) (de_cmp (op_neA hr.u64) ok_ne (de_var 7) (de_lst (da_nil)))) (dw_or1 (db_cmp (op_neA hr.u64) ok_ne (de_callB (call_reprN hr.g hr.u66) reprN_ok T.z_repr bt_repr (da_cons (de_lst (da_cons (de_var 3) (da_cons (de_var 4) (da_nil)))) (da_nil))) (de_var 6))))) (dss_one (ds_ret (de_bl))) (dss_nil))))))))))) (dss_one (ds_ret (de_bl))))
end
/-! ### the end -/
theorem all_mk {l : PySem.W.OpenLaw} {w : World} {K : PySem.W.Frag} {h : Heap} {mg : Str → Option Value} {fa : Addr} (X : K.In h) (G : h.Ns mainGlobals mg) (hfa : mg "law" = some (.ref fa))
    {od_0 an_0 : Option Addr} {sl_0 : Array (Option Value)} {oc_0 kV_0 dc_0 pm_0 cd_0 ct_0 : Value} {f_0 : Addr} {od_1 an_1 : Option Addr} {sl_1 : Array (Option Value)} {oc_1 kV_1 dc_1 pm_1 cd_1 ct_1 : Value} {f_1 : Addr} {od_2 an_2 : Option Addr} {sl_2 : Array (Option Value)} {oc_2 kV_2 dc_2 pm_2 cd_2 ct_2 : Value} {f_2 : Addr} {od_3 an_3 : Option Addr} {sl_3 : Array (Option Value)} {oc_3 kV_3 dc_3 pm_3 cd_3 ct_3 : Value} {f_3 : Addr} {od_4 an_4 : Option Addr} {sl_4 : Array (Option Value)} {oc_4 kV_4 dc_4 pm_4 cd_4 ct_4 : Value} {f_4 : Addr} {od_5 an_5 : Option Addr} {sl_5 : Array (Option Value)} {oc_5 kV_5 dc_5 pm_5 cd_5 ct_5 : Value} {f_5 : Addr} {od_6 an_6 : Option Addr} {sl_6 : Array (Option Value)} {oc_6 kV_6 dc_6 pm_6 cd_6 ct_6 : Value} {f_6 : Addr} {od_7 an_7 : Option Addr} {sl_7 : Array (Option Value)} {oc_7 kV_7 dc_7 pm_7 cd_7 ct_7 : Value} {f_7 : Addr} {od_8 an_8 : Option Addr} {sl_8 : Array (Option Value)} {oc_8 kV_8 dc_8 pm_8 cd_8 ct_8 : Value} {f_8 : Addr} {od_9 an_9 : Option Addr} {sl_9 : Array (Option Value)} {oc_9 kV_9 dc_9 pm_9 cd_9 ct_9 : Value} {f_9 : Addr} {od_10 an_10 : Option Addr} {sl_10 : Array (Option Value)} {oc_10 kV_10 dc_10 pm_10 cd_10 ct_10 : Value} {f_10 : Addr} {od_11 an_11 : Option Addr} {sl_11 : Array (Option Value)} {oc_11 kV_11 dc_11 pm_11 cd_11 ct_11 : Value} {f_11 : Addr} {od_12 an_12 : Option Addr} {sl_12 : Array (Option Value)} {oc_12 kV_12 dc_12 pm_12 cd_12 ct_12 : Value} {f_12 : Addr} {od_13 an_13 : Option Addr} {sl_13 : Array (Option Value)} {oc_13 kV_13 dc_13 pm_13 cd_13 ct_13 : Value} {f_13 : Addr} {od_14 an_14 : Option Addr} {sl_14 : Array (Option Value)} {oc_14 kV_14 dc_14 pm_14 cd_14 ct_14 : Value} {f_14 : Addr} {od_15 an_15 : Option Addr} {sl_15 : Array (Option Value)} {oc_15 kV_15 dc_15 pm_15 cd_15 ct_15 : Value} {f_15 : Addr} {od_16 an_16 : Option Addr} {sl_16 : Array (Option Value)} {oc_16 kV_16 dc_16 pm_16 cd_16 ct_16 : Value} {f_16 : Addr} {od_17 an_17 : Option Addr} {sl_17 : Array (Option Value)} {oc_17 kV_17 dc_17 pm_17 cd_17 ct_17 : Value} {f_17 : Addr} {od_18 an_18 : Option Addr} {sl_18 : Array (Option Value)} {oc_18 kV_18 dc_18 pm_18 cd_18 ct_18 : Value} {f_18 : Addr} {od_19 an_19 : Option Addr} {sl_19 : Array (Option Value)} {oc_19 kV_19 dc_19 pm_19 cd_19 ct_19 : Value} {f_19 : Addr} {od_20 an_20 : Option Addr} {sl_20 : Array (Option Value)} {oc_20 kV_20 dc_20 pm_20 cd_20 ct_20 : Value} {f_20 : Addr} {od_21 an_21 : Option Addr} {sl_21 : Array (Option Value)} {oc_21 kV_21 dc_21 pm_21 cd_21 ct_21 : Value} {f_21 : Addr} {od_22 an_22 : Option Addr} {sl_22 : Array (Option Value)} {oc_22 kV_22 dc_22 pm_22 cd_22 ct_22 : Value} {f_22 : Addr} {od_23 an_23 : Option Addr} {sl_23 : Array (Option Value)} {oc_23 kV_23 dc_23 pm_23 cd_23 ct_23 : Value} {f_23 : Addr} {od_24 an_24 : Option Addr} {sl_24 : Array (Option Value)} {oc_24 kV_24 dc_24 pm_24 cd_24 ct_24 : Value} {f_24 : Addr} {od_25 an_25 : Option Addr} {sl_25 : Array (Option Value)} {oc_25 kV_25 dc_25 pm_25 cd_25 ct_25 : Value} {f_25 : Addr} {od_26 an_26 : Option Addr} {sl_26 : Array (Option Value)} {oc_26 kV_26 dc_26 pm_26 cd_26 ct_26 : Value} {f_26 : Addr} {od_27 an_27 : Option Addr} {sl_27 : Array (Option Value)} {oc_27 kV_27 dc_27 pm_27 cd_27 ct_27 : Value} {f_27 : Addr} {od_28 an_28 : Option Addr} {sl_28 : Array (Option Value)} {oc_28 kV_28 dc_28 pm_28 cd_28 ct_28 : Value} {f_28 : Addr} {od_29 an_29 : Option Addr} {sl_29 : Array (Option Value)} {oc_29 kV_29 dc_29 pm_29 cd_29 ct_29 : Value} {f_29 : Addr} {od_30 an_30 : Option Addr} {sl_30 : Array (Option Value)} {oc_30 kV_30 dc_30 pm_30 cd_30 ct_30 : Value} {f_30 : Addr} {od_31 an_31 : Option Addr} {sl_31 : Array (Option Value)} {oc_31 kV_31 dc_31 pm_31 cd_31 ct_31 : Value} {f_31 : Addr}
    (a_0 : PySem.W.nsIn K mainGlobals "_law_open_cells" = some (some (.ref f_0))) (l_0 : K.lookup f_0 = some ⟨oc_0, od_0, .func (PySem.W.fnOf "_law_open_cells" "_law_open_cells" (defArgs s__law_open_cells) (defBody s__law_open_cells) (defScope s__law_open_cells) .none kV_0 dc_0 pm_0 an_0 cd_0 ct_0), sl_0⟩) (c_0 : PySem.W.codeIn K cd_0 "_law_open_cells" = true) (k_0 : PySem.W.keepIn K (.ref f_0) = true)
    (a_1 : PySem.W.nsIn K mainGlobals "_law_pick" = some (some (.ref f_1))) (l_1 : K.lookup f_1 = some ⟨oc_1, od_1, .func (PySem.W.fnOf "_law_pick" "_law_pick" (defArgs s__law_pick) (defBody s__law_pick) (defScope s__law_pick) .none kV_1 dc_1 pm_1 an_1 cd_1 ct_1), sl_1⟩) (c_1 : PySem.W.codeIn K cd_1 "_law_pick" = true) (k_1 : PySem.W.keepIn K (.ref f_1) = true)
    (a_2 : PySem.W.nsIn K mainGlobals "_law_any_order" = some (some (.ref f_2))) (l_2 : K.lookup f_2 = some ⟨oc_2, od_2, .func (PySem.W.fnOf "_law_any_order" "_law_any_order" (defArgs s__law_any_order) (defBody s__law_any_order) (defScope s__law_any_order) .none kV_2 dc_2 pm_2 an_2 cd_2 ct_2), sl_2⟩) (c_2 : PySem.W.codeIn K cd_2 "_law_any_order" = true) (k_2 : PySem.W.keepIn K (.ref f_2) = true)
    (a_3 : PySem.W.nsIn K mainGlobals "_law_draw_stand" = some (some (.ref f_3))) (l_3 : K.lookup f_3 = some ⟨oc_3, od_3, .func (PySem.W.fnOf "_law_draw_stand" "_law_draw_stand" (defArgs s__law_draw_stand) (defBody s__law_draw_stand) (defScope s__law_draw_stand) .none kV_3 dc_3 pm_3 an_3 cd_3 ct_3), sl_3⟩) (c_3 : PySem.W.codeIn K cd_3 "_law_draw_stand" = true) (k_3 : PySem.W.keepIn K (.ref f_3) = true)
    (a_4 : PySem.W.nsIn K mainGlobals "_law_draw_lot" = some (some (.ref f_4))) (l_4 : K.lookup f_4 = some ⟨oc_4, od_4, .func (PySem.W.fnOf "_law_draw_lot" "_law_draw_lot" (defArgs s__law_draw_lot) (defBody s__law_draw_lot) (defScope s__law_draw_lot) .none kV_4 dc_4 pm_4 an_4 cd_4 ct_4), sl_4⟩) (c_4 : PySem.W.codeIn K cd_4 "_law_draw_lot" = true) (k_4 : PySem.W.keepIn K (.ref f_4) = true)
    (a_5 : PySem.W.nsIn K mainGlobals "_law_draw_counts" = some (some (.ref f_5))) (l_5 : K.lookup f_5 = some ⟨oc_5, od_5, .func (PySem.W.fnOf "_law_draw_counts" "_law_draw_counts" (defArgs s__law_draw_counts) (defBody s__law_draw_counts) (defScope s__law_draw_counts) .none kV_5 dc_5 pm_5 an_5 cd_5 ct_5), sl_5⟩) (c_5 : PySem.W.codeIn K cd_5 "_law_draw_counts" = true) (k_5 : PySem.W.keepIn K (.ref f_5) = true)
    (a_6 : PySem.W.nsIn K mainGlobals "_law_draw_rule" = some (some (.ref f_6))) (l_6 : K.lookup f_6 = some ⟨oc_6, od_6, .func (PySem.W.fnOf "_law_draw_rule" "_law_draw_rule" (defArgs s__law_draw_rule) (defBody s__law_draw_rule) (defScope s__law_draw_rule) .none kV_6 dc_6 pm_6 an_6 cd_6 ct_6), sl_6⟩) (c_6 : PySem.W.codeIn K cd_6 "_law_draw_rule" = true) (k_6 : PySem.W.keepIn K (.ref f_6) = true)
    (a_7 : PySem.W.nsIn K mainGlobals "_law_low" = some (some (.ref f_7))) (l_7 : K.lookup f_7 = some ⟨oc_7, od_7, .func (PySem.W.fnOf "_law_low" "_law_low" (defArgs s__law_low) (defBody s__law_low) (defScope s__law_low) .none kV_7 dc_7 pm_7 an_7 cd_7 ct_7), sl_7⟩) (c_7 : PySem.W.codeIn K cd_7 "_law_low" = true) (k_7 : PySem.W.keepIn K (.ref f_7) = true)
    (a_8 : PySem.W.nsIn K mainGlobals "_law_high" = some (some (.ref f_8))) (l_8 : K.lookup f_8 = some ⟨oc_8, od_8, .func (PySem.W.fnOf "_law_high" "_law_high" (defArgs s__law_high) (defBody s__law_high) (defScope s__law_high) .none kV_8 dc_8 pm_8 an_8 cd_8 ct_8), sl_8⟩) (c_8 : PySem.W.codeIn K cd_8 "_law_high" = true) (k_8 : PySem.W.keepIn K (.ref f_8) = true)
    (a_9 : PySem.W.nsIn K mainGlobals "_law_rows" = some (some (.ref f_9))) (l_9 : K.lookup f_9 = some ⟨oc_9, od_9, .func (PySem.W.fnOf "_law_rows" "_law_rows" (defArgs s__law_rows) (defBody s__law_rows) (defScope s__law_rows) .none kV_9 dc_9 pm_9 an_9 cd_9 ct_9), sl_9⟩) (c_9 : PySem.W.codeIn K cd_9 "_law_rows" = true) (k_9 : PySem.W.keepIn K (.ref f_9) = true)
    (a_10 : PySem.W.nsIn K mainGlobals "lot_of" = some (some (.ref f_10))) (l_10 : K.lookup f_10 = some ⟨oc_10, od_10, .func (PySem.W.fnOf "lot_of" "lot_of" (defArgs s_lot_of) (defBody s_lot_of) (defScope s_lot_of) .none kV_10 dc_10 pm_10 an_10 cd_10 ct_10), sl_10⟩) (c_10 : PySem.W.codeIn K cd_10 "lot_of" = true) (k_10 : PySem.W.keepIn K (.ref f_10) = true)
    (a_11 : PySem.W.nsIn K mainGlobals "told_bounds" = some (some (.ref f_11))) (l_11 : K.lookup f_11 = some ⟨oc_11, od_11, .func (PySem.W.fnOf "told_bounds" "told_bounds" (defArgs s_told_bounds) (defBody s_told_bounds) (defScope s_told_bounds) .none kV_11 dc_11 pm_11 an_11 cd_11 ct_11), sl_11⟩) (c_11 : PySem.W.codeIn K cd_11 "told_bounds" = true) (k_11 : PySem.W.keepIn K (.ref f_11) = true)
    (a_12 : PySem.W.nsIn K mainGlobals "high_of" = some (some (.ref f_12))) (l_12 : K.lookup f_12 = some ⟨oc_12, od_12, .func (PySem.W.fnOf "high_of" "high_of" (defArgs s_high_of) (defBody s_high_of) (defScope s_high_of) .none kV_12 dc_12 pm_12 an_12 cd_12 ct_12), sl_12⟩) (c_12 : PySem.W.codeIn K cd_12 "high_of" = true) (k_12 : PySem.W.keepIn K (.ref f_12) = true)
    (a_13 : PySem.W.nsIn K mainGlobals "roomed" = some (some (.ref f_13))) (l_13 : K.lookup f_13 = some ⟨oc_13, od_13, .func (PySem.W.fnOf "roomed" "roomed" (defArgs s_roomed) (defBody s_roomed) (defScope s_roomed) .none kV_13 dc_13 pm_13 an_13 cd_13 ct_13), sl_13⟩) (c_13 : PySem.W.codeIn K cd_13 "roomed" = true) (k_13 : PySem.W.keepIn K (.ref f_13) = true)
    (a_14 : PySem.W.nsIn K mainGlobals "chained" = some (some (.ref f_14))) (l_14 : K.lookup f_14 = some ⟨oc_14, od_14, .func (PySem.W.fnOf "chained" "chained" (defArgs s_chained) (defBody s_chained) (defScope s_chained) .none kV_14 dc_14 pm_14 an_14 cd_14 ct_14), sl_14⟩) (c_14 : PySem.W.codeIn K cd_14 "chained" = true) (k_14 : PySem.W.keepIn K (.ref f_14) = true)
    (a_15 : PySem.W.nsIn K mainGlobals "go_on" = some (some (.ref f_15))) (l_15 : K.lookup f_15 = some ⟨oc_15, od_15, .func (PySem.W.fnOf "go_on" "go_on" (defArgs s_go_on) (defBody s_go_on) (defScope s_go_on) .none kV_15 dc_15 pm_15 an_15 cd_15 ct_15), sl_15⟩) (c_15 : PySem.W.codeIn K cd_15 "go_on" = true) (k_15 : PySem.W.keepIn K (.ref f_15) = true)
    (a_16 : PySem.W.nsIn K mainGlobals "placed" = some (some (.ref f_16))) (l_16 : K.lookup f_16 = some ⟨oc_16, od_16, .func (PySem.W.fnOf "placed" "placed" (defArgs s_placed) (defBody s_placed) (defScope s_placed) .none kV_16 dc_16 pm_16 an_16 cd_16 ct_16), sl_16⟩) (c_16 : PySem.W.codeIn K cd_16 "placed" = true) (k_16 : PySem.W.keepIn K (.ref f_16) = true)
    (a_17 : PySem.W.nsIn K mainGlobals "handed" = some (some (.ref f_17))) (l_17 : K.lookup f_17 = some ⟨oc_17, od_17, .func (PySem.W.fnOf "handed" "handed" (defArgs s_handed) (defBody s_handed) (defScope s_handed) .none kV_17 dc_17 pm_17 an_17 cd_17 ct_17), sl_17⟩) (c_17 : PySem.W.codeIn K cd_17 "handed" = true) (k_17 : PySem.W.keepIn K (.ref f_17) = true)
    (a_18 : PySem.W.nsIn K mainGlobals "give_one" = some (some (.ref f_18))) (l_18 : K.lookup f_18 = some ⟨oc_18, od_18, .func (PySem.W.fnOf "give_one" "give_one" (defArgs s_give_one) (defBody s_give_one) (defScope s_give_one) .none kV_18 dc_18 pm_18 an_18 cd_18 ct_18), sl_18⟩) (c_18 : PySem.W.codeIn K cd_18 "give_one" = true) (k_18 : PySem.W.keepIn K (.ref f_18) = true)
    (a_19 : PySem.W.nsIn K mainGlobals "given_lows" = some (some (.ref f_19))) (l_19 : K.lookup f_19 = some ⟨oc_19, od_19, .func (PySem.W.fnOf "given_lows" "given_lows" (defArgs s_given_lows) (defBody s_given_lows) (defScope s_given_lows) .none kV_19 dc_19 pm_19 an_19 cd_19 ct_19), sl_19⟩) (c_19 : PySem.W.codeIn K cd_19 "given_lows" = true) (k_19 : PySem.W.keepIn K (.ref f_19) = true)
    (a_20 : PySem.W.nsIn K mainGlobals "put_together" = some (some (.ref f_20))) (l_20 : K.lookup f_20 = some ⟨oc_20, od_20, .func (PySem.W.fnOf "put_together" "put_together" (defArgs s_put_together) (defBody s_put_together) (defScope s_put_together) .none kV_20 dc_20 pm_20 an_20 cd_20 ct_20), sl_20⟩) (c_20 : PySem.W.codeIn K cd_20 "put_together" = true) (k_20 : PySem.W.keepIn K (.ref f_20) = true)
    (a_21 : PySem.W.nsIn K mainGlobals "answered" = some (some (.ref f_21))) (l_21 : K.lookup f_21 = some ⟨oc_21, od_21, .func (PySem.W.fnOf "answered" "answered" (defArgs s_answered) (defBody s_answered) (defScope s_answered) .none kV_21 dc_21 pm_21 an_21 cd_21 ct_21), sl_21⟩) (c_21 : PySem.W.codeIn K cd_21 "answered" = true) (k_21 : PySem.W.keepIn K (.ref f_21) = true)
    (a_22 : PySem.W.nsIn K mainGlobals "crowd_none" = some (some (.ref f_22))) (l_22 : K.lookup f_22 = some ⟨oc_22, od_22, .func (PySem.W.fnOf "crowd_none" "crowd_none" (defArgs s_crowd_none) (defBody s_crowd_none) (defScope s_crowd_none) .none kV_22 dc_22 pm_22 an_22 cd_22 ct_22), sl_22⟩) (c_22 : PySem.W.codeIn K cd_22 "crowd_none" = true) (k_22 : PySem.W.keepIn K (.ref f_22) = true)
    (a_23 : PySem.W.nsIn K mainGlobals "crowd_paper" = some (some (.ref f_23))) (l_23 : K.lookup f_23 = some ⟨oc_23, od_23, .func (PySem.W.fnOf "crowd_paper" "crowd_paper" (defArgs s_crowd_paper) (defBody s_crowd_paper) (defScope s_crowd_paper) .none kV_23 dc_23 pm_23 an_23 cd_23 ct_23), sl_23⟩) (c_23 : PySem.W.codeIn K cd_23 "crowd_paper" = true) (k_23 : PySem.W.keepIn K (.ref f_23) = true)
    (a_24 : PySem.W.nsIn K mainGlobals "struck_crowds" = some (some (.ref f_24))) (l_24 : K.lookup f_24 = some ⟨oc_24, od_24, .func (PySem.W.fnOf "struck_crowds" "struck_crowds" (defArgs s_struck_crowds) (defBody s_struck_crowds) (defScope s_struck_crowds) .none kV_24 dc_24 pm_24 an_24 cd_24 ct_24), sl_24⟩) (c_24 : PySem.W.codeIn K cd_24 "struck_crowds" = true) (k_24 : PySem.W.keepIn K (.ref f_24) = true)
    (a_25 : PySem.W.nsIn K mainGlobals "_law_values" = some (some (.ref f_25))) (l_25 : K.lookup f_25 = some ⟨oc_25, od_25, .func (PySem.W.fnOf "_law_values" "_law_values" (defArgs s__law_values) (defBody s__law_values) (defScope s__law_values) .none kV_25 dc_25 pm_25 an_25 cd_25 ct_25), sl_25⟩) (c_25 : PySem.W.codeIn K cd_25 "_law_values" = true) (k_25 : PySem.W.keepIn K (.ref f_25) = true)
    (a_26 : PySem.W.nsIn K mainGlobals "_law_is_crowd" = some (some (.ref f_26))) (l_26 : K.lookup f_26 = some ⟨oc_26, od_26, .func (PySem.W.fnOf "_law_is_crowd" "_law_is_crowd" (defArgs s__law_is_crowd) (defBody s__law_is_crowd) (defScope s__law_is_crowd) .none kV_26 dc_26 pm_26 an_26 cd_26 ct_26), sl_26⟩) (c_26 : PySem.W.codeIn K cd_26 "_law_is_crowd" = true) (k_26 : PySem.W.keepIn K (.ref f_26) = true)
    (a_27 : PySem.W.nsIn K mainGlobals "_law_is_want" = some (some (.ref f_27))) (l_27 : K.lookup f_27 = some ⟨oc_27, od_27, .func (PySem.W.fnOf "_law_is_want" "_law_is_want" (defArgs s__law_is_want) (defBody s__law_is_want) (defScope s__law_is_want) .none kV_27 dc_27 pm_27 an_27 cd_27 ct_27), sl_27⟩) (c_27 : PySem.W.codeIn K cd_27 "_law_is_want" = true) (k_27 : PySem.W.keepIn K (.ref f_27) = true)
    (a_28 : PySem.W.nsIn K mainGlobals "_law_is_up" = some (some (.ref f_28))) (l_28 : K.lookup f_28 = some ⟨oc_28, od_28, .func (PySem.W.fnOf "_law_is_up" "_law_is_up" (defArgs s__law_is_up) (defBody s__law_is_up) (defScope s__law_is_up) .none kV_28 dc_28 pm_28 an_28 cd_28 ct_28), sl_28⟩) (c_28 : PySem.W.codeIn K cd_28 "_law_is_up" = true) (k_28 : PySem.W.keepIn K (.ref f_28) = true)
    (a_29 : PySem.W.nsIn K mainGlobals "_law_paper_fault" = some (some (.ref f_29))) (l_29 : K.lookup f_29 = some ⟨oc_29, od_29, .func (PySem.W.fnOf "_law_paper_fault" "_law_paper_fault" (defArgs s__law_paper_fault) (defBody s__law_paper_fault) (defScope s__law_paper_fault) .none kV_29 dc_29 pm_29 an_29 cd_29 ct_29), sl_29⟩) (c_29 : PySem.W.codeIn K cd_29 "_law_paper_fault" = true) (k_29 : PySem.W.keepIn K (.ref f_29) = true)
    (a_30 : PySem.W.nsIn K mainGlobals "_law_told_right" = some (some (.ref f_30))) (l_30 : K.lookup f_30 = some ⟨oc_30, od_30, .func (PySem.W.fnOf "_law_told_right" "_law_told_right" (defArgs s__law_told_right) (defBody s__law_told_right) (defScope s__law_told_right) .none kV_30 dc_30 pm_30 an_30 cd_30 ct_30), sl_30⟩) (c_30 : PySem.W.codeIn K cd_30 "_law_told_right" = true) (k_30 : PySem.W.keepIn K (.ref f_30) = true)
    (a_31 : PySem.W.nsIn K mainGlobals "law" = some (some (.ref f_31))) (l_31 : K.lookup f_31 = some ⟨oc_31, od_31, .func (PySem.W.fnOf "law" "law" (defArgs s_law) (defBody s_law) (defScope s_law) .none kV_31 dc_31 pm_31 an_31 cd_31 ct_31), sl_31⟩) (c_31 : PySem.W.codeIn K cd_31 "law" = true) (k_31 : PySem.W.keepIn K (.ref f_31) = true)
    (z_abs : PySem.W.nsIn K mainGlobals "abs" = some none)
    (z_all : PySem.W.nsIn K mainGlobals "all" = some none)
    (z_bool : PySem.W.nsIn K mainGlobals "bool" = some none)
    (z_dict : PySem.W.nsIn K mainGlobals "dict" = some none)
    (z_enumerate : PySem.W.nsIn K mainGlobals "enumerate" = some none)
    (z_int : PySem.W.nsIn K mainGlobals "int" = some none)
    (z_isinstance : PySem.W.nsIn K mainGlobals "isinstance" = some none)
    (z_len : PySem.W.nsIn K mainGlobals "len" = some none)
    (z_list : PySem.W.nsIn K mainGlobals "list" = some none)
    (z_max : PySem.W.nsIn K mainGlobals "max" = some none)
    (z_min : PySem.W.nsIn K mainGlobals "min" = some none)
    (z_range : PySem.W.nsIn K mainGlobals "range" = some none)
    (z_repr : PySem.W.nsIn K mainGlobals "repr" = some none)
    (z_sorted : PySem.W.nsIn K mainGlobals "sorted" = some none)
    (z_str : PySem.W.nsIn K mainGlobals "str" = some none)
    (z_sum : PySem.W.nsIn K mainGlobals "sum" = some none)
    (z_tuple : PySem.W.nsIn K mainGlobals "tuple" = some none)
    : ∃ fd : FuncData, (∀ (s : Shared) (v : Value), BindsTo s fd ⟨[v], []⟩ [("script", v)]) ∧ ∀ base : Heap, K.In base → base.Ns mainGlobals mg → FnD l.prog w K mg base 9 fa fd ["script"] F_law := by
  have e := hfa.symm.trans (PySem.W.mg_of X G a_31)
  cases e
  have T : Tx K mg ⟨f_0, PySem.W.fnOf "_law_open_cells" "_law_open_cells" (defArgs s__law_open_cells) (defBody s__law_open_cells) (defScope s__law_open_cells) .none kV_0 dc_0 pm_0 an_0 cd_0 ct_0, f_1, PySem.W.fnOf "_law_pick" "_law_pick" (defArgs s__law_pick) (defBody s__law_pick) (defScope s__law_pick) .none kV_1 dc_1 pm_1 an_1 cd_1 ct_1, f_2, PySem.W.fnOf "_law_any_order" "_law_any_order" (defArgs s__law_any_order) (defBody s__law_any_order) (defScope s__law_any_order) .none kV_2 dc_2 pm_2 an_2 cd_2 ct_2, f_3, PySem.W.fnOf "_law_draw_stand" "_law_draw_stand" (defArgs s__law_draw_stand) (defBody s__law_draw_stand) (defScope s__law_draw_stand) .none kV_3 dc_3 pm_3 an_3 cd_3 ct_3, f_4, PySem.W.fnOf "_law_draw_lot" "_law_draw_lot" (defArgs s__law_draw_lot) (defBody s__law_draw_lot) (defScope s__law_draw_lot) .none kV_4 dc_4 pm_4 an_4 cd_4 ct_4, f_5, PySem.W.fnOf "_law_draw_counts" "_law_draw_counts" (defArgs s__law_draw_counts) (defBody s__law_draw_counts) (defScope s__law_draw_counts) .none kV_5 dc_5 pm_5 an_5 cd_5 ct_5, f_6, PySem.W.fnOf "_law_draw_rule" "_law_draw_rule" (defArgs s__law_draw_rule) (defBody s__law_draw_rule) (defScope s__law_draw_rule) .none kV_6 dc_6 pm_6 an_6 cd_6 ct_6, f_7, PySem.W.fnOf "_law_low" "_law_low" (defArgs s__law_low) (defBody s__law_low) (defScope s__law_low) .none kV_7 dc_7 pm_7 an_7 cd_7 ct_7, f_8, PySem.W.fnOf "_law_high" "_law_high" (defArgs s__law_high) (defBody s__law_high) (defScope s__law_high) .none kV_8 dc_8 pm_8 an_8 cd_8 ct_8, f_9, PySem.W.fnOf "_law_rows" "_law_rows" (defArgs s__law_rows) (defBody s__law_rows) (defScope s__law_rows) .none kV_9 dc_9 pm_9 an_9 cd_9 ct_9, f_10, PySem.W.fnOf "lot_of" "lot_of" (defArgs s_lot_of) (defBody s_lot_of) (defScope s_lot_of) .none kV_10 dc_10 pm_10 an_10 cd_10 ct_10, f_11, PySem.W.fnOf "told_bounds" "told_bounds" (defArgs s_told_bounds) (defBody s_told_bounds) (defScope s_told_bounds) .none kV_11 dc_11 pm_11 an_11 cd_11 ct_11, f_12, PySem.W.fnOf "high_of" "high_of" (defArgs s_high_of) (defBody s_high_of) (defScope s_high_of) .none kV_12 dc_12 pm_12 an_12 cd_12 ct_12, f_13, PySem.W.fnOf "roomed" "roomed" (defArgs s_roomed) (defBody s_roomed) (defScope s_roomed) .none kV_13 dc_13 pm_13 an_13 cd_13 ct_13, f_14, PySem.W.fnOf "chained" "chained" (defArgs s_chained) (defBody s_chained) (defScope s_chained) .none kV_14 dc_14 pm_14 an_14 cd_14 ct_14, f_15, PySem.W.fnOf "go_on" "go_on" (defArgs s_go_on) (defBody s_go_on) (defScope s_go_on) .none kV_15 dc_15 pm_15 an_15 cd_15 ct_15, f_16, PySem.W.fnOf "placed" "placed" (defArgs s_placed) (defBody s_placed) (defScope s_placed) .none kV_16 dc_16 pm_16 an_16 cd_16 ct_16, f_17, PySem.W.fnOf "handed" "handed" (defArgs s_handed) (defBody s_handed) (defScope s_handed) .none kV_17 dc_17 pm_17 an_17 cd_17 ct_17, f_18, PySem.W.fnOf "give_one" "give_one" (defArgs s_give_one) (defBody s_give_one) (defScope s_give_one) .none kV_18 dc_18 pm_18 an_18 cd_18 ct_18, f_19, PySem.W.fnOf "given_lows" "given_lows" (defArgs s_given_lows) (defBody s_given_lows) (defScope s_given_lows) .none kV_19 dc_19 pm_19 an_19 cd_19 ct_19, f_20, PySem.W.fnOf "put_together" "put_together" (defArgs s_put_together) (defBody s_put_together) (defScope s_put_together) .none kV_20 dc_20 pm_20 an_20 cd_20 ct_20, f_21, PySem.W.fnOf "answered" "answered" (defArgs s_answered) (defBody s_answered) (defScope s_answered) .none kV_21 dc_21 pm_21 an_21 cd_21 ct_21, f_22, PySem.W.fnOf "crowd_none" "crowd_none" (defArgs s_crowd_none) (defBody s_crowd_none) (defScope s_crowd_none) .none kV_22 dc_22 pm_22 an_22 cd_22 ct_22, f_23, PySem.W.fnOf "crowd_paper" "crowd_paper" (defArgs s_crowd_paper) (defBody s_crowd_paper) (defScope s_crowd_paper) .none kV_23 dc_23 pm_23 an_23 cd_23 ct_23, f_24, PySem.W.fnOf "struck_crowds" "struck_crowds" (defArgs s_struck_crowds) (defBody s_struck_crowds) (defScope s_struck_crowds) .none kV_24 dc_24 pm_24 an_24 cd_24 ct_24, f_25, PySem.W.fnOf "_law_values" "_law_values" (defArgs s__law_values) (defBody s__law_values) (defScope s__law_values) .none kV_25 dc_25 pm_25 an_25 cd_25 ct_25, f_26, PySem.W.fnOf "_law_is_crowd" "_law_is_crowd" (defArgs s__law_is_crowd) (defBody s__law_is_crowd) (defScope s__law_is_crowd) .none kV_26 dc_26 pm_26 an_26 cd_26 ct_26, f_27, PySem.W.fnOf "_law_is_want" "_law_is_want" (defArgs s__law_is_want) (defBody s__law_is_want) (defScope s__law_is_want) .none kV_27 dc_27 pm_27 an_27 cd_27 ct_27, f_28, PySem.W.fnOf "_law_is_up" "_law_is_up" (defArgs s__law_is_up) (defBody s__law_is_up) (defScope s__law_is_up) .none kV_28 dc_28 pm_28 an_28 cd_28 ct_28, f_29, PySem.W.fnOf "_law_paper_fault" "_law_paper_fault" (defArgs s__law_paper_fault) (defBody s__law_paper_fault) (defScope s__law_paper_fault) .none kV_29 dc_29 pm_29 an_29 cd_29 ct_29, f_30, PySem.W.fnOf "_law_told_right" "_law_told_right" (defArgs s__law_told_right) (defBody s__law_told_right) (defScope s__law_told_right) .none kV_30 dc_30 pm_30 an_30 cd_30 ct_30, fa, PySem.W.fnOf "law" "law" (defArgs s_law) (defBody s_law) (defScope s_law) .none kV_31 dc_31 pm_31 an_31 cd_31 ct_31⟩ := ⟨PySem.W.mg_none_of X G z_abs,
    PySem.W.mg_none_of X G z_all,
    PySem.W.mg_none_of X G z_bool,
    PySem.W.mg_none_of X G z_dict,
    PySem.W.mg_none_of X G z_enumerate,
    PySem.W.mg_none_of X G z_int,
    PySem.W.mg_none_of X G z_isinstance,
    PySem.W.mg_none_of X G z_len,
    PySem.W.mg_none_of X G z_list,
    PySem.W.mg_none_of X G z_max,
    PySem.W.mg_none_of X G z_min,
    PySem.W.mg_none_of X G z_range,
    PySem.W.mg_none_of X G z_repr,
    PySem.W.mg_none_of X G z_sorted,
    PySem.W.mg_none_of X G z_str,
    PySem.W.mg_none_of X G z_sum,
    PySem.W.mg_none_of X G z_tuple,
    fun_mk (st := s__law_open_cells) l_0 c_0 k_0,
    PySem.W.mg_of X G a_0,
    (fun_mk (st := s__law_open_cells) l_0 c_0 k_0).binds fun _ _ _ _ _ _ us hl => match us, hl with | [_], _ => rfl,
    fun_mk (st := s__law_pick) l_1 c_1 k_1,
    PySem.W.mg_of X G a_1,
    (fun_mk (st := s__law_pick) l_1 c_1 k_1).binds fun _ _ _ _ _ _ us hl => match us, hl with | [_, _], _ => rfl,
    fun_mk (st := s__law_any_order) l_2 c_2 k_2,
    PySem.W.mg_of X G a_2,
    (fun_mk (st := s__law_any_order) l_2 c_2 k_2).binds fun _ _ _ _ _ _ us hl => match us, hl with | [_, _], _ => rfl,
    fun_mk (st := s__law_draw_stand) l_3 c_3 k_3,
    PySem.W.mg_of X G a_3,
    (fun_mk (st := s__law_draw_stand) l_3 c_3 k_3).binds fun _ _ _ _ _ _ us hl => match us, hl with | [_, _], _ => rfl,
    fun_mk (st := s__law_draw_lot) l_4 c_4 k_4,
    PySem.W.mg_of X G a_4,
    (fun_mk (st := s__law_draw_lot) l_4 c_4 k_4).binds fun _ _ _ _ _ _ us hl => match us, hl with | [_, _, _], _ => rfl,
    fun_mk (st := s__law_draw_counts) l_5 c_5 k_5,
    PySem.W.mg_of X G a_5,
    (fun_mk (st := s__law_draw_counts) l_5 c_5 k_5).binds fun _ _ _ _ _ _ us hl => match us, hl with | [_, _, _], _ => rfl,
    fun_mk (st := s__law_draw_rule) l_6 c_6 k_6,
    PySem.W.mg_of X G a_6,
    (fun_mk (st := s__law_draw_rule) l_6 c_6 k_6).binds fun _ _ _ _ _ _ us hl => match us, hl with | [_, _, _], _ => rfl,
    fun_mk (st := s__law_low) l_7 c_7 k_7,
    PySem.W.mg_of X G a_7,
    (fun_mk (st := s__law_low) l_7 c_7 k_7).binds fun _ _ _ _ _ _ us hl => match us, hl with | [_, _], _ => rfl,
    fun_mk (st := s__law_high) l_8 c_8 k_8,
    PySem.W.mg_of X G a_8,
    (fun_mk (st := s__law_high) l_8 c_8 k_8).binds fun _ _ _ _ _ _ us hl => match us, hl with | [_, _], _ => rfl,
    fun_mk (st := s__law_rows) l_9 c_9 k_9,
    PySem.W.mg_of X G a_9,
    (fun_mk (st := s__law_rows) l_9 c_9 k_9).binds fun _ _ _ _ _ _ us hl => match us, hl with | [_, _], _ => rfl,
    fun_mk (st := s_lot_of) l_10 c_10 k_10,
    PySem.W.mg_of X G a_10,
    (fun_mk (st := s_lot_of) l_10 c_10 k_10).binds fun _ _ _ _ _ _ us hl => match us, hl with | [_], _ => rfl,
    fun_mk (st := s_told_bounds) l_11 c_11 k_11,
    PySem.W.mg_of X G a_11,
    (fun_mk (st := s_told_bounds) l_11 c_11 k_11).binds fun _ _ _ _ _ _ us hl => match us, hl with | [_], _ => rfl,
    fun_mk (st := s_high_of) l_12 c_12 k_12,
    PySem.W.mg_of X G a_12,
    (fun_mk (st := s_high_of) l_12 c_12 k_12).binds fun _ _ _ _ _ _ us hl => match us, hl with | [_, _], _ => rfl,
    fun_mk (st := s_roomed) l_13 c_13 k_13,
    PySem.W.mg_of X G a_13,
    (fun_mk (st := s_roomed) l_13 c_13 k_13).binds fun _ _ _ _ _ _ us hl => match us, hl with | [_, _, _], _ => rfl,
    fun_mk (st := s_chained) l_14 c_14 k_14,
    PySem.W.mg_of X G a_14,
    (fun_mk (st := s_chained) l_14 c_14 k_14).binds fun _ _ _ _ _ _ us hl => match us, hl with | [_, _, _, _], _ => rfl,
    fun_mk (st := s_go_on) l_15 c_15 k_15,
    PySem.W.mg_of X G a_15,
    (fun_mk (st := s_go_on) l_15 c_15 k_15).binds fun _ _ _ _ _ _ us hl => match us, hl with | [_, _, _, _], _ => rfl,
    fun_mk (st := s_placed) l_16 c_16 k_16,
    PySem.W.mg_of X G a_16,
    (fun_mk (st := s_placed) l_16 c_16 k_16).binds fun _ _ _ _ _ _ us hl => match us, hl with | [_, _], _ => rfl,
    fun_mk (st := s_handed) l_17 c_17 k_17,
    PySem.W.mg_of X G a_17,
    (fun_mk (st := s_handed) l_17 c_17 k_17).binds fun _ _ _ _ _ _ us hl => match us, hl with | [_, _, _, _], _ => rfl,
    fun_mk (st := s_give_one) l_18 c_18 k_18,
    PySem.W.mg_of X G a_18,
    (fun_mk (st := s_give_one) l_18 c_18 k_18).binds fun _ _ _ _ _ _ us hl => match us, hl with | [_, _, _], _ => rfl,
    fun_mk (st := s_given_lows) l_19 c_19 k_19,
    PySem.W.mg_of X G a_19,
    (fun_mk (st := s_given_lows) l_19 c_19 k_19).binds fun _ _ _ _ _ _ us hl => match us, hl with | [_, _], _ => rfl,
    fun_mk (st := s_put_together) l_20 c_20 k_20,
    PySem.W.mg_of X G a_20,
    (fun_mk (st := s_put_together) l_20 c_20 k_20).binds fun _ _ _ _ _ _ us hl => match us, hl with | [_, _, _], _ => rfl,
    fun_mk (st := s_answered) l_21 c_21 k_21,
    PySem.W.mg_of X G a_21,
    (fun_mk (st := s_answered) l_21 c_21 k_21).binds fun _ _ _ _ _ _ us hl => match us, hl with | [_, _, _, _], _ => rfl,
    fun_mk (st := s_crowd_none) l_22 c_22 k_22,
    PySem.W.mg_of X G a_22,
    (fun_mk (st := s_crowd_none) l_22 c_22 k_22).binds fun _ _ _ _ _ _ us hl => match us, hl with | [_, _], _ => rfl,
    fun_mk (st := s_crowd_paper) l_23 c_23 k_23,
    PySem.W.mg_of X G a_23,
    (fun_mk (st := s_crowd_paper) l_23 c_23 k_23).binds fun _ _ _ _ _ _ us hl => match us, hl with | [_, _, _, _], _ => rfl,
    fun_mk (st := s_struck_crowds) l_24 c_24 k_24,
    PySem.W.mg_of X G a_24,
    (fun_mk (st := s_struck_crowds) l_24 c_24 k_24).binds fun _ _ _ _ _ _ us hl => match us, hl with | [_, _], _ => rfl,
    fun_mk (st := s__law_values) l_25 c_25 k_25,
    PySem.W.mg_of X G a_25,
    (fun_mk (st := s__law_values) l_25 c_25 k_25).binds fun _ _ _ _ _ _ us hl => match us, hl with | [_, _], _ => rfl,
    fun_mk (st := s__law_is_crowd) l_26 c_26 k_26,
    PySem.W.mg_of X G a_26,
    (fun_mk (st := s__law_is_crowd) l_26 c_26 k_26).binds fun _ _ _ _ _ _ us hl => match us, hl with | [_, _, _, _], _ => rfl,
    fun_mk (st := s__law_is_want) l_27 c_27 k_27,
    PySem.W.mg_of X G a_27,
    (fun_mk (st := s__law_is_want) l_27 c_27 k_27).binds fun _ _ _ _ _ _ us hl => match us, hl with | [_, _, _, _, _], _ => rfl,
    fun_mk (st := s__law_is_up) l_28 c_28 k_28,
    PySem.W.mg_of X G a_28,
    (fun_mk (st := s__law_is_up) l_28 c_28 k_28).binds fun _ _ _ _ _ _ us hl => match us, hl with | [_, _], _ => rfl,
    fun_mk (st := s__law_paper_fault) l_29 c_29 k_29,
    PySem.W.mg_of X G a_29,
    (fun_mk (st := s__law_paper_fault) l_29 c_29 k_29).binds fun _ _ _ _ _ _ us hl => match us, hl with | [_, _, _, _, _], _ => rfl,
    fun_mk (st := s__law_told_right) l_30 c_30 k_30,
    PySem.W.mg_of X G a_30,
    (fun_mk (st := s__law_told_right) l_30 c_30 k_30).binds fun _ _ _ _ _ _ us hl => match us, hl with | [_, _, _, _, _], _ => rfl,
    fun_mk (st := s_law) l_31 c_31 k_31,
    PySem.W.mg_of X G a_31,
    (fun_mk (st := s_law) l_31 c_31 k_31).binds fun _ _ _ _ _ _ us hl => match us, hl with | [_], _ => rfl⟩
  exact ⟨_, fun s v => .of_eq rfl, fun base _ _ => ok_law T⟩
end K07

set_option maxHeartbeats 4000000
namespace K07
open PySem PySem.Spec PyProof.Rows L2 DS
/-! ### the source of draws -/
def kcell : Key := Sum.inr ("cells" : Str)
def kleft : Key := Sum.inr ("left" : Str)
def kmix : Key := Sum.inr ("mixed" : Str)
def kturn : Key := Sum.inr ("turn" : Str)
def srcD (l m t : Int) : List (Key × D) := [(kcell, .ref 0), (kleft, .int l), (kmix, .int m), (kturn, .int t)]
def src (c : List Int) (l m t : Int) : Sto := [.lst (c.map .int), .dic (srcD l m t)]
/-- a source, then X -/
def RS (X S : Sto) : Prop := ∃ c l m t, S = src c l m t ++ X
def ClX (X : Sto) : Prop := ∀ o, o ∈ X → ClO (X.length + 2) o
theorem clx_nil : ClX [] := fun o h => absurd h (by simp)
theorem rs_len {X S : Sto} (h : RS X S) : S.length = X.length + 2 := by
  obtain ⟨c, l, m, t, rfl⟩ := h
  simp [src]
theorem rs_cl {X S : Sto} (h : RS X S) (hX : ClX X) : ClS S := by
  have hl := rs_len h
  obtain ⟨c, l, m, t, rfl⟩ := h
  intro o ho
  rw [hl]
  simp only [src, List.cons_append, List.nil_append, List.mem_cons] at ho
  rcases ho with rfl | rfl | ho
  · intro x hx
    obtain ⟨i, _, rfl⟩ := List.mem_map.mp hx
    trivial
  · intro x hx
    simp only [srcD, List.mem_cons, List.not_mem_nil, or_false] at hx
    rcases hx with rfl | rfl | rfl | rfl
    · show 0 < X.length + 2
      omega
    · trivial
    · trivial
    · trivial
  · exact hX o ho
section
variable {c : List Int} {l m t : Int} {X : Sto}
theorem ix_cells : gIx (.ref 1) (.str "cells") (src c l m t ++ X) = some (.ref 0, src c l m t ++ X) := rfl
theorem ix_left : gIx (.ref 1) (.str "left") (src c l m t ++ X) = some (.int l, src c l m t ++ X) := rfl
theorem ix_mixed : gIx (.ref 1) (.str "mixed") (src c l m t ++ X) = some (.int m, src c l m t ++ X) := rfl
theorem ix_turn : gIx (.ref 1) (.str "turn") (src c l m t ++ X) = some (.int t, src c l m t ++ X) := rfl
theorem put_left {v : Int} : gSet (.ref 1) (.str "left") (.int v) (src c l m t ++ X) = some (src c v m t ++ X) := rfl
theorem put_mixed {v : Int} : gSet (.ref 1) (.str "mixed") (.int v) (src c l m t ++ X) = some (src c l v t ++ X) := rfl
theorem put_turn {v : Int} : gSet (.ref 1) (.str "turn") (.int v) (src c l m t ++ X) = some (src c l m v ++ X) := rfl
theorem cells_len : gLen [.ref 0] (src c l m t ++ X) = some (.int c.length, src c l m t ++ X) := by
  show some (D.int ((c.map D.int).length : Nat), _) = _
  rw [List.length_map]
theorem cells_asL : asL (src c l m t ++ X) (.ref 0) = some (c.map .int) := rfl
theorem cells_pop {x : Int} : mPop 0 ((c ++ [x]).map .int) [] (src (c ++ [x]) l m t ++ X) = some (.int x, src c l m t ++ X) := by
  unfold mPop
  simp [src]
end

/-! ### a draw -/
abbrev pickT : TF := bAnd (bVal (eOp2 gLt (eOp2 gIx (eVar 0) (eC (.str "left"))) (eC (.int 2)))) (bVal (eOp2 gGt (eFun (gLen) (aCons (eVar 2) (aNil))) (eC (.int 0))))
abbrev pickB : SF := sPut (eMet mPop (eVar 2) aNil) (eVar 0) (eC (.str "left"))
section
variable {X : Sto} {many : Int}
abbrev pickL (many : Int) : DS.Loc := [some (.ref 1), some (.int many), some (.ref 0), none, none, none]
theorem pick_t {c : List Int} {l m t : Int} : pickT (pickL many) (src c l m t ++ X) = some (decide (l < 2 ∧ 0 < c.length), src c l m t ++ X) := by
  by_cases h2 : l < 2
  · by_cases h3 : 0 < c.length
    · have h3' : (0 : Int) < (c.length : Int) := by omega
      simp [h2, h3, h3', ix_left, cells_len]
    · have h3' : ¬ (0 : Int) < (c.length : Int) := by omega
      simp [h2, h3, h3', ix_left, cells_len]
  · simp [h2, ix_left]
theorem pick_loop {m t : Int} : ∀ (n : Nat) (c : List Int) (l : Int), c.length = n → ∃ c' l', sWhile pickT pickB [] (pickL many) (src c l m t ++ X) = some (.nx, pickL many, src c' l' m t ++ X) := by
  have go : ∀ (n : Nat) (c : List Int) (l : Int), c.length = n → ∃ c' l', whL pickT pickB [] (n + 1) (pickL many) (src c l m t ++ X) = some (.nx, pickL many, src c' l' m t ++ X) := by
    intro n
    induction n with
    | zero =>
      intro c l hc
      have hc' : c = [] := List.length_eq_zero_iff.mp hc
      subst hc'
      refine ⟨[], l, ?_⟩
      unfold whL
      rw [pick_t]
      simp
    | succ n ih =>
      intro c l hc
      by_cases hb : l < 2 ∧ 0 < c.length
      · obtain ⟨c0, x, rfl⟩ : ∃ c0 x, c = c0 ++ [x] := ⟨c.dropLast, c.getLast (by intro e; subst e; simp at hc), (List.dropLast_concat_getLast _).symm⟩
        obtain ⟨c', l', e⟩ := ih c0 x (by simpa using hc)
        refine ⟨c', l', ?_⟩
        unfold whL
        rw [pick_t]
        simp only [hb, decide_true, Option.bind_some, if_true]
        have e2 : pickB (pickL many) (src (c0 ++ [x]) l m t ++ X) = some (.nx, pickL many, src c0 x m t ++ X) := by
          simp [cells_asL, -List.map_append, cells_pop, put_left]
        rw [e2]
        simp only [Option.bind_some]
        exact e
      · refine ⟨c, l, ?_⟩
        unfold whL
        rw [pick_t]
        simp [hb]
  intro n c l hc
  obtain ⟨c', l', e⟩ := go n c l hc
  exact ⟨c', l', sWhile_of e⟩
end
theorem pick_spec {X S : Sto} {many : Int} (hS : RS X S) (hX : ClX X) (hm : many < 1073741824) : ∃ r S', F__law_pick [.ref 1, .int many] S = some (.int r, S') ∧ RS X S' ∧ 0 ≤ r ∧ (r < many ∨ (many < 2 ∧ r = 0)) := by
  have hlen := rs_len hS
  obtain ⟨c, l, m, t, rfl⟩ := hS
  have out : ∀ {z : Int} {c2 : List Int} {l2 m2 t2 : Int}, cutR (X.length + 2) (.int z) (src c2 l2 m2 t2 ++ X) = some (.int z, src c2 l2 m2 t2 ++ X) := fun {z c2 l2 m2 t2} => by
    have hr : RS X (src c2 l2 m2 t2 ++ X) := ⟨_, _, _, _, rfl⟩
    have h2 := rs_len hr
    rw [← h2]
    exact cut_id (rs_cl hr hX) trivial
  by_cases h1 : many < 2
  · refine ⟨0, src c l m t ++ X, ?_, ⟨_, _, _, _, rfl⟩, by decide, .inr ⟨h1, rfl⟩⟩
    unfold F__law_pick fnF B__law_pick
    simp only [List.length_cons, List.length_nil, if_true, List.map_cons, List.map_nil, ev_seq, List.cons_append, List.nil_append, List.replicate_succ, List.replicate_zero]
    simp [h1, hlen, -List.length_append, out, outF]
  obtain ⟨c1, l1, e⟩ := pick_loop (X := X) (many := many) (m := m) (t := t) c.length c l rfl
  have e' := e
  simp only [pickT, pickB, pickL] at e'
  by_cases h2 : 1 < l1
  · refine ⟨l1 % many, src c1 (l1 / many) m t ++ X, ?_, ⟨_, _, _, _, rfl⟩, Int.emod_nonneg _ (by omega), .inl (Int.emod_lt_of_pos _ (by omega))⟩
    unfold F__law_pick fnF B__law_pick
    simp only [List.length_cons, List.length_nil, if_true, List.map_cons, List.map_nil, ev_seq, List.cons_append, List.nil_append, List.replicate_succ, List.replicate_zero]
    simp [h1, ix_cells, e', ix_left, h2, gFdiv_i, gMod_i, put_left, gInt, hlen, -List.length_append, out, outF, hm, show (0 : Int) < many by omega, show (1 : Int) ≤ many by omega]
  · have hm1 : ∀ a : Int, 0 ≤ a % 998244353 ∧ a % 998244353 < 998244353 := fun a => ⟨Int.emod_nonneg _ (by decide), Int.emod_lt_of_pos _ (by decide)⟩
    refine ⟨(((m + (t + 1) * 104729) % 998244353 * ((m + (t + 1) * 104729) % 998244353) + (t + 1) * 17) % 2147483647) / 16 % many, src c1 l1 m (t + 1) ++ X, ?_, ⟨_, _, _, _, rfl⟩, Int.emod_nonneg _ (by omega), .inl (Int.emod_lt_of_pos _ (by omega))⟩
    unfold F__law_pick fnF B__law_pick
    simp only [List.length_cons, List.length_nil, if_true, List.map_cons, List.map_nil, ev_seq, List.cons_append, List.nil_append, List.replicate_succ, List.replicate_zero]
    have q1 := hm1 (m + (t + 1) * 104729)
    have c1 : CMul (t + 1) 104729 := cmulR (by decide) (by decide)
    have c2 : CMul ((m + (t + 1) * 104729) % 998244353) ((m + (t + 1) * 104729) % 998244353) := cmulR (by omega) (by omega)
    have c3 : CMul (t + 1) 17 := cmulR (by decide) (by decide)
    simp [h1, ix_cells, e', ix_left, ix_turn, ix_mixed, h2, gFdiv_i, gMod_i, gMul_i, put_left, put_turn, gInt, hlen, -List.length_append, out, outF, c1, c2, c3, hm, show (0 : Int) < many by omega, show (1 : Int) ≤ many by omega]

/-! ### out of a def that has drawn -/
theorem rs_cut {X S S' : Sto} {d : D} (hS : RS X S) (hS' : RS X S') (hX : ClX X) (hd : Cl (X.length + 2) 12 d) : cutR S.length d S' = some (d, S') := by
  rw [rs_len hS, ← rs_len hS']
  exact cut_id (rs_cl hS' hX) (by rw [rs_len hS']; exact hd)
theorem rs_cutX {X Y S S' : Sto} {d : D} (hS : RS X S) (hS' : RS (X ++ Y) S') (hX : ClX X) (hd : Cl (X.length + 2) 12 d) : ∃ S2, cutR S.length d S' = some (d, S2) ∧ RS X S2 := by
  obtain ⟨c, l, m, t, rfl⟩ := hS'
  have h2 : RS X (src c l m t ++ X) := ⟨_, _, _, _, rfl⟩
  refine ⟨src c l m t ++ X, ?_, h2⟩
  rw [rs_len hS, ← rs_len h2, ← List.append_assoc]
  exact cut_app (rs_cl h2 hX) (by rw [rs_len h2]; exact hd)
/-- a new label -/
theorem rs_new {X S : Sto} {o : Ob} (hS : RS X S) : RS (X ++ [o]) (S ++ [o]) := by
  obtain ⟨c, l, m, t, rfl⟩ := hS
  exact ⟨c, l, m, t, by rw [List.append_assoc]⟩
theorem rs_get {X S : Sto} (hS : RS X S) {k : Nat} : S[X.length + 2 + k]? = none := by
  rw [List.getElem?_eq_none]
  rw [rs_len hS]; omega
theorem rs_at {X Y S : Sto} (hS : RS (X ++ Y) S) {k : Nat} : S[X.length + 2 + k]? = Y[k]? := by
  obtain ⟨c, l, m, t, rfl⟩ := hS
  rw [← List.append_assoc, show X.length + 2 + k = (src c l m t ++ X).length + k by simp [src]]
  exact sto_get
theorem rs_set {X Y S : Sto} (hS : RS (X ++ Y) S) {k : Nat} {o : Ob} : RS (X ++ Y.set k o) (S.set (X.length + 2 + k) o) := by
  obtain ⟨c, l, m, t, rfl⟩ := hS
  refine ⟨c, l, m, t, ?_⟩
  rw [← List.append_assoc, show X.length + 2 + k = (src c l m t ++ X).length + k by simp [src], sto_set, List.append_assoc]
theorem clx_app {X : Sto} {o : Ob} (hX : ClX X) (ho : ClO (X.length + 3) o) (up : ∀ o n, ClO n o → ClO (n + 1) o) : ClX (X ++ [o]) := fun p hp => by
  rw [List.length_append, List.length_singleton]
  rcases List.mem_append.mp hp with hp | hp
  · exact up p _ (hX p hp)
  · rw [List.mem_singleton.mp hp]; exact ho

/-! ### one of some; a list in a drawn order -/
theorem cl_up : ∀ {f n m : Nat} {d : D}, Cl n f d → n ≤ m → Cl m f d
  | 0, _, _, _, h, _ => h.elim
  | f + 1, n, m, d, h, hm => by
    cases d with
    | tup xs => exact fun x hx => cl_up (h x hx) hm
    | tud xs => exact fun x hx => cl_up (h x hx) hm
    | lst xs => exact fun x hx => cl_up (h x hx) hm
    | arg xs => exact fun x hx => cl_up (h x hx) hm
    | ref k => exact Nat.lt_of_lt_of_le h hm
    | _ => trivial
theorem clO_up {n m : Nat} {o : Ob} (h : ClO n o) (hm : n ≤ m) : ClO m o := by
  cases o with
  | dead => trivial
  | lst xs => exact fun x hx => cl_up (h x hx) hm
  | dic xs => exact fun x hx => cl_up (h x hx) hm
  | dit xs => exact fun x hx => cl_up (h x hx) hm
  | dil xs => exact fun x hx => cl_up (h x hx) hm
theorem clx_one {X : Sto} {o : Ob} (hX : ClX X) (ho : ClO (X.length + 3) o) : ClX (X ++ [o]) := clx_app hX ho fun _ _ h => clO_up h (Nat.le_succ _)
/-- what is taken out -/
theorem popAt_ok2 {k : Nat} {xs : List D} {r : Int} {S : Sto} (h0 : 0 ≤ r) (h1 : r < xs.length) (h2 : xs.length < 1073741824) : ∃ d, xs[r.toNat]? = some d ∧ mPopAt k xs [.int r] S = some (d, S.set k (.lst (xs.eraseIdx r.toNat))) := by
  have hr : r.toNat < xs.length := by omega
  refine ⟨xs[r.toNat], List.getElem?_eq_getElem hr, ?_⟩
  unfold mPopAt
  have hx : ixN xs.length r = some r.toNat := by
    unfold ixN
    rw [if_pos h0, if_pos (by omega)]
  simp only [hx, Option.bind_some, List.getElem?_eq_getElem hr, Option.map_some]
  rw [chk_pos ⟨by omega, by omega⟩]
theorem perm_pop : ∀ {xs : List D} {n : Nat} {d : D}, xs[n]? = some d → (d :: xs.eraseIdx n).Perm xs
  | x :: xs, 0, d, h => by cases h; exact List.Perm.refl _
  | x :: xs, n + 1, d, h => by
    have ih := perm_pop (xs := xs) (n := n) (d := d) (by simpa using h)
    exact (List.Perm.swap x d _).trans (ih.cons x)
theorem mixed_spec {X S : Sto} {d : D} {xs : List D} (hS : RS X S) (hX : ClX X) (hd : itemsD S d = some xs) (hl : xs.length < 1000000) (hx : ∀ x, x ∈ xs → Cl (X.length + 2) 11 x) :
    ∃ ys S', F__law_any_order [.ref 1, d] S = some (.lst ys, S') ∧ RS X S' ∧ ys.Perm xs := by
  have hx2 : ∀ x, x ∈ xs → Cl (X.length + 3) 12 x := fun x hm => by
    have up : ∀ {f n : Nat} {d : D}, Cl n f d → Cl n (f + 1) d := by
      intro f
      induction f with
      | zero => intro n d h; exact h.elim
      | succ f ih =>
        intro n d h
        cases d with
        | tup xs => exact fun x hx => ih (h x hx)
        | tud xs => exact fun x hx => ih (h x hx)
        | lst xs => exact fun x hx => ih (h x hx)
        | arg xs => exact fun x hx => ih (h x hx)
        | ref k => exact h
        | _ => trivial
    exact up (cl_up (hx x hm) (Nat.le_succ _))
  have hlen := rs_len hS
  have h0 : RS (X ++ [.lst xs]) (S ++ [.lst xs]) := rs_new hS
  obtain ⟨ys, S2, e2, rest, h3, h4, h5, h6⟩ := lcL_rel (ok := fun _ => True) (g := gfName 3) (tt := bYes) (te := eMet mPopAt (eVar 2) (aCons (eFun (F__law_pick) (aCons (eVar 0) (aCons (eFun (gLen) (aCons (eVar 2) (aNil))) (aNil)))) (aNil)))
    (L0 := [some (.ref 1), some d, some (.ref (X.length + 2)), none])
    (fun i acc S1 => ∃ rest, RS (X ++ [.lst rest]) S1 ∧ (acc ++ rest).Perm xs ∧ acc.length = i ∧ i + rest.length = xs.length) (rngD 0 xs.length) [] 0 (S := S ++ [.lst xs]) ⟨xs, h0, List.Perm.refl _, rfl, by omega⟩ (fun i d acc S1 hi hP => by
      obtain ⟨rest, r1, r2, r3, r4⟩ := hP
      have hi2 : i < xs.length := by
        have := (List.getElem?_eq_some_iff.mp hi).1
        simpa [rngD] using this
      have hsub : ∀ x, x ∈ rest → x ∈ xs := fun x hm => r2.mem_iff.mp (List.mem_append_right _ hm)
      have hX2 : ClX (X ++ [.lst rest]) := clx_one hX fun x hm => hx2 x (hsub x hm)
      obtain ⟨r, S3, e3, p1, p2, p3⟩ := pick_spec r1 hX2 (many := (rest.length : Int)) (by omega)
      have ha : S1[X.length + 2]? = some (.lst rest) := rs_at (k := 0) r1
      have hb : S3[X.length + 2]? = some (.lst rest) := rs_at (k := 0) p1
      obtain ⟨z, z1, z2⟩ := popAt_ok2 (k := X.length + 2) (xs := rest) (S := S3) p2 (by omega) (by omega)
      refine ⟨trivial, _, rfl, true, S1, rfl, fun h => (nomatch h), fun _ => ⟨z, S3.set (X.length + 2) (.lst (rest.eraseIdx r.toNat)), ?_, rest.eraseIdx r.toNat, ?_, ?_, ?_, ?_⟩⟩
      · simp [asL_r ha, asL_r hb, gLen_r ha, e3, z2]
      · exact rs_set (k := 0) (Y := [.lst rest]) p1
      · refine List.Perm.trans ?_ r2
        have := (perm_pop z1).append_left acc
        simpa using this
      · simp [r3]
      · have hr : r.toNat < rest.length := by omega
        rw [List.length_eraseIdx]
        simp only [hr, if_true]
        omega) (fun _ _ _ => trivial)
  have hr0 : rest = [] := List.length_eq_zero_iff.mp (by
    have : (rngD 0 xs.length).length = xs.length := by simp [rngD]
    omega)
  subst hr0
  have hpp : ys.Perm xs := by simpa using h4
  have hS3 : ∀ x, x ∈ ys → Cl (X.length + 2) 11 x := fun x hm => hx x (hpp.mem_iff.mp hm)
  obtain ⟨S4, e4, h7⟩ := rs_cutX (d := .lst ys) hS h3 hX (fun x hm => hS3 x hm)
  refine ⟨ys, S4, ?_, h7, hpp⟩
  have hg : gList true [d] S = some (.ref (X.length + 2), S ++ [.lst xs]) := by
    show (itemsD S d).map _ = _
    rw [hd, ← hlen]
    rfl
  have hn : gLen [.ref (X.length + 2)] (S ++ [.lst xs]) = some (.int xs.length, S ++ [.lst xs]) := gLen_r (rs_at (k := 0) h0)
  have hz : Sz ys.length := by rw [hpp.length_eq]; exact sz_ok (by omega)
  unfold F__law_any_order fnF B__law_any_order
  simp [hg, ev_lcF, hn, chk_pos (show RgI (xs.length : Int) from rgI_ok (by omega) (by omega)), e2, hz, outF, e4]

/-! ### values, stands -/
theorem cut_take (xs : List D) {k : Int} (h : 0 ≤ k) : DS.cutD xs none (some k) = xs.take k.toNat := by
  obtain ⟨n, rfl⟩ := Int.eq_ofNat_of_zero_le h
  unfold DS.cutD
  rw [HT.sIx_none, HT.sIx_nat]
  simp only [List.drop_zero, Nat.sub_zero, Int.toNat_natCast]
  rw [List.take_eq_take_iff]; omega
/-- ascending values, small -/
structure Vok (most : Nat) (vs : List Int) : Prop where
  srt : vs.Pairwise (· < ·)
  len : vs.length ≤ most
  bnd : ∀ v, v ∈ vs → 0 ≤ v ∧ v ≤ 63
theorem lt_le {vs : List Int} (h : vs.Pairwise (· < ·)) : vs.Pairwise (· ≤ ·) := h.imp fun h => Int.le_of_lt h
theorem srt_lt {vs : List Int} (h : vs.Nodup) : (srt vs).Pairwise (· < ·) := by
  have h1 := srt_sorted vs
  have h2 : (srt vs).Nodup := (srt_perm vs).nodup_iff.mpr h
  have := h1.and h2
  exact this.imp fun ⟨a, b⟩ => by
    have b' := b
    omega
def unInt : D → Int
  | .int i => i
  | _ => 0
theorem map_of_perm {xs : List Int} : ∀ {ys : List D}, ys.Perm (xs.map .int) → ∃ zs : List Int, ys = zs.map .int ∧ zs.Perm xs := by
  intro ys h
  have : ∀ y, y ∈ ys → ∃ i, y = .int i := fun y hy => by
    obtain ⟨i, _, rfl⟩ := List.mem_map.mp (h.mem_iff.mp hy)
    exact ⟨i, rfl⟩
  have mk : ∀ ys : List D, (∀ y, y ∈ ys → ∃ i, y = D.int i) → ∃ zs : List Int, ys = zs.map .int := by
    intro ys
    induction ys with
    | nil => exact fun _ => ⟨[], rfl⟩
    | cons y ys ih =>
      intro h
      obtain ⟨zs, e⟩ := ih fun z hz => h z (List.mem_cons_of_mem _ hz)
      obtain ⟨i, e2⟩ := h y List.mem_cons_self
      exact ⟨i :: zs, by rw [e, e2]; rfl⟩
  obtain ⟨zs, rfl⟩ := mk ys this
  refine ⟨zs, rfl, ?_⟩
  have h2 := h.map unInt
  have e : ∀ l : List Int, (l.map D.int).map unInt = l := fun l => by
    rw [List.map_map]
    exact List.map_id _
  rwa [e, e] at h2

theorem Vok.wide {k m : Nat} {vs : List Int} (h : Vok k vs) (hm : k ≤ m) : Vok m vs := ⟨h.srt, Nat.le_trans h.len hm, h.bnd⟩

abbrev dN (n : Nat) : D := .int n
abbrev dT (xs : List Int) : D := .tup (xs.map .int)
abbrev dP (p : Int × Int) : D := .tup [.int p.1, .int p.2]
def srtP (xs : List (Int × Int)) : List (Int × Int) := xs.mergeSort fun a b => PySem.W.dataLe false toPy (dP a) (dP b)
theorem str_ne : (("machine" : Str) = "sum") = False := by decide
theorem sum_ok1 : PyData.strOk ("sum" : Str) = true := by decide +kernel
theorem mach_ok1 : PyData.strOk ("machine" : Str) = true := by decide +kernel
section
variable {S : Sto}
theorem eq_sum : gEq (.str "sum") (.str "sum") S = some (.bl true, S) := by rw [gEq_s sum_ok1 sum_ok1]; simp
theorem clI {n f : Nat} {xs : List Int} : ∀ x, x ∈ xs.map D.int → Cl n (f + 1) x := fun x hx => by
  obtain ⟨i, _, rfl⟩ := List.mem_map.mp hx
  trivial
theorem clP {n f : Nat} {xs : List (Int × Int)} : ∀ x, x ∈ xs.map dP → Cl n (f + 2) x := fun x hx => by
  obtain ⟨i, _, rfl⟩ := List.mem_map.mp hx
  intro y hy
  simp only [List.mem_cons, List.not_mem_nil, or_false] at hy
  rcases hy with rfl | rfl <;> trivial
theorem srtOk_pairs (xs : List (Int × Int)) : SrtOk (xs.map dP) := by
  have hp : ∀ p : Int × Int, Pn 2 (dP p) := fun p x hx => by
    simp only [List.mem_cons, List.not_mem_nil, or_false] at hx
    rcases hx with rfl | rfl <;> exact pn_int
  refine ⟨fun d hd => ?_, ?_, .inl fun d hd => ?_, fun d hd => ?_⟩
  · obtain ⟨i, _, rfl⟩ := List.mem_map.mp hd
    exact (pn_py (hp i)).1
  · intro d hd d' hd'
    rw [List.map_map] at hd hd'
    obtain ⟨i, _, rfl⟩ := List.mem_map.mp hd
    obtain ⟨j, _, rfl⟩ := List.mem_map.mp hd'
    simp [PySem.W.alike, PySem.W.alikeAll]
  · rw [List.map_map] at hd
    obtain ⟨i, _, rfl⟩ := List.mem_map.mp hd
    exact ⟨.int i.1, [.int i.2], by simp⟩
  · obtain ⟨i, _, rfl⟩ := List.mem_map.mp hd
    have := (pn_py (hp i)).2
    omega
theorem sortD_pairs (xs : List (Int × Int)) : sortD false (xs.map dP) = (srtP xs).map dP := by
  unfold sortD srtP
  rw [← List.map_mergeSort (r := fun a b : Int × Int => PySem.W.dataLe false toPy (dP a) (dP b)) (s := PySem.W.dataLe false toPy) (f := dP) (l := xs)]
  exact fun a _ b _ => rfl
theorem gSorted_pairs {fr : Bool} {d : D} {xs : List (Int × Int)} (h : itemsD S d = some (xs.map dP)) (hl : xs.length ≤ 16777216) : gSorted fr [d] S = some (mkL fr ((srtP xs).map dP) S) := by
  show (itemsD S d).bind _ = _
  rw [h, Option.bind_some, chk_pos ⟨.inl (srtOk_pairs xs), by rw [List.length_map]; exact sz_ok hl⟩, sortD_pairs]
theorem srtP_perm (xs : List (Int × Int)) : (srtP xs).Perm xs := List.mergeSort_perm _ _
theorem srtP_mem {xs : List (Int × Int)} {a : Int × Int} : a ∈ srtP xs ↔ a ∈ xs := (srtP_perm xs).mem_iff
theorem srtP_len {xs : List (Int × Int)} : (srtP xs).length = xs.length := (srtP_perm xs).length_eq
end
theorem addK_len {α : Type} [DecidableEq α] {ks : List α} {a : α} : (addK ks a).length ≤ ks.length + 1 := by
  unfold addK
  split <;> simp
theorem fold_addK_len {α : Type} [DecidableEq α] : ∀ (xs ks : List α), (xs.foldl addK ks).length ≤ ks.length + xs.length
  | [], ks => by simp
  | x :: xs, ks => by
    have h1 := fold_addK_len xs (addK ks x)
    have h2 := addK_len (ks := ks) (a := x)
    rw [List.foldl_cons, List.length_cons]
    omega
theorem dedK_len {α : Type} [DecidableEq α] (xs : List α) : (dedK xs).length ≤ xs.length := by
  have := fold_addK_len xs []
  simpa [dedK] using this
def Jk (X : Sto) : Prop := ∀ o, o ∈ X → ClO 0 o
theorem clS_app {S X : Sto} (hS : ClS S) (hX : Jk X) : ClS (S ++ X) := fun o ho => by
  rw [List.length_append]
  rcases List.mem_append.mp ho with ho | ho
  · exact clO_up (hS o ho) (Nat.le_add_right _ _)
  · exact clO_up (hX o ho) (Nat.zero_le _)
theorem jk_cons {o : Ob} {X : Sto} (ho : ClO 0 o) (hX : Jk X) : Jk (o :: X) := fun p hp => by
  rcases List.mem_cons.mp hp with rfl | hp
  · exact ho
  · exact hX p hp
theorem jk_app {X Y : Sto} (hX : Jk X) (hY : Jk Y) : Jk (X ++ Y) := fun p hp => (List.mem_append.mp hp).elim (hX p) (hY p)
theorem jk_nil : Jk [] := fun p hp => absurd hp (by simp)
theorem jk_one {o : Ob} (ho : ClO 0 o) : Jk [o] := jk_cons ho jk_nil
theorem put_all {κ : Type} [DecidableEq κ] {Q : D → Prop} {kvs : List (κ × D)} {k : κ} {d : D} (h : ∀ x, x ∈ kvs → Q x.2) (hd : Q d) : ∀ x, x ∈ putD kvs k d → Q x.2 := fun x hx => by
  unfold putD at hx
  split at hx
  · obtain ⟨y, hy, rfl⟩ := List.mem_map.mp hx
    split
    · exact hd
    · exact h y hy
  · rcases List.mem_append.mp hx with hx | hx
    · exact h x hx
    · rw [List.mem_singleton.mp hx]; exact hd
theorem ki_len {kvs : List (Key × D)} {ks : List Int} (h : KI kvs ks) : kvs.length = ks.length := by
  have := congrArg List.length h
  simpa using this
theorem clT {n f : Nat} {xs : List Int} : Cl n (f + 2) (dT xs) := clI (f := f)
abbrev dS (st : List (List Int)) : D := .tup (st.map fun vs => dT vs)
theorem merge_all {Q : D → Prop} : ∀ {more kvs : List (Key × D)}, (∀ x, x ∈ more → Q x.2) → (∀ x, x ∈ kvs → Q x.2) → ∀ x, x ∈ mergeD kvs more → Q x.2
  | [], kvs, _, h, x, hx => h x hx
  | m :: more, kvs, hm, h, x, hx => merge_all (fun y hy => hm y (List.mem_cons_of_mem _ hy)) (put_all h (hm m List.mem_cons_self)) x hx
theorem pairsD_all {Q : D → Prop} {h : Int → D} : ∀ (xs : List Int) {kvs : List (Key × D)}, (∀ a, a ∈ xs → Q (h a)) → pairsD (xs.map fun a => .tup [.int a, h a]) = some kvs → ∀ x, x ∈ kvs → Q x.2
  | [], kvs, _, e, x, hx => by cases e; simp at hx
  | a :: xs, kvs, hq, e, x, hx => by
    have e : (pairsD (xs.map fun a => .tup [.int a, h a])).map (fun r => ((Sum.inl a : Key), h a) :: r) = some kvs := e
    obtain ⟨r, e1, rfl⟩ := Option.map_eq_some_iff.mp e
    rcases List.mem_cons.mp hx with rfl | hx
    · exact hq a List.mem_cons_self
    · exact pairsD_all xs (fun b hb => hq b (List.mem_cons_of_mem _ hb)) e1 x hx
theorem dict_ints (xs : List Int) (h : Int → D) {S : Sto} : ∃ kvs, gDictP [.lst (xs.map fun a => .tup [.int a, h a])] S = some (.ref S.length, S ++ [.dic kvs]) ∧ KI kvs (dedK xs) ∧ ∀ Q : D → Prop, (∀ a, a ∈ xs → Q (h a)) → ∀ x, x ∈ kvs → Q x.2 := by
  obtain ⟨kvs, e1, e2⟩ := pairsD_ints xs h
  refine ⟨mergeD [] kvs, ?_, KI.merge e2 KI.nil, fun Q hq => merge_all (pairsD_all xs hq e1) fun x hx => absurd hx (by simp)⟩
  have e : ∀ d : D, gDictP [d] S = (asK S d).bind fun xs => (pairsD xs).map fun kvs => (.ref S.length, S ++ [.dic (mergeD [] kvs)]) := fun _ => rfl
  rw [e, asK_l, Option.bind_some, e1]
  rfl
theorem gAdd_l {xs ys : List D} {S : Sto} (h : xs.length + ys.length ≤ 16777216) : gAdd (.lst xs) (.lst ys) S = some (.lst (xs ++ ys), S) := by
  show (if xs.length + ys.length ≤ sizeLine then _ else _) = _
  rw [if_pos (sz_ok h).le]
theorem gAdd_t {xs ys : List D} {S : Sto} (h : xs.length + ys.length ≤ 16777216) : gAdd (.tup xs) (.tup ys) S = some (.tup (xs ++ ys), S) := by
  show (if xs.length + ys.length ≤ sizeLine then _ else _) = _
  rw [if_pos (sz_ok h).le]
noncomputable abbrev dedE : EF := eFun (gSorted false) (aCons (eFun (gList false) (aCons (eFun (gDictP) (aCons (eFro (lcF [6] (iSeq (eVar 5)) (gfName 6) (bYes) (eTup (aCons (eVar 6) (aCons (eC (.int 0)) (aNil)))))) (aNil))) (aNil))) (aNil))
theorem ded_ev {a0 a1 a2 a3 a4 a6 : Option D} {as : List (Option D)} {xs : List Int} {Y : Sto} (hl : xs.length ≤ 16000000) :
    ∃ kvs, dedE (a0 :: a1 :: a2 :: a3 :: a4 :: some (.lst (xs.map .int)) :: a6 :: as) Y = some (.lst ((srt (dedK xs)).map .int), Y ++ [.dic kvs]) ∧ ∀ x, x ∈ kvs → Cl 0 12 x.2 := by
  obtain ⟨kvs, e1, e2, e3⟩ := dict_ints xs (fun _ => .int 0) (S := Y)
  have e4 : lcF [6] (iSeq (eVar 5)) (gfName 6) (bYes) (eTup (aCons (eVar 6) (aCons (eC (.int 0)) (aNil)))) (a0 :: a1 :: a2 :: a3 :: a4 :: some (.lst (xs.map .int)) :: a6 :: as) Y = some (xs.map fun a => .tup [.int a, .int 0], Y) :=
    lcF_all (ok := fun _ => True) xs D.int (fun a => .tup [.int a, .int 0]) rfl trivial (sz_ok (by omega)) fun a _ => ⟨_, rfl, by simp⟩
  have h1 : itemsD (Y ++ [.dic kvs]) (.ref Y.length) = some ((dedK xs).map .int) := items_dic (kvs := kvs) (by simp) e2
  have h2 : gList false [.ref Y.length] (Y ++ [.dic kvs]) = some (.lst ((dedK xs).map .int), Y ++ [.dic kvs]) := by
    show (itemsD _ _).map _ = _
    rw [h1]; rfl
  have h3 := gSorted_ints (fr := false) (d := .lst ((dedK xs).map .int)) (xs := dedK xs) (S := Y ++ [.dic kvs]) rfl (by
    have := dedK_len xs
    rw [sizeLine_eq]; omega)
  refine ⟨kvs, ?_, e3 _ fun _ _ => trivial⟩
  unfold dedE
  simp [e4, e1, h2, h3]
theorem enumI_at {ns : List Int} {i : Nat} {d : D} (h : (enumD 0 (ns.map D.int))[i]? = some d) : ∃ n, ns[i]? = some n ∧ d = .tup [.int (i : Int), .int n] := by
  rw [enumD_get, List.getElem?_map] at h
  obtain ⟨e, h1, h2⟩ := Option.map_eq_some_iff.mp h
  obtain ⟨n, h3, h4⟩ := Option.map_eq_some_iff.mp h1
  subst h4
  rw [Nat.zero_add] at h2
  exact ⟨n, h3, h2.symm⟩
theorem mem_addK {α : Type} [DecidableEq α] {ks : List α} {a b : α} : b ∈ addK ks a ↔ b ∈ ks ∨ b = a := by
  unfold addK
  split
  · rename_i h
    exact ⟨.inl, fun q => q.elim id fun e => e ▸ h⟩
  · simp
theorem mem_foldK {α : Type} [DecidableEq α] {b : α} : ∀ {xs ks : List α}, b ∈ xs.foldl addK ks ↔ b ∈ ks ∨ b ∈ xs
  | [], ks => by simp
  | x :: xs, ks => by
    rw [List.foldl_cons, mem_foldK, mem_addK, List.mem_cons]
    constructor
    · rintro ((h | h) | h)
      · exact .inl h
      · exact .inr (.inl h)
      · exact .inr (.inr h)
    · rintro (h | h | h)
      · exact .inl (.inl h)
      · exact .inl (.inr h)
      · exact .inr h
theorem mem_dedK {α : Type} [DecidableEq α] {b : α} {xs : List α} : b ∈ dedK xs ↔ b ∈ xs := by
  unfold dedK
  rw [mem_foldK]
  simp

theorem nodup_addK {α : Type} [DecidableEq α] {ks : List α} {a : α} (h : ks.Nodup) : (addK ks a).Nodup := by
  unfold addK
  split
  · exact h
  · rename_i hn
    rw [List.nodup_append]
    exact ⟨h, by simp, fun x hx y hy e => hn (by rw [List.mem_singleton] at hy; rw [← hy, ← e]; exact hx)⟩
theorem nodup_foldK {α : Type} [DecidableEq α] : ∀ {xs ks : List α}, ks.Nodup → (xs.foldl addK ks).Nodup
  | [], _, h => h
  | x :: xs, ks, h => nodup_foldK (xs := xs) (nodup_addK h)
theorem nodup_dedK {α : Type} [DecidableEq α] (xs : List α) : (dedK xs).Nodup := nodup_foldK List.nodup_nil
theorem srt_ded_eq {a b : List Int} (h : ∀ x, x ∈ a ↔ x ∈ b) : srt (dedK a) = srt (dedK b) := by
  have hp : (dedK a).Perm (dedK b) := (List.perm_ext_iff_of_nodup (nodup_dedK a) (nodup_dedK b)).mpr fun x => by rw [mem_dedK, mem_dedK]; exact h x
  exact srt_eq (srt_sorted _) ((srt_perm _).trans hp.symm)
theorem ev_disp {fs : List (EF × EF)} {L : DS.Loc} {S : Sto} : eDisp fs L S = if fs.length ≤ 15 then (dispF fs L S).bind fun p => some (.ref p.2.length, p.2 ++ [.dic (mergeD [] p.1)]) else none := rfl
theorem ev_disp0 {L : DS.Loc} {S : Sto} : dispF [] L S = some ([], S) := rfl
theorem ev_disp1 {fk fv : EF} {r : List (EF × EF)} {L : DS.Loc} {S : Sto} : dispF ((fk, fv) :: r) L S = (fk L S).bind fun p => (keyD p.1).bind fun k => (fv L p.2).bind fun q => (dispF r L q.2).bind fun z => some ((k, q.1) :: z.1, z.2) := rfl
theorem source_spec (ns : List Int) (hn : ns.length ≤ 63) : ∃ S', F__law_open_cells [.arg (ns.map .int)] [] = some (.ref 1, S') ∧ RS [] S' := by
  obtain ⟨L', S', e1, m, rfl, rfl⟩ := forL_rel (ok := fun _ => True) (g := gfName 2) (kl := [2]) (body := sSet 1 (eOp2 gMod (eFun (gInt) (aCons (eOp2 gAdd (eOp2 gAdd (eOp2 gMul (eVar 1) (eC (.int 69069))) (eOp2 gMul (eVar 2) (eC (.int 31)))) (eC (.int 5))) (aNil))) (eC (.int 2147483629))))
    (fun _ L S' => ∃ m : Int, L = [some (.arg (ns.map .int)), some (.int m), none, none] ∧ S' = []) (ns.map .int) 0 (L := [some (.arg (ns.map .int)), some (.int 11), none, none]) (S := []) ⟨11, rfl, rfl⟩ (fun i d L S1 hi hP => by
      obtain ⟨m, rfl, rfl⟩ := hP
      rw [List.getElem?_map] at hi
      obtain ⟨x, _, rfl⟩ := Option.map_eq_some_iff.mp hi
      have c1 : CMul m 69069 := cmulR (by decide) (by decide)
      have c2 : CMul x 31 := cmulR (by decide) (by decide)
      refine ⟨trivial, _, rfl, [some (.arg (ns.map .int)), some (.int ((m * 69069 + x * 31 + 5) % 2147483629)), some (.int x), none], [], ?_, _, rfl, rfl⟩
      simp [gMul_i c1, gMul_i c2, gInt, gMod_i]) (fun _ _ _ => trivial)
  have e2 : lcF [2] (iSeq (eVar 0)) (gfName 2) (bYes) (eFun (gAbs) (aCons (eVar 2) (aNil))) [some (.arg (ns.map .int)), some (.int m), none, none] [] = some (ns.map fun x => D.int (x.natAbs : Int), []) :=
    lcF_all (ok := fun _ => True) ns D.int (fun x => D.int (x.natAbs : Int)) rfl trivial (sz_ok (by omega)) fun x _ => ⟨_, rfl, by simp [gAbs]⟩
  refine ⟨[.lst ((ns.map fun x => D.int (x.natAbs : Int)).reverse), .dic (srcD 1 m 0)], ?_, (ns.map fun x => (x.natAbs : Int)).reverse, 1, m, 0, ?_⟩
  · unfold F__law_open_cells fnF B__law_open_cells
    simp only [List.length_cons, List.length_nil, Nat.reduceAdd, if_true, List.map_cons, List.map_nil, List.cons_append, List.nil_append, List.replicate, Nat.reduceSub, ev_seq, ev_set, ev_c, Option.bind_some, List.set_cons_succ, List.set_cons_zero, ev_for, ev_iseq, ev_var, List.getElem?_cons_zero, List.getElem?_cons_succ, ev_seqa, e1, ev_ret, ev_disp, Nat.reduceLeDiff,
      ev_disp1, ev_disp0, ev_rev, ev_fro, e2, asK_l, Option.map_some, ev_mkT, outF]
    rfl
  · simp [src, List.map_reverse]
theorem zip_at {as bs : List D} {i : Nat} {d : D} (h : (zipD as bs)[i]? = some d) : ∃ a b, as[i]? = some a ∧ bs[i]? = some b ∧ d = .tup [a, b] := zipD_get as bs i d h
theorem sum_bound {B : Int} : ∀ {xs : List Int}, (∀ x, x ∈ xs → -B ≤ x ∧ x ≤ B) → -(B * xs.length) ≤ xs.sum ∧ xs.sum ≤ B * xs.length
  | [], _ => by simp
  | x :: xs, h => by
    have h1 := h x List.mem_cons_self
    have h2 := sum_bound fun y hy => h y (List.mem_cons_of_mem _ hy)
    rw [List.sum_cons, List.length_cons, Int.natCast_add, Int.mul_add]
    omega
theorem intsD_map (xs : List Int) : intsD (xs.map .int) = some xs := by
  induction xs with
  | nil => rfl
  | cons x xs ih =>
    show (intsD (xs.map .int)).map _ = _
    rw [ih]; rfl
theorem gSum_l {xs : List Int} {S : Sto} : gSum [.lst (xs.map .int)] S = some (.int xs.sum, S) := by
  have e : ∀ d : D, gSum [d] S = (asK S d).bind fun xs => (intsD xs).map fun bs => (.int bs.sum, S) := fun _ => rfl
  rw [e, asK_l, Option.bind_some, intsD_map]
  rfl
def wlist : List Int := [0, 1, 1, 2, 3, -1, -2, 5, 7, -4]
theorem piled_le {B : Nat} : ∀ ts : List Str, (∀ t, t ∈ ts → t.length ≤ B) → piled ts ≤ ts.length * (B + 2)
  | [], _ => by simp [piled_nil]
  | t :: ts, h => by
    have h1 := h t List.mem_cons_self
    have h2 := piled_le ts fun u hu => h u (List.mem_cons_of_mem _ hu)
    rw [piled_cons, List.length_cons, Nat.add_mul]
    omega
theorem shownAll_map : ∀ xs : List PyData, PyData.shownAll xs = xs.map PyData.shown
  | [] => by unfold PyData.shownAll; rfl
  | x :: xs => by unfold PyData.shownAll; rw [shownAll_map xs]; rfl
theorem showAll : ∀ xs : List PyData, (∀ x, x ∈ xs → x.showable = true) → PyData.showableAll xs = true
  | [], _ => by unfold PyData.showableAll; rfl
  | x :: xs, h => by
    unfold PyData.showableAll
    rw [h x List.mem_cons_self, showAll xs fun y hy => h y (List.mem_cons_of_mem _ hy)]
    rfl
theorem tupleText_le (ts : List Str) : (tupleText ts).length ≤ 3 + piled ts := by
  unfold tupleText
  rw [strLen_append, strLen_append]
  have e1 : ((("(" : String) : Str)).length = 1 := rfl
  have e3 : (((if ts.length == 1 then ",)" else ")" : String) : Str)).length ≤ 2 := by split <;> decide
  rw [e1]
  by_cases h : ts = []
  · subst h
    have : (Str.join ", " []).length = 0 := rfl
    rw [this]
    omega
  · have := join_length_add ts h
    omega
theorem listText_le (ts : List Str) : (listText ts).length ≤ 2 + piled ts := by
  unfold listText
  rw [strLen_append]
  have e2 : ((("]" : String) : Str)).length = 1 := rfl
  rw [e2]
  cases ts with
  | nil => decide
  | cons t ts =>
    show (textFrom 1 (("[" : Str) ++ (if (0 : Nat) > 0 then ", " else "" : String) ++ t) ts).length + 1 ≤ _
    rw [textFrom_length_pos _ _ _ (by decide), strLen_append, strLen_append, piled_cons]
    have e3 : ((("[" : String) : Str)).length = 1 := rfl
    have e4 : (((if (0 : Nat) > 0 then ", " else "" : String) : Str)).length = 0 := rfl
    rw [e3, e4]
    omega
def isI : D → Bool
  | .int _ => true
  | _ => false
def nr0 : D → Bool
  | .ref _ => false
  | _ => true
def nr1 : D → Bool
  | .ref _ => false
  | .tup xs => xs.all nr0
  | _ => true
/-! ### odd values -/
def Od (b : Bool) : Nat → D → Prop
  | 0, _ => False
  | f + 1, .tup xs => ∀ x, x ∈ xs → Od b f x
  | f + 1, .tud xs => ∀ x, x ∈ xs → Od b f x
  | f + 1, .lst xs => ∀ x, x ∈ xs → Od b f x
  | _ + 1, .int i => i.natAbs < 10 ^ 31
  | _ + 1, .str s => PyData.strOk s = true ∧ (reprText s).length ≤ 20
  | _ + 1, .non => True
  | _ + 1, .bl _ => True
  | _ + 1, .nod => b = true
  | _ + 1, _ => False
mutual
def wt : D → Nat
  | .tup xs => 3 + wts xs
  | .tud xs => 3 + wts xs
  | .lst xs => 3 + wts xs
  | _ => 40
def wts : List D → Nat
  | [] => 0
  | x :: xs => wt x + 2 + wts xs
end
section
variable {b : Bool} {f n : Nat} {d : D} {xs ys : List D}
theorem od_tup : Od b (f + 1) (.tup xs) ↔ ∀ x, x ∈ xs → Od b f x := Iff.rfl
theorem od_lst : Od b (f + 1) (.lst xs) ↔ ∀ x, x ∈ xs → Od b f x := Iff.rfl
theorem od_up : ∀ {f g : Nat} {d : D}, Od b f d → f ≤ g → Od b g d
  | 0, _, _, h, _ => h.elim
  | f + 1, 0, _, _, hg => by omega
  | f + 1, g + 1, d, h, hg => by
    cases d with
    | tup xs => exact fun x hx => od_up (h x hx) (by omega)
    | tud xs => exact fun x hx => od_up (h x hx) (by omega)
    | lst xs => exact fun x hx => od_up (h x hx) (by omega)
    | _ => exact h
theorem od_weak : ∀ {f : Nat} {d : D}, Od false f d → Od b f d
  | 0, _, h => h.elim
  | f + 1, d, h => by
    cases d with
    | tup xs => exact fun x hx => od_weak (h x hx)
    | tud xs => exact fun x hx => od_weak (h x hx)
    | lst xs => exact fun x hx => od_weak (h x hx)
    | nod => exact absurd (show false = true from h) (by decide)
    | _ => exact h
theorem od_cl : ∀ {f : Nat} {d : D}, Od b f d → Cl n f d
  | 0, _, h => h.elim
  | f + 1, d, h => by
    cases d with
    | tup xs => exact fun x hx => od_cl (h x hx)
    | tud xs => exact fun x hx => od_cl (h x hx)
    | lst xs => exact fun x hx => od_cl (h x hx)
    | arg xs => exact h.elim
    | ref k => exact h.elim
    | _ => trivial
theorem od_pn : ∀ {f : Nat} {d : D}, Od false f d → Pn f d
  | 0, _, h => h.elim
  | f + 1, d, h => by
    cases d with
    | tup xs => exact fun x hx => od_pn (h x hx)
    | tud xs => exact fun x hx => od_pn (h x hx)
    | lst xs => exact fun x hx => od_pn (h x hx)
    | nod => exact absurd (show false = true from h) (by decide)
    | str s => exact h.1
    | arg xs => exact h.elim
    | ref k => exact h.elim
    | rep k => exact h.elim
    | _ => trivial
theorem nrfs_all : ∀ {xs : List D}, (∀ x, x ∈ xs → nrf x = true) → nrfs xs = true
  | [], _ => by unfold nrfs; rfl
  | x :: xs, h => by
    unfold nrfs
    rw [h x List.mem_cons_self, nrfs_all fun y hy => h y (List.mem_cons_of_mem _ hy)]
    rfl
theorem od_nrf : ∀ {f : Nat} {d : D}, Od b f d → nrf d = true
  | 0, _, h => h.elim
  | f + 1, d, h => by
    cases d with
    | tup xs => unfold nrf; exact nrfs_all fun x hx => od_nrf (h x hx)
    | tud xs => unfold nrf; exact nrfs_all fun x hx => od_nrf (h x hx)
    | lst xs => unfold nrf; exact nrfs_all fun x hx => od_nrf (h x hx)
    | arg xs => exact h.elim
    | ref k => exact h.elim
    | _ => unfold nrf; rfl
theorem od_nr0 (h : Od b f d) : nr0 d = true := by
  cases f with
  | zero => exact h.elim
  | succ f => cases d <;> first | rfl | exact h.elim
theorem od_nr1 (h : Od b f d) : nr1 d = true := by
  cases f with
  | zero => exact h.elim
  | succ f =>
    cases d with
    | tup xs => exact List.all_eq_true.mpr fun x hx => od_nr0 (h x hx)
    | ref k => exact h.elim
    | _ => rfl
/-! ### how much there is -/
theorem wt_tup : wt (.tup xs) = 3 + wts xs := by conv => lhs; unfold wt
theorem wt_tud : wt (.tud xs) = 3 + wts xs := by conv => lhs; unfold wt
theorem wt_lst : wt (.lst xs) = 3 + wts xs := by conv => lhs; unfold wt
theorem wts_nil : wts [] = 0 := by unfold wts; rfl
theorem wts_cons {x : D} : wts (x :: xs) = wt x + 2 + wts xs := by conv => lhs; unfold wts
theorem wts_append : wts (xs ++ ys) = wts xs + wts ys := by
  induction xs with
  | nil => rw [List.nil_append, wts_nil, Nat.zero_add]
  | cons x xs ih => rw [List.cons_append, wts_cons, wts_cons, ih]; omega
theorem wts_rev : wts xs.reverse = wts xs := by
  induction xs with
  | nil => rfl
  | cons x xs ih => rw [List.reverse_cons, wts_append, ih, wts_cons, wts_cons, wts_nil]; omega
theorem wts_len : xs.length ≤ wts xs := by
  induction xs with
  | nil => exact Nat.zero_le _
  | cons x xs ih => rw [List.length_cons, wts_cons]; omega
theorem wt_mem {x : D} (h : x ∈ xs) : wt x + 2 ≤ wts xs := by
  induction xs with
  | nil => cases h
  | cons y xs ih =>
    rw [wts_cons]
    rcases List.mem_cons.mp h with e | e
    · subst e; omega
    · have := ih e; omega
theorem wts_ints (is : List Int) : wts (is.map D.int) = 42 * is.length := by
  induction is with
  | nil => rfl
  | cons i is ih =>
    rw [List.map_cons, wts_cons, ih, List.length_cons]
    have : wt (D.int i) = 40 := by unfold wt; rfl
    omega
/-- a part of a list -/
def Sub (ys xs : List D) : Prop := (∀ y, y ∈ ys → y ∈ xs) ∧ wts ys ≤ wts xs
theorem sub_take (n : Nat) (xs : List D) : Sub (xs.take n) xs := by
  refine ⟨fun y hy => List.mem_of_mem_take hy, ?_⟩
  have e := wts_append (xs := xs.take n) (ys := xs.drop n)
  rw [List.take_append_drop] at e
  omega
theorem sub_drop (n : Nat) (xs : List D) : Sub (xs.drop n) xs := by
  refine ⟨fun y hy => List.mem_of_mem_drop hy, ?_⟩
  have e := wts_append (xs := xs.take n) (ys := xs.drop n)
  rw [List.take_append_drop] at e
  omega
theorem sub_cut {lo hi : Option Int} : Sub (DS.cutD xs lo hi) xs := by
  obtain ⟨a1, a2⟩ := sub_take (HT.sIx xs.length xs.length hi - HT.sIx xs.length 0 lo) (xs.drop (HT.sIx xs.length 0 lo))
  obtain ⟨b1, b2⟩ := sub_drop (HT.sIx xs.length 0 lo) xs
  exact ⟨fun y hy => b1 y (a1 y hy), Nat.le_trans a2 b2⟩
/-! ### its text -/
theorem text_le : ∀ {f : Nat} {d : D}, Od b f d → (toPy d).showable = true ∧ (toPy d).depth ≤ f ∧ (toPy d).shown.length ≤ wt d
  | 0, _, h => h.elim
  | f + 1, d, h => by
    have go : ∀ xs : List D, (∀ x, x ∈ xs → Od b f x) → PyData.showableAll (xs.map toPy) = true ∧ PyData.depthAll (xs.map toPy) ≤ f ∧ piled (PyData.shownAll (xs.map toPy)) ≤ wts xs := fun xs hx => by
      refine ⟨showAll _ fun x hm => ?_, depAll fun x hm => ?_, ?_⟩
      · obtain ⟨y, hy, rfl⟩ := List.mem_map.mp hm
        exact (text_le (hx y hy)).1
      · obtain ⟨y, hy, rfl⟩ := List.mem_map.mp hm
        exact (text_le (hx y hy)).2.1
      · rw [shownAll_map, List.map_map]
        have all : ∀ x, x ∈ xs → (toPy x).shown.length ≤ wt x := fun x hm => (text_le (hx x hm)).2.2
        clear hx
        induction xs with
        | nil => simp [piled_nil]
        | cons x xs ih =>
          rw [List.map_cons, piled_cons, wts_cons]
          have h1 := all x List.mem_cons_self
          have h2 := ih fun y hy => all y (List.mem_cons_of_mem _ hy)
          simp only [Function.comp] at h1 h2 ⊢
          omega
    have w40 : ∀ d : D, (∀ xs, d ≠ .tup xs) → (∀ xs, d ≠ .lst xs) → (∀ xs, d ≠ .tud xs) → wt d = 40 := fun d h1 h2 h3 => by
      cases d <;> first | exact absurd rfl (h1 _) | exact absurd rfl (h2 _) | exact absurd rfl (h3 _) | (unfold wt; rfl)
    cases d with
    | tup xs =>
      obtain ⟨h1, h2, h3⟩ := go xs h
      rw [toPy_tup, wt_tup]
      refine ⟨by unfold PyData.showable; exact h1, by simp only [PyData.depth]; omega, ?_⟩
      unfold PyData.shown
      exact Nat.le_trans (tupleText_le _) (by omega)
    | tud xs =>
      obtain ⟨h1, h2, h3⟩ := go xs h
      rw [toPy_tud, wt_tud]
      refine ⟨by unfold PyData.showable; exact h1, by simp only [PyData.depth]; omega, ?_⟩
      unfold PyData.shown
      exact Nat.le_trans (tupleText_le _) (by omega)
    | lst xs =>
      obtain ⟨h1, h2, h3⟩ := go xs h
      rw [toPy_lst, wt_lst]
      refine ⟨by unfold PyData.showable; exact h1, by simp only [PyData.depth]; omega, ?_⟩
      unfold PyData.shown
      exact Nat.le_trans (listText_le _) (by omega)
    | int i =>
      have h : i.natAbs < 10 ^ 31 := h
      rw [w40 _ (fun _ => by simp) (fun _ => by simp) (fun _ => by simp), toPy_int]
      refine ⟨?_, by simp [PyData.depth], ?_⟩
      · unfold PyData.showable
        have h2 : i.natAbs < 2 ^ 1920 := Nat.lt_of_lt_of_le h (Nat.le_trans (show 10 ^ 31 ≤ 2 ^ 104 by decide) (Nat.pow_le_pow_right (by decide) (by decide)))
        by_cases h0 : i.natAbs = 0
        · rw [h0]; decide
        · exact decide_eq_true ((Nat.log2_lt h0).mpr h2)
      · unfold PyData.shown
        have := int_text_length_le10 (a := i) (k := 31) (by decide) h
        show (Str.ofString (toString i)).length ≤ 40
        rw [PySem.ofString_length]
        omega
    | str s =>
      rw [w40 _ (fun _ => by simp) (fun _ => by simp) (fun _ => by simp), toPy_str]
      exact ⟨rfl, by simp [PyData.depth], Nat.le_trans h.2 (by decide)⟩
    | non =>
      rw [w40 _ (fun _ => by simp) (fun _ => by simp) (fun _ => by simp)]
      unfold toPy
      exact ⟨rfl, by simp [PyData.depth], by decide⟩
    | bl c =>
      rw [w40 _ (fun _ => by simp) (fun _ => by simp) (fun _ => by simp), toPy_bl]
      exact ⟨rfl, by simp [PyData.depth], by cases c <;> decide⟩
    | nod =>
      rw [w40 _ (fun _ => by simp) (fun _ => by simp) (fun _ => by simp)]
      unfold toPy
      exact ⟨rfl, by simp [PyData.depth, PyData.depthKv], by decide⟩
    | arg xs => exact h.elim
    | ref k => exact h.elim
    | rep k => exact h.elim
end
theorem reprN_eq {f : Nat} {d : D} {S : Sto} (h : Od true f d) (hf : f ≤ 60) (hw : wt d ≤ 16000000) (ht : topN (toPy d) = true) : gReprN [d] S = some (.rep (toPy d).shown, S) := by
  have hr : res S d = d := by
    cases f with
    | zero => exact h.elim
    | succ f => cases d <;> first | rfl | exact h.elim
  obtain ⟨h1, h2, h3⟩ := text_le h
  have e : gReprN [d] S = chk (nrf (res S d) = true ∧ ShowN (pyS S d) ∧ topN (pyS S d) = true) (some (.rep (pyS S d).shown, S)) := rfl
  rw [e]
  unfold pyS
  rw [hr, chk_pos ⟨od_nrf h, ⟨h1, by omega, (sz_ok (Nat.le_trans h3 (by omega))).le⟩, ht⟩]

/-! ### while, by a measure -/
theorem en_while {t : TF} {body : SF} {kl : List Nat} {Q : Flo × DS.Loc × Sto → Prop} (I : Nat → DS.Loc → Sto → Prop)
    (hs : ∀ n L S, I n L S → En (t L S) fun p => if p.1 = true then ∃ n', n = n' + 1 ∧ En (body L p.2) (FlQ (fun L S => ∃ k, k ≤ n' ∧ I k L S) kl Q Q) else Q (.nx, L, p.2)) :
    ∀ (n : Nat) {L : DS.Loc} {S : Sto}, I n L S → En (sWhile t body kl L S) Q := by
  have go : ∀ (n : Nat) (L : DS.Loc) (S : Sto), I n L S → ∃ r, whL t body kl (n + 1) L S = some r ∧ Q r := by
    intro n
    induction n using Nat.strongRecOn with
    | _ n ih =>
      intro L S hI
      obtain ⟨⟨b, S1⟩, e1, h⟩ := hs n L S hI
      cases b with
      | false =>
        rw [if_neg Bool.false_ne_true] at h
        refine ⟨_, ?_, h⟩
        unfold whL
        rw [e1]
        rfl
      | true =>
        rw [if_pos rfl] at h
        obtain ⟨n', rfl, ⟨r, L2, S2⟩, e2, h⟩ := h
        have step : ∀ k, k ≤ n' → I k (kill L2 kl) S2 → ∃ r, whL t body kl (n' + 1) (kill L2 kl) S2 = some r ∧ Q r := fun k hk hI => by
          obtain ⟨r, e3, q⟩ := ih k (by omega) _ _ hI
          have := whL_mono e3 (n' - k)
          rw [show k + 1 + (n' - k) = n' + 1 by omega] at this
          exact ⟨r, this, q⟩
        cases r with
        | nx =>
          obtain ⟨k, hk, hI2⟩ := h
          obtain ⟨r, e3, q⟩ := step k hk hI2
          refine ⟨r, ?_, q⟩
          rw [← e3]
          conv => lhs; unfold whL
          rw [e1]
          simp [e2]
        | ct =>
          obtain ⟨k, hk, hI2⟩ := h
          obtain ⟨r, e3, q⟩ := step k hk hI2
          refine ⟨r, ?_, q⟩
          rw [← e3]
          conv => lhs; unfold whL
          rw [e1]
          simp [e2]
        | bk =>
          refine ⟨_, ?_, h⟩
          unfold whL
          rw [e1]
          simp [e2]
        | rt d =>
          refine ⟨_, ?_, h⟩
          unfold whL
          rw [e1]
          simp [e2]
  intro n L S hI
  obtain ⟨r, e, q⟩ := go n L S hI
  exact ⟨r, sWhile_of e, q⟩

/-! ### placings: names with values -/
abbrev Pl := List (Nat × Int)
def cntP (P : Pl) (w : Int) : Nat := P.countP fun p => decide (p.2 = w)
abbrev keysP (P : Pl) : List Nat := P.map (·.1)
def putN (P : Pl) (n : Nat) (v : Int) : Pl := if n ∈ keysP P then P.map (fun p => if p.1 = n then (n, v) else p) else P ++ [(n, v)]
def one (b : Bool) : Nat := if b then 1 else 0
theorem cntP_nil {w : Int} : cntP [] w = 0 := rfl
theorem cntP_cons {p : Nat × Int} {P : Pl} {w : Int} : cntP (p :: P) w = cntP P w + one (decide (p.2 = w)) := by
  unfold cntP one
  rw [List.countP_cons]
theorem cntP_app {P Q : Pl} {w : Int} : cntP (P ++ Q) w = cntP P w + cntP Q w := by
  unfold cntP
  rw [List.countP_append]
theorem putN_new {P : Pl} {n : Nat} {v : Int} (h : n ∉ keysP P) : putN P n v = P ++ [(n, v)] := by
  unfold putN
  rw [if_neg h]
theorem putN_old {P : Pl} {n : Nat} {v : Int} (h : n ∈ keysP P) : putN P n v = P.map (fun p => if p.1 = n then (n, v) else p) := by
  unfold putN
  rw [if_pos h]
theorem keys_new {P : Pl} {n : Nat} {v : Int} (h : n ∉ keysP P) : keysP (putN P n v) = keysP P ++ [n] := by
  rw [putN_new h]
  simp [keysP]
theorem keys_old {P : Pl} {n : Nat} {v : Int} (h : n ∈ keysP P) : keysP (putN P n v) = keysP P := by
  rw [putN_old h]
  unfold keysP
  rw [List.map_map]
  apply List.map_congr_left
  intro p _
  show (if p.1 = n then (n, v) else p).1 = p.1
  split
  · rename_i e; exact e.symm
  · rfl
theorem mem_put {P : Pl} {n : Nat} {v : Int} {p : Nat × Int} (h : p ∈ putN P n v) : p = (n, v) ∨ (p.1 ≠ n ∧ p ∈ P) := by
  by_cases hn : n ∈ keysP P
  · rw [putN_old hn] at h
    obtain ⟨q, hq, e⟩ := List.mem_map.mp h
    by_cases hqn : q.1 = n
    · rw [if_pos hqn] at e; exact .inl e.symm
    · rw [if_neg hqn] at e; subst e; exact .inr ⟨hqn, hq⟩
  · rw [putN_new hn] at h
    rcases List.mem_append.mp h with h | h
    · exact .inr ⟨fun e => hn (e ▸ List.mem_map_of_mem h), h⟩
    · exact .inl (List.mem_singleton.mp h)
theorem mem_put_other {P : Pl} {n : Nat} {v : Int} {p : Nat × Int} (h : p ∈ P) (hp : p.1 ≠ n) : p ∈ putN P n v := by
  by_cases hn : n ∈ keysP P
  · rw [putN_old hn]
    exact List.mem_map.mpr ⟨p, h, by rw [if_neg hp]⟩
  · rw [putN_new hn]
    exact List.mem_append_left _ h
theorem put_noop {P : Pl} {n : Nat} {v : Int} (h : n ∉ keysP P) : P.map (fun p => if p.1 = n then (n, v) else p) = P := by
  conv => rhs; rw [← List.map_id P]
  apply List.map_congr_left
  intro p hp
  rw [if_neg (fun e : p.1 = n => h (e ▸ List.mem_map_of_mem hp))]
  rfl
theorem cnt_old : ∀ {P : Pl} {n : Nat} {u v w : Int}, (keysP P).Nodup → (n, u) ∈ P → cntP (putN P n v) w + one (decide (u = w)) = cntP P w + one (decide (v = w))
  | p :: P, n, u, v, w, hn, h => by
    have hk : n ∈ keysP (p :: P) := List.mem_map.mpr ⟨(n, u), h, rfl⟩
    rw [putN_old hk, List.map_cons, cntP_cons, cntP_cons]
    have hn' : p.1 ∉ keysP P ∧ (keysP P).Nodup := List.nodup_cons.mp hn
    by_cases hp : p.1 = n
    · have hnk : n ∉ keysP P := hp ▸ hn'.1
      rw [if_pos hp, put_noop hnk]
      have hpu : p = (n, u) := by
        rcases List.mem_cons.mp h with h | h
        · exact h.symm
        · exact absurd (List.mem_map.mpr ⟨(n, u), h, rfl⟩) hnk
      rw [hpu]
      dsimp only
      omega
    · have hm : (n, u) ∈ P := by
        rcases List.mem_cons.mp h with h | h
        · exact absurd (by rw [← h]) hp
        · exact h
      have ih := cnt_old (v := v) (w := w) hn'.2 hm
      rw [putN_old (List.mem_map.mpr ⟨(n, u), hm, rfl⟩)] at ih
      rw [if_neg hp]
      dsimp only at ih ⊢
      omega
theorem cnt_new {P : Pl} {n : Nat} {v w : Int} (h : n ∉ keysP P) : cntP (putN P n v) w = cntP P w + one (decide (v = w)) := by
  rw [putN_new h, cntP_app, cntP_cons, cntP_nil]
  dsimp only
  omega
/-- what has been met: a name, and whence it came -/
abbrev Met := List (Nat × Option (Nat × Int))
structure MetOk (dom : Nat → List Int) (P : Pl) (first : Nat) (met : Met) : Prop where
  z : met[0]? = some (first, none)
  nd : (met.map (·.1)).Nodup
  s : ∀ j o c, 1 ≤ j → met[j]? = some (o, c) → ∃ b u, c = some (b, u) ∧ b < j ∧ (o, u) ∈ P ∧ ∃ e, met[b]? = some e ∧ u ∈ dom e.1
  new : first ∉ keysP P
  kn : (keysP P).Nodup
  dm : ∀ p, p ∈ P → p.2 ∈ dom p.1
/-- a placing on the way, ahead of number i and value v -/
structure Way (dom : Nat → List Int) (P : Pl) (first : Nat) (met : Met) (v0 : Int) (i : Nat) (v : Int) (Q : Pl) : Prop where
  ks : keysP Q = keysP P
  un : ∀ j o c, 1 ≤ j → j ≤ i → met[j]? = some (o, some c) → (o, c.2) ∈ Q
  dm : ∀ p, p ∈ Q → p.2 ∈ dom p.1
  cn : ∀ w, cntP Q w + one (decide (v = w)) = cntP P w + one (decide (v0 = w))
  at_ : ∃ e, met[i]? = some e ∧ v ∈ dom e.1
structure Done (dom : Nat → List Int) (P : Pl) (first : Nat) (v0 : Int) (Q : Pl) : Prop where
  ks : keysP Q = keysP P ++ [first]
  dm : ∀ p, p ∈ Q → p.2 ∈ dom p.1
  cn : ∀ w, cntP Q w = cntP P w + one (decide (v0 = w))
theorem way_start {dom : Nat → List Int} {P : Pl} {first : Nat} {met : Met} (h : MetOk dom P first met) {i : Nat} {v : Int} (hi : ∃ e, met[i]? = some e ∧ v ∈ dom e.1) : Way dom P first met v i v P :=
  ⟨rfl, fun j o c hj _ hm => by
    obtain ⟨b, u, e, _, h2, _⟩ := h.s j o _ hj hm
    cases e
    exact h2, h.dm, fun _ => rfl, hi⟩
theorem way_step {dom : Nat → List Int} {P Q : Pl} {first : Nat} {met : Met} {v0 v : Int} {i : Nat} (h : MetOk dom P first met) (w : Way dom P first met v0 i v Q) {o b : Nat} {u : Int} (hi : 1 ≤ i) (hm : met[i]? = some (o, some (b, u))) :
    b < i ∧ Way dom P first met v0 b u (putN Q o v) := by
  obtain ⟨b', u', e, hb, hP, e2⟩ := h.s i o _ hi hm
  cases e
  have hQ : (o, u) ∈ Q := w.un i o (b, u) hi (Nat.le_refl _) hm
  have hk : o ∈ keysP Q := List.mem_map.mpr ⟨(o, u), hQ, rfl⟩
  refine ⟨hb, ⟨(keys_old hk).trans w.ks, fun j o' c hj hjb hm' => ?_, fun p hp => ?_, fun x => ?_, e2⟩⟩
  · refine mem_put_other (w.un j o' c hj (by omega) hm') fun e => ?_
    have hlt := (List.getElem?_eq_some_iff.mp hm).1
    have hlt' := (List.getElem?_eq_some_iff.mp hm').1
    have g1 : (met.map (·.1))[i]? = some o := by rw [List.getElem?_map, hm]; rfl
    have g2 : (met.map (·.1))[j]? = some o' := by rw [List.getElem?_map, hm']; rfl
    have l1 := (List.getElem?_eq_some_iff.mp g1).1
    have l2 := (List.getElem?_eq_some_iff.mp g2).1
    have : j = i := (List.getElem_inj (h₀ := l2) (h₁ := l1) h.nd).mp (by rw [(List.getElem?_eq_some_iff.mp g1).2, (List.getElem?_eq_some_iff.mp g2).2]; exact e)
    omega
  · rcases mem_put hp with rfl | ⟨_, hp⟩
    · obtain ⟨e, he, hv⟩ := w.at_
      rw [hm] at he
      cases he
      exact hv
    · exact w.dm p hp
  · have c1 := cnt_old (v := v) (w := x) (w.ks ▸ h.kn) hQ
    have c2 := w.cn x
    omega
theorem way_done {dom : Nat → List Int} {P Q : Pl} {first : Nat} {met : Met} {v0 v : Int} (h : MetOk dom P first met) (w : Way dom P first met v0 0 v Q) : Done dom P first v0 (putN Q first v) := by
  have hk : first ∉ keysP Q := by rw [w.ks]; exact h.new
  refine ⟨by rw [keys_new hk, w.ks], fun p hp => ?_, fun x => ?_⟩
  · rcases mem_put hp with rfl | ⟨_, hp⟩
    · obtain ⟨e, he, hv⟩ := w.at_
      rw [h.z] at he
      cases he
      exact hv
    · exact w.dm p hp
  · rw [cnt_new hk]
    exact w.cn x

/-! ### dicts of names -/
def kvE {α : Type} (e : α → D) (p : Nat × α) : Key × D := (Sum.inl (p.1 : Int), e p.2)
abbrev kvN : Nat × Int → Key × D := kvE D.int
section
variable {S : Sto}
theorem find_map {κ : Type} [DecidableEq κ] {k k' : κ} {v : D} : ∀ kvs : List (κ × D), valD (kvs.map fun kv => if kv.1 = k then (kv.1, v) else kv) k' = if k' = k then (valD kvs k).map (fun _ => v) else valD kvs k'
  | [] => by simp [valD]
  | q :: kvs => by
    have ih := find_map (k := k) (k' := k') (v := v) kvs
    unfold valD at ih ⊢
    rw [List.map_cons, List.find?_cons, List.find?_cons, List.find?_cons]
    by_cases h1 : q.1 = k
    · by_cases h2 : k' = k
      · simp [h1, h2]
      · have h3 : ¬ k = k' := fun e => h2 e.symm
        simp only [h1, if_true, h3, decide_false, h2, if_false] at ih ⊢
        exact ih
    · by_cases h2 : q.1 = k'
      · have h3 : ¬ k' = k := fun e => h1 (h2.trans e)
        simp [h2, h3]
      · simp only [h1, h2, if_false, decide_false] at ih ⊢
        exact ih
theorem gIx_dic {k : Nat} {kvs : List (Key × D)} {u : Int} {d : D} (h : S[k]? = some (.dic kvs) ∨ S[k]? = some (.dil kvs)) (hv : valD kvs (Sum.inl u : Key) = some d) : gIx (.ref k) (.int u) S = some (d, S) := by
  have e : DS.dictGet S k (.int u) = some (valD kvs (Sum.inl u : Key)) := by
    unfold DS.dictGet
    rcases h with h | h <;> (rw [h]; rfl)
  unfold gIx
  rcases h with h | h <;> (simp only [h, e, hv]; rfl)
theorem set_back {k : Nat} {o o2 : Ob} (h : S[k]? = some o) : (S.set k o2).set k o = S := by
  have hkl := (List.getElem?_eq_some_iff.mp h).1
  rw [List.set_set]
  apply List.ext_getElem?
  intro i
  by_cases hi : k = i
  · subst hi; rw [List.getElem?_set_self hkl, h]
  · rw [List.getElem?_set_ne hi]
theorem val_kvE {α : Type} {e : α → D} : ∀ {P : List (Nat × α)} {n : Nat} {a : α}, (P.map (·.1)).Nodup → (n, a) ∈ P → valD (P.map (kvE e)) (Sum.inl (n : Int) : Key) = some (e a)
  | p :: P, n, a, hn, h => by
    have hn' : p.1 ∉ P.map (·.1) ∧ (P.map (·.1)).Nodup := List.nodup_cons.mp hn
    unfold valD
    rw [List.map_cons, List.find?_cons]
    by_cases hp : p.1 = n
    · have hpa : p = (n, a) := by
        rcases List.mem_cons.mp h with h | h
        · exact h.symm
        · exact absurd (List.mem_map.mpr ⟨(n, a), h, rfl⟩) (hp ▸ hn'.1)
      subst hpa
      simp [kvE]
    · have hm : (n, a) ∈ P := by
        rcases List.mem_cons.mp h with h | h
        · exact absurd (by rw [← h]) hp
        · exact h
      have hk : decide ((kvE e p).1 = (Sum.inl (n : Int) : Key)) = false := by
        rw [decide_eq_false_iff_not]
        intro q
        have := Sum.inl.inj q
        exact hp (by omega)
      rw [hk]
      exact val_kvE hn'.2 hm
theorem keys_kvE {α : Type} {e : α → D} (P : List (Nat × α)) : KI (P.map (kvE e)) (P.map fun p => (p.1 : Int)) := by
  unfold KI
  rw [List.map_map, List.map_map]
  rfl
theorem any_kv {α : Type} {e : α → D} (P : List (Nat × α)) (n : Nat) : ((P.map (kvE e)).any fun kv => decide (kv.1 = (Sum.inl (n : Int) : Key))) = decide (n ∈ P.map (·.1)) := by
  rw [any_keys (keys_kvE P), decide_eq_decide, List.mem_map, List.mem_map]
  exact ⟨fun ⟨p, h, q⟩ => ⟨p, h, by omega⟩, fun ⟨p, h, q⟩ => ⟨p, h, by omega⟩⟩
theorem putD_kvN {P : Pl} {n : Nat} {v : Int} : putD (P.map kvN) (Sum.inl (n : Int) : Key) (.int v) = (putN P n v).map kvN := by
  unfold putD putN
  rw [any_kv]
  by_cases h : n ∈ keysP P
  · rw [if_pos h, if_pos (decide_eq_true h), List.map_map, List.map_map]
    apply List.map_congr_left
    intro p _
    show (if (kvN p).1 = (Sum.inl (n : Int) : Key) then ((kvN p).1, D.int v) else kvN p) = kvN (if p.1 = n then (n, v) else p)
    by_cases hp : p.1 = n
    · rw [if_pos hp, if_pos (by rw [← hp]; rfl), ← hp]; rfl
    · rw [if_neg hp, if_neg fun q => hp (by have := Sum.inl.inj q; omega)]
  · rw [if_neg h, if_neg (by rw [decide_eq_false h]; exact Bool.false_ne_true), List.map_append]
    rfl
theorem gIx_E {α : Type} {e : α → D} {P : List (Nat × α)} {k n : Nat} {a : α} (h : S[k]? = some (.dic (P.map (kvE e))) ∨ S[k]? = some (.dil (P.map (kvE e)))) (hn : (P.map (·.1)).Nodup) (hm : (n, a) ∈ P) : gIx (.ref k) (.int (n : Int)) S = some (e a, S) :=
  gIx_dic h (val_kvE hn hm)
theorem gSet_N {P : Pl} {k n : Nat} {v : Int} (h : S[k]? = some (.dic (P.map kvN))) (hl : P.length ≤ 1000) : gSet (.ref k) (.int (n : Int)) (.int v) S = some (S.set k (.dic ((putN P n v).map kvN))) := by
  rw [gSet_dic h (by rw [List.length_map, sizeLine_eq]; omega), putD_kvN]
theorem in_kvE {neg : Bool} {α : Type} {e : α → D} {P : List (Nat × α)} {k n : Nat} (h : S[k]? = some (.dic (P.map (kvE e)))) : inD neg (.int (n : Int)) (.ref k) S = some (.bl (neg.xor (decide (n ∈ P.map (·.1)))), S) := by
  rw [inD_dic h (keys_kvE P)]
  congr 4
  rw [decide_eq_decide, List.mem_map, List.mem_map]
  exact ⟨fun ⟨p, h, q⟩ => ⟨p, h, by omega⟩, fun ⟨p, h, q⟩ => ⟨p, h, by omega⟩⟩
theorem lock_dic {k : Nat} {kvs : List (Key × D)} (hk : S[k]? = some (.dic kvs)) : lockS k S = some (S.set k (.dil kvs)) := by unfold lockS; rw [hk]
theorem lock_at {k : Nat} {kvs : List (Key × D)} (hk : S[k]? = some (.dic kvs)) : (S.set k (.dil kvs))[k]? = some (.dil kvs) := List.getElem?_set_self (List.getElem?_eq_some_iff.mp hk).1
theorem unlock_dil {k : Nat} {kvs : List (Key × D)} (hk : S[k]? = some (.dic kvs)) : unlockS k (S.set k (.dil kvs)) = some S := by
  unfold unlockS
  rw [lock_at hk]
  show some _ = _
  rw [set_back hk]
theorem keysD_E {α : Type} {e : α → D} {P : List (Nat × α)} : List.map kD (List.map (fun x => x.1) (P.map (kvE e))) = P.map fun p => dN p.1 := by
  rw [List.map_map, List.map_map]
  rfl
/-! ### room for one more -/
def optD : Option Int → D
  | none => .non
  | some h => .int h
structure HiOk (R : D) (hi : Int → Option Int) : Prop where
  h : ∀ S, ClS S → ∀ v, F_high_of [R, .int v] S = some (optD (hi v), S)
def roomB (hi : Int → Option Int) (P : Pl) (v : Int) : Bool := match hi v with | none => true | some h => decide ((cntP P v : Int) < h)
theorem roomed_eq {R : D} {hi : Int → Option Int} (h : HiOk R hi) (hS : ClS S) {k : Nat} {P : Pl} (hk : S[k]? = some (.dic (P.map kvN))) (hn : (keysP P).Nodup) (hl : P.length ≤ 100) (v : Int) : F_roomed [R, .ref k, .int v] S = some (.bl (roomB hi P v), S) := by
  have hcutN : ∀ b : Bool, cutR S.length (.bl b) S = some (.bl b, S) := fun b => cut_id hS trivial
  have hkl := (List.getElem?_eq_some_iff.mp hk).1
  have e1 := h.h S hS v
  rw [en_val]
  refine en_fn rfl ?_
  simp only [B_roomed, ev_all, ls_all, Nat.reduceSub, Nat.reduceAdd, e1]
  unfold roomB
  cases hv : hi v with
  | none =>
    have k1 : gIsN (optD none) .non S = some (.bl true, S) := rfl
    simp only [k1, ev_all, ls_all, hcutN]
  | some b =>
    have k1 : gIsN (optD (some b)) .non S = some (.bl false, S) := rfl
    simp only [k1, ev_all, ls_all]
    have k3 : gIx (.ref k) = gIx (.ref k) := rfl
    simp only [lock_dic hk, lock_at hk, keysD_E, ev_all, ls_all, Nat.reduceAdd]
    refine en_lcM (fun p : Nat × Int => dN p.1) (fun p => decide (p.2 = v)) (fun p => dN p.1) P trivial (fun p hp => ?_) ?_
    · have e2 := gIx_E (S := S.set k (.dil (P.map kvN))) (.inr (lock_at hk)) hn (show (p.1, p.2) ∈ P from hp)
      simp only [ev_all, ls_all, Nat.reduceAdd, e2]
    have hfl := List.length_filter_le (fun p : Nat × Int => decide (p.2 = v)) P
    have hc : (P.filter fun p => decide (p.2 = v)).length = cntP P v := (List.countP_eq_length_filter (p := fun p : Nat × Int => decide (p.2 = v)) (l := P)).symm
    have k4 : gLt (.int (cntP P v : Nat)) (optD (some b)) S = some (.bl (decide ((cntP P v : Int) < b)), S) := rfl
    simp only [ev_all, ls_all, Nat.reduceAdd, List.length_map, hc, show Sz (cntP P v) from sz_ok (by omega), unlock_dil hk, k4, hcutN]
end

section
variable {S : Sto} {dom : Nat → List Int} {P : Pl} {first : Nat} {met : Met}
/-! ### a chain of names is moved -/
def mE (e : Nat × Option (Nat × Int)) : D := match e.2 with
  | none => .tup [dN e.1, .non, .non]
  | some c => .tup [dN e.1, dN c.1, .int c.2]
theorem set_last {o o2 : Ob} : (S ++ [o]).set S.length o2 = S ++ [o2] := by
  rw [sto_set0]
  rfl
theorem chained_eq (h : MetOk dom P first met) {pl i : Nat} {v : Int} (hp : S[pl]? = some (.dic (P.map kvN))) (hl : P.length ≤ 100) (hi : ∃ e, met[i]? = some e ∧ v ∈ dom e.1) :
    En (F_chained [.ref pl, .lst (met.map mE), .int i, .int v] S) fun p => ∃ Q, p = (.ref S.length, S ++ [.dic (Q.map kvN)]) ∧ Done dom P first v Q := by
  have e0 : gDictC [.ref pl] S = some (.ref S.length, S ++ [.dic (P.map kvN)]) := by
    unfold gDictC
    simp only [hp]
  refine en_fn rfl ?_
  simp only [B_chained, ev_all, ls_all, Nat.reduceSub, Nat.reduceAdd, e0]
  refine en_while (fun n L S' => (∃ (j : Nat) (u : Int) (Q : Pl), n = j + 1 ∧ L = [some (.ref pl), some (.lst (met.map mE)), some (.int (j : Int)), some (.int u), some (.ref S.length), none, none, none] ∧ S' = S ++ [.dic (Q.map kvN)] ∧ Way dom P first met v j u Q) ∨
    (∃ Q : Pl, L = [some (.ref pl), some (.lst (met.map mE)), some .non, some .non, some (.ref S.length), none, none, none] ∧ S' = S ++ [.dic (Q.map kvN)] ∧ Done dom P first v Q)) ?_ (i + 1) (.inl ⟨i, v, P, rfl, rfl, rfl, way_start h hi⟩)
  rintro n L S' (⟨j, u, Q, rfl, rfl, rfl, w⟩ | ⟨Q, rfl, rfl, d⟩)
  · have k1 : gNotN (.int (j : Int)) .non (S ++ [.dic (Q.map kvN)]) = some (.bl true, S ++ [.dic (Q.map kvN)]) := rfl
    obtain ⟨⟨o, c⟩, he, hu⟩ := w.at_
    have hql : Q.length ≤ 100 := by
      have := congrArg List.length w.ks
      simp only [keysP, List.length_map] at this
      omega
    have k2 := gSet_N (S := S ++ [.dic (Q.map kvN)]) (P := Q) (k := S.length) (n := o) (v := u) (by simp) (by omega)
    rw [set_last] at k2
    simp only [ev_all, ls_all, Nat.reduceAdd, k1]
    refine ⟨j, rfl, ?_⟩
    by_cases hj : j = 0
    · subst hj
      have hoc : (o, c) = (first, none) := Option.some.inj (he.symm.trans h.z)
      cases hoc
      simp only [mE, ev_all, ls_all, Nat.reduceAdd, List.getElem?_map, he, k2, List.reverse_cons, List.reverse_nil, List.nil_append, List.cons_append]
      exact ⟨0, Nat.le_refl _, .inr ⟨_, rfl, way_done h w⟩⟩
    · obtain ⟨b, u', rfl, hb, _⟩ := h.s j o c (by omega) he
      obtain ⟨_, w'⟩ := way_step h w (by omega) he
      simp only [mE, ev_all, ls_all, Nat.reduceAdd, List.getElem?_map, he, k2, List.reverse_cons, List.reverse_nil, List.nil_append, List.cons_append]
      exact ⟨b + 1, by omega, .inl ⟨b, u', _, rfl, rfl, rfl, w'⟩⟩
  · have k1 : gNotN .non .non (S ++ [.dic (Q.map kvN)]) = some (.bl false, S ++ [.dic (Q.map kvN)]) := rfl
    simp only [ev_all, ls_all, Nat.reduceAdd, k1]
    exact ⟨Q, rfl, d⟩
end

/-! ### going on: what has been met and seen -/
section
variable {dom : Nat → List Int} {P : Pl} {first : Nat} {hi : Int → Option Int}
structure PlOk (dom : Nat → List Int) (hi : Int → Option Int) (P : Pl) : Prop where
  kn : (keysP P).Nodup
  dm : ∀ p, p ∈ P → p.2 ∈ dom p.1
  up : ∀ v h, hi v = some h → (cntP P v : Int) ≤ h
theorem Done.ok {v : Int} {Q : Pl} (d : Done dom P first v Q) (h : PlOk dom hi P) (hf : first ∉ keysP P) (hr : roomB hi P v = true) : PlOk dom hi Q := by
  refine ⟨?_, d.dm, fun w b hw => ?_⟩
  · rw [d.ks, List.nodup_append]
    exact ⟨h.kn, by simp, fun x hx y hy e => by rw [List.mem_singleton.mp hy] at e; exact hf (e ▸ hx)⟩
  · have h1 := h.up w b hw
    have h2 := d.cn w
    unfold one at h2
    by_cases hvw : v = w
    · subst hvw
      unfold roomB at hr
      rw [hw] at hr
      simp only [decide_eq_true_eq] at hr
      simp only [decide_true, if_true] at h2
      omega
    · simp only [hvw, decide_false, Bool.false_eq_true, if_false] at h2
      omega
def cs (P : Pl) (seen : List Int) : Nat := (seen.map (cntP P)).sum
theorem cs_app {seen : List Int} {v : Int} : cs P (seen ++ [v]) = cs P seen + cntP P v := by
  unfold cs
  simp
theorem cs_nil : ∀ seen : List Int, cs [] seen = 0
  | [] => rfl
  | v :: seen => by
    have := cs_nil seen
    unfold cs at this ⊢
    rw [List.map_cons, List.sum_cons, this]
    rfl
theorem cs_cons {p : Nat × Int} {P : Pl} : ∀ {seen : List Int}, seen.Nodup → cs (p :: P) seen = cs P seen + one (decide (p.2 ∈ seen))
  | [], _ => rfl
  | v :: seen, h => by
    have hv := List.nodup_cons.mp h
    have ih := cs_cons (p := p) (P := P) hv.2
    unfold cs at ih ⊢
    rw [List.map_cons, List.sum_cons, List.map_cons, List.sum_cons, ih, cntP_cons]
    unfold one
    by_cases h1 : p.2 = v
    · have h2 : p.2 ∉ seen := h1 ▸ hv.1
      simp [h1, h1 ▸ h2, hv.1]
      omega
    · by_cases h2 : p.2 ∈ seen
      · simp [h1, h2]
        omega
      · simp [h1, h2]
theorem cs_le : ∀ {P : Pl} {seen : List Int}, seen.Nodup → cs P seen ≤ P.length
  | [], seen, _ => by rw [cs_nil]; exact Nat.le_refl _
  | p :: P, seen, h => by
    have ih := cs_le (P := P) h
    rw [cs_cons h, List.length_cons]
    unfold one
    split <;> omega
structure GoI (dom : Nat → List Int) (P : Pl) (first : Nat) (hi : Int → Option Int) (met : Met) (seen : List Int) (num : Nat) : Prop where
  ok : MetOk dom P first met
  sn : seen.Nodup
  full : ∀ v, v ∈ seen → roomB hi P v = false
  len : met.length = 1 + cs P seen
  frm : ∀ (j : Nat) o b u, met[j]? = some (o, some (b, u)) → u ∈ seen
  dn : ∀ (j : Nat), j < num → ∀ e, met[j]? = some e → ∀ v, v ∈ dom e.1 → v ∈ seen
theorem GoI.le {met : Met} {seen : List Int} {num : Nat} (g : GoI dom P first hi met seen num) : met.length ≤ 1 + P.length := by
  have := g.len
  have := cs_le (P := P) g.sn
  omega
theorem go_start (h : PlOk dom hi P) (hf : first ∉ keysP P) : GoI dom P first hi [(first, none)] [] 0 := by
  refine ⟨⟨rfl, by simp, fun j o c hj hm => ?_, hf, h.kn, h.dm⟩, by simp, by simp, rfl, fun j o b u hm => ?_, fun j hj => absurd hj (by omega)⟩
  · have := (List.getElem?_eq_some_iff.mp hm).1
    simp at this
    omega
  · have := (List.getElem?_eq_some_iff.mp hm).1
    simp at this
    subst this
    simp at hm
/-- those who stand at a value -/
def newM (P : Pl) (num : Nat) (v : Int) : Met := (P.filter fun p => decide (p.2 = v)).map fun p => (p.1, some (num, v))
theorem newM_len {num : Nat} {v : Int} : (newM P num v).length = cntP P v := by
  unfold newM cntP
  rw [List.length_map, List.countP_eq_length_filter]
theorem newM_at {num : Nat} {v : Int} {j : Nat} {o : Nat} {c : Option (Nat × Int)} (h : (newM P num v)[j]? = some (o, c)) : c = some (num, v) ∧ (o, v) ∈ P := by
  obtain ⟨p, hp, e⟩ := List.mem_map.mp (List.mem_of_getElem? h)
  rw [List.mem_filter, decide_eq_true_eq] at hp
  cases e
  exact ⟨rfl, by rw [← hp.2]; exact hp.1⟩
theorem sub_keys {q : Nat × Int → Bool} : ((P.filter q).map (·.1)).Sublist (keysP P) := List.filter_sublist.map _
theorem key_one (hn : (keysP P).Nodup) {n : Nat} {u v : Int} (h1 : (n, u) ∈ P) (h2 : (n, v) ∈ P) : u = v := by
  induction P with
  | nil => cases h1
  | cons p P ih =>
    have hn' : p.1 ∉ keysP P ∧ (keysP P).Nodup := List.nodup_cons.mp hn
    rcases List.mem_cons.mp h1 with e1 | h1
    · rcases List.mem_cons.mp h2 with e2 | h2
      · rw [e1.symm.trans (e1.trans (e1.symm.trans (e1.trans rfl)))] at e1
        have := e1.trans e2.symm
        exact congrArg Prod.snd this
      · exact absurd (List.mem_map.mpr ⟨(n, v), h2, by rw [← e1]⟩) hn'.1
    · rcases List.mem_cons.mp h2 with e2 | h2
      · exact absurd (List.mem_map.mpr ⟨(n, u), h1, by rw [← e2]⟩) hn'.1
      · exact ih hn'.2 h1 h2
theorem go_add {met : Met} {seen : List Int} {num : Nat} {v : Int} (g : GoI dom P first hi met seen num) (hv : v ∉ seen) (hr : roomB hi P v = false) (hnum : ∃ e, met[num]? = some e ∧ v ∈ dom e.1) :
    GoI dom P first hi (met ++ newM P num v) (seen ++ [v]) num := by
  have hnl : num < met.length := by
    obtain ⟨e, he, _⟩ := hnum
    exact (List.getElem?_eq_some_iff.mp he).1
  have h0 : 0 < met.length := by omega
  have hold : ∀ j e, (met ++ newM P num v)[j]? = some e → j < met.length ∧ met[j]? = some e ∨ met.length ≤ j ∧ (newM P num v)[j - met.length]? = some e := fun j e he => by
    by_cases hj : j < met.length
    · rw [List.getElem?_append_left hj] at he
      exact .inl ⟨hj, he⟩
    · rw [List.getElem?_append_right (by omega)] at he
      exact .inr ⟨by omega, he⟩
  refine ⟨⟨?_, ?_, fun j o c hj hm => ?_, g.ok.new, g.ok.kn, g.ok.dm⟩, ?_, fun w hw => ?_, ?_, fun j o b u hm => ?_, fun j hj e he w hw => ?_⟩
  · rw [List.getElem?_append_left h0]; exact g.ok.z
  · rw [List.map_append, List.nodup_append]
    refine ⟨g.ok.nd, ?_, fun x hx y hy hxy => ?_⟩
    · have : (newM P num v).map (·.1) = (P.filter fun p => decide (p.2 = v)).map (·.1) := by unfold newM; rw [List.map_map]; rfl
      rw [this]
      exact g.ok.kn.sublist sub_keys
    · subst hxy
      obtain ⟨⟨o, c⟩, he, rfl⟩ := List.mem_map.mp hy
      obtain ⟨j, hj⟩ := List.getElem?_of_mem he
      have h2 := (newM_at hj).2
      obtain ⟨⟨o', c'⟩, he', e'⟩ := List.mem_map.mp hx
      simp only at e'
      subst e'
      obtain ⟨i, hi'⟩ := List.getElem?_of_mem he'
      by_cases hi0 : i = 0
      · subst hi0
        have := g.ok.z.symm.trans hi'
        cases this
        exact g.ok.new (List.mem_map.mpr ⟨(first, v), h2, rfl⟩)
      · obtain ⟨b, u, rfl, _, h3, _⟩ := g.ok.s i o' c' (by omega) hi'
        have := key_one g.ok.kn h3 h2
        subst this
        exact hv (g.frm i _ _ _ hi')
  · rcases hold j _ hm with ⟨hjl, hm⟩ | ⟨hjl, hm⟩
    · obtain ⟨b, u, e1, e2, e3, e, he, hu⟩ := g.ok.s j o c hj hm
      exact ⟨b, u, e1, e2, e3, e, by rw [List.getElem?_append_left (by omega)]; exact he, hu⟩
    · obtain ⟨e1, e2⟩ := newM_at hm
      obtain ⟨e, he, hu⟩ := hnum
      exact ⟨num, v, e1, by omega, e2, e, by rw [List.getElem?_append_left hnl]; exact he, hu⟩
  · rw [List.nodup_append]
    exact ⟨g.sn, by simp, fun x hx y hy e => by rw [List.mem_singleton.mp hy] at e; exact hv (e ▸ hx)⟩
  · rcases List.mem_append.mp hw with h | h
    · exact g.full w h
    · rw [List.mem_singleton.mp h]; exact hr
  · rw [List.length_append, newM_len, cs_app, g.len]
    omega
  · rcases hold j _ hm with ⟨_, hm⟩ | ⟨_, hm⟩
    · exact List.mem_append_left _ (g.frm j o b u hm)
    · have := (newM_at hm).1
      cases this
      simp
  · rw [List.getElem?_append_left (by omega)] at he
    exact List.mem_append_left _ (g.dn j hj e he w hw)
def hsum (hi : Int → Option Int) (seen : List Int) : Int := (seen.map fun v => (hi v).getD 0).sum
/-- names whose values have too little room -/
structure Crowd (dom : Nat → List Int) (hi : Int → Option Int) (ks : List Nat) (M : List Nat) : Prop where
  nd : M.Nodup
  sub : ∀ n, n ∈ M → n ∈ ks
  ne : M ≠ []
  few : ∃ seen : List Int, seen.Nodup ∧ (∀ n, n ∈ M → ∀ v, v ∈ dom n → v ∈ seen) ∧ (∀ v, v ∈ seen → ∃ h, hi v = some h) ∧ hsum hi seen < M.length
theorem hsum_le (seen : List Int) (h : ∀ v, v ∈ seen → roomB hi P v = false) : hsum hi seen ≤ cs P seen := by
  induction seen with
  | nil => simp [hsum, cs]
  | cons v seen ih =>
    have h1 := ih fun w hw => h w (List.mem_cons_of_mem _ hw)
    have h2 := h v List.mem_cons_self
    unfold hsum cs at h1 ⊢
    rw [List.map_cons, List.sum_cons, List.map_cons, List.sum_cons]
    unfold roomB at h2
    cases hv : hi v with
    | none => rw [hv] at h2; cases h2
    | some b =>
      rw [hv] at h2
      simp only [decide_eq_false_iff_not] at h2
      show b + _ ≤ _
      push_cast
      omega
theorem go_none {met : Met} {seen : List Int} (g : GoI dom P first hi met seen met.length) (ks : List Nat) (hk : ∀ n, n ∈ keysP P → n ∈ ks) (hf : first ∈ ks) : Crowd dom hi ks (met.map (·.1)) := by
  refine ⟨g.ok.nd, fun n hn => ?_, fun e => ?_, seen, g.sn, fun n hn v hv => ?_, fun v hv => ?_, ?_⟩
  · obtain ⟨⟨o, c⟩, he, rfl⟩ := List.mem_map.mp hn
    obtain ⟨j, hj⟩ := List.getElem?_of_mem he
    by_cases hj0 : j = 0
    · subst hj0
      have := g.ok.z.symm.trans hj
      cases this
      exact hf
    · obtain ⟨b, u, _, _, h3, _⟩ := g.ok.s j o c (by omega) hj
      exact hk _ (List.mem_map.mpr ⟨(o, u), h3, rfl⟩)
  · have := g.len
    rw [List.map_eq_nil_iff] at e
    rw [e] at this
    simp at this
    omega
  · obtain ⟨e, he, rfl⟩ := List.mem_map.mp hn
    obtain ⟨j, hj⟩ := List.getElem?_of_mem he
    exact g.dn j (List.getElem?_eq_some_iff.mp hj).1 e hj v hv
  · have := g.full v hv
    unfold roomB at this
    cases hq : hi v with
    | none => rw [hq] at this; cases this
    | some b => exact ⟨b, rfl⟩
  · have h1 := hsum_le (P := P) seen g.full
    have h2 := g.len
    rw [List.length_map]
    omega
end

section
variable {S : Sto} {dom : Nat → List Int} {P : Pl} {first : Nat} {hi : Int → Option Int} {R : D} {ks : List Nat}
/-! ### one name more -/
abbrev dV (vs : List Int) : D := dT vs
abbrev domK (dom : Nat → List Int) (ks : List Nat) : List (Key × D) := (ks.map fun n => (n, dom n)).map (kvE dV)
theorem domK_keys : (ks.map fun n => (n, dom n)).map (·.1) = ks := by rw [List.map_map]; exact List.map_id _
theorem mE_0 (e : Nat × Option (Nat × Int)) : gIx (mE e) (.int 0) S = some (dN e.1, S) := by
  unfold mE
  split <;> rfl
theorem at_app {S : Sto} {k : Nat} {o o2 : Ob} {J : Sto} (h : S[k]? = some o) : (S ++ J)[k]? = some o := by
  rw [List.getElem?_append_left (List.getElem?_eq_some_iff.mp h).1]
  exact h
theorem jk_pl {Q : Pl} : ClO 0 (.dic (Q.map kvN)) := fun x hx => by
  obtain ⟨p, _, rfl⟩ := List.mem_map.mp hx
  trivial
def GoQ (S : Sto) (dom : Nat → List Int) (hi : Int → Option Int) (ks : List Nat) (P : Pl) (first : Nat) (p : D × Sto) : Prop :=
  ∃ J, Jk J ∧ p.2 = S ++ J ∧ ((∃ Q k, p.1 = .tup [.ref k, .non] ∧ (S ++ J)[k]? = some (.dic (Q.map kvN)) ∧ PlOk dom hi Q ∧ keysP Q = keysP P ++ [first]) ∨ (∃ M : List Nat, p.1 = .tup [.non, .lst (M.map dN)] ∧ Crowd dom hi ks M))
theorem nodup_le {α : Type} [DecidableEq α] : ∀ {l m : List α}, l.Nodup → (∀ x, x ∈ l → x ∈ m) → l.length ≤ m.length
  | [], m, _, _ => Nat.zero_le _
  | x :: l, m, h, hs => by
    have hx := List.nodup_cons.mp h
    have hm := hs x List.mem_cons_self
    have ih := nodup_le (m := m.erase x) hx.2 fun y hy => (List.mem_erase_of_ne (fun e : y = x => hx.1 (e ▸ hy))).mpr (hs y (List.mem_cons_of_mem _ hy))
    have hl := List.length_erase_of_mem hm
    have : 0 < m.length := List.length_pos_of_mem hm
    rw [List.length_cons]
    omega
theorem go_on_eq (hR : HiOk R hi) (hS : ClS S) {dm pl : Nat} (hdm : S[dm]? = some (.dic (domK dom ks)) ∨ S[dm]? = some (.dil (domK dom ks))) (hks : ks.Nodup) (hpl : S[pl]? = some (.dic (P.map kvN))) (hP : PlOk dom hi P) (hf : first ∉ keysP P) (hfk : first ∈ ks) (hpk : ∀ n, n ∈ keysP P → n ∈ ks) (hl : P.length ≤ 50) {V : List Int} (hV : ∀ n, n ∈ ks → ∀ v, v ∈ dom n → v ∈ V) (hVl : V.length ≤ 1000) :
    En (F_go_on [R, .ref dm, .ref pl, .int first] S) (GoQ S dom hi ks P first) := by
  have hcl : ∀ seen : List Int, ClS (S ++ [.lst (seen.map .int)]) := fun seen => clS_app hS (jk_one (o := .lst (seen.map .int)) (clI (f := 11)))
  have hgd : ∀ (J : Sto) (n : Nat), n ∈ ks → gIx (.ref dm) (.int (n : Int)) (S ++ J) = some (dT (dom n), S ++ J) := fun J n hn =>
    gIx_E (e := dV) (P := ks.map fun n => (n, dom n)) (hdm.elim (fun h => .inl (at_app (o2 := .dead) h)) fun h => .inr (at_app (o2 := .dead) h)) (by rw [domK_keys]; exact hks) (List.mem_map.mpr ⟨n, hn, rfl⟩)
  refine en_fn rfl ?_
  simp only [B_go_on, ev_all, ls_all, Nat.reduceSub, Nat.reduceAdd]
  refine en_while (fun n L S' => ∃ (num : Nat) (met : Met) (seen : List Int), n + num = 1 + P.length ∧ num ≤ met.length ∧ L = [some R, some (.ref dm), some (.ref pl), some (.int first), some (.lst (met.map mE)), some (.ref S.length), some (.int (num : Int)), none, none, none, none, none] ∧ S' = S ++ [.lst (seen.map .int)] ∧ GoI dom P first hi met seen num ∧ ∀ w, w ∈ seen → w ∈ V) ?_ (1 + P.length) ⟨0, [(first, none)], [], rfl, by simp, rfl, rfl, go_start hP hf, by simp⟩
  rintro n L S' ⟨num, met, seen, hn, hnm, rfl, rfl, g, hsV⟩
  have hml := g.le
  have k1 : gLt (.int (num : Int)) (.int (met.length : Nat)) (S ++ [.lst (seen.map .int)]) = some (.bl (decide (num < met.length)), S ++ [.lst (seen.map .int)]) := by
    rw [gLt_i]
    congr 4
    exact propext ⟨fun h => by omega, fun h => by omega⟩
  simp only [ev_all, ls_all, Nat.reduceAdd, List.length_map, k1]
  by_cases hlt : num < met.length
  · simp only [hlt, decide_true, ev_all, ls_all]
    obtain ⟨n', rfl⟩ : ∃ n', n = n' + 1 := ⟨n - 1, by omega⟩
    refine ⟨n', rfl, ?_⟩
    obtain ⟨e, he⟩ : ∃ e, met[num]? = some e := ⟨_, List.getElem?_eq_getElem hlt⟩
    have hek : e.1 ∈ ks := by
      by_cases h0 : num = 0
      · subst h0
        have := g.ok.z.symm.trans he
        cases this
        exact hfk
      · obtain ⟨b, u, _, _, h3, _⟩ := g.ok.s num e.1 e.2 (by omega) he
        exact hpk _ (List.mem_map.mpr ⟨(e.1, u), h3, rfl⟩)
    simp only [ev_all, ls_all, Nat.reduceAdd, List.getElem?_map, he, mE_0, hgd _ e.1 hek]
    refine en_forT D.int (fun pre L S' => ∃ (met2 : Met) (seen2 : List Int), L = [some R, some (.ref dm), some (.ref pl), some (.int first), some (.lst (met2.map mE)), some (.ref S.length), some (.int (num : Int)), none, none, none, none, none] ∧ S' = S ++ [.lst (seen2.map .int)] ∧ GoI dom P first hi met2 seen2 num ∧ (∀ w, w ∈ pre → w ∈ seen2) ∧ met2[num]? = some e ∧ ∀ w, w ∈ seen2 → w ∈ V) (dom e.1) ⟨met, seen, rfl, rfl, g, by simp, he, hsV⟩ ?_ ?_
    · rintro pre v post L S' hsp ⟨met2, seen2, rfl, rfl, g2, hpre, he2, hsV2⟩
      have hvd : v ∈ dom e.1 := by rw [hsp]; simp
      have hml2 := g2.le
      have hsl := g2.len
      have er := roomed_eq hR (hcl seen2) (at_app (o2 := .dead) hpl) hP.kn (by omega) v
      refine ⟨trivial, ?_⟩
      simp only [ev_all, ls_all, Nat.reduceAdd]
      rw [en_sif]
      simp only [ev_all, ls_all, Nat.reduceAdd, er]
      cases hr : roomB hi P v with
      | true =>
        simp only [ev_all, ls_all, Nat.reduceAdd]
        refine (chained_eq g2.ok (at_app (o2 := .dead) hpl) (by omega) ⟨e, he2, hvd⟩).mono ?_
        rintro _ ⟨Q, rfl, dn⟩
        simp only [ev_all, ls_all]
        refine ⟨[Ob.lst (seen2.map .int), .dic (Q.map kvN)], jk_cons (clI (f := 11)) (jk_one jk_pl), by simp, .inl ⟨Q, (S ++ [Ob.lst (seen2.map .int)]).length, rfl, by simp, dn.ok hP hf hr, dn.ks⟩⟩
      | false =>
        simp only [ev_all, ls_all, Nat.reduceAdd]
        rw [en_sif]
        have ei := in_rE (neg := true) Eq2.int (show 1 ≤ 63 by decide) v (xs := seen2) (k := S.length) (S := S ++ [.lst (seen2.map .int)]) (by simp)
        rw [Bool.true_xor] at ei
        simp only [ev_all, ls_all, Nat.reduceAdd, ei]
        by_cases hv : v ∈ seen2
        · simp only [hv, decide_true, Bool.not_true, ev_all, ls_all]
          exact ⟨met2, seen2, rfl, rfl, g2, fun w hw => by
            rcases List.mem_append.mp hw with h | h
            · exact hpre w h
            · rw [List.mem_singleton.mp h]; exact hv, he2, hsV2⟩
        · have hsn : seen2.length ≤ 1000 := Nat.le_trans (nodup_le g2.sn hsV2) hVl
          have k2 : asL (S ++ [.lst (seen2.map .int)]) (.ref S.length) = some (seen2.map .int) := asL_r (by simp)
          have k3 : mAppend S.length (seen2.map .int) [.int v] (S ++ [.lst (seen2.map .int)]) = some (.non, S ++ [.lst ((seen2 ++ [v]).map .int)]) := by
            rw [mAppend_ok (by rw [List.length_map, sizeLine_eq]; omega), set_last, List.map_append]
            rfl
          have hk2 : (S ++ [.lst ((seen2 ++ [v]).map .int)])[pl]? = some (.dic (P.map kvN)) := at_app (o2 := .dead) hpl
          simp only [hv, decide_false, Bool.not_false, ev_all, ls_all, Nat.reduceAdd, k2, k3, lock_dic hk2, lock_at hk2, keysD_E]
          refine en_lcM (fun p : Nat × Int => dN p.1) (fun p => decide (p.2 = v)) (fun p => .tup [dN p.1, .int (num : Int), .int v]) P trivial (fun p hp => ?_) ?_
          · have e2 := gIx_E (S := (S ++ [Ob.lst ((seen2 ++ [v]).map .int)]).set pl (.dil (P.map kvN))) (.inr (lock_at hk2)) hP.kn (show (p.1, p.2) ∈ P from hp)
            simp only [ev_all, ls_all, Nat.reduceAdd, e2]
          have hfl := List.length_filter_le (fun p : Nat × Int => decide (p.2 = v)) P
          have em : (P.filter fun p => decide (p.2 = v)).map (fun p => D.tup [dN p.1, .int (num : Int), .int v]) = (newM P num v).map mE := by unfold newM; rw [List.map_map]; rfl
          rw [em]
          have hnl : (newM P num v).length ≤ P.length := by unfold newM; rw [List.length_map]; exact hfl
          have ga := gAdd_l (xs := met2.map mE) (ys := (newM P num v).map mE) (S := S ++ [.lst ((seen2 ++ [v]).map .int)]) (by simp only [List.length_map]; omega)
          rw [← List.map_append] at ga
          simp only [ev_all, ls_all, Nat.reduceAdd, List.length_map, show Sz (newM P num v).length from sz_ok (by omega), unlock_dil hk2, ga]
          exact ⟨_, _, rfl, rfl, go_add g2 hv hr ⟨e, he2, hvd⟩, fun w hw => by
            rcases List.mem_append.mp hw with h | h
            · exact List.mem_append_left _ (hpre w h)
            · exact List.mem_append_right _ h, by rw [List.getElem?_append_left (List.getElem?_eq_some_iff.mp he2).1]; exact he2, fun w hw => by
            rcases List.mem_append.mp hw with h | h
            · exact hsV2 w h
            · rw [List.mem_singleton.mp h]; exact hV e.1 hek v hvd⟩
    · rintro L S' ⟨met2, seen2, rfl, rfl, g2, hpre, he2, hsV2⟩
      refine ⟨trivial, ?_⟩
      simp only [ev_all, ls_all, Nat.reduceAdd]
      have hnl2 := (List.getElem?_eq_some_iff.mp he2).1
      refine ⟨n', Nat.le_refl _, num + 1, met2, seen2, by omega, hnl2, by push_cast; rfl, rfl, ⟨g2.ok, g2.sn, g2.full, g2.len, g2.frm, fun j hj e' he' w hw => ?_⟩, hsV2⟩
      by_cases hjn : j = num
      · subst hjn
        have := he2.symm.trans he'
        cases this
        exact hpre w hw
      · exact g2.dn j (by omega) e' he' w hw
  · simp only [hlt, decide_false, ev_all, ls_all]
    have hnum : num = met.length := by omega
    subst hnum
    refine en_lcA mE (fun e => dN e.1) met trivial (fun e _ => ?_) ?_
    · unfold mE
      split
      · simp only [ev_all, ls_all, Nat.reduceAdd]
      · simp only [ev_all, ls_all, Nat.reduceAdd]
    · have em : met.map (fun e => dN e.1) = (met.map (·.1)).map dN := by rw [List.map_map]; rfl
      rw [em]
      refine ⟨sz_ok (by simp only [List.length_map]; omega), [Ob.lst (seen.map .int)], jk_one (clI (f := 11)), rfl, .inr ⟨_, rfl, go_none g ks hpk hfk⟩⟩
end

section
variable {S : Sto} {dom : Nat → List Int} {hi : Int → Option Int} {R : D} {ks : List Nat} {V : List Int}
/-! ### all names are placed -/
theorem ev_lockS {i : Nat} {f : SF} {L : DS.Loc} {S : Sto} : sLockV i f L S = match L[i]? with
  | some (some (.ref k)) => (lockS k S).bind fun S1 => (f L S1).bind fun r => (unlockS k r.2.2).map fun S2 => (r.1, r.2.1, S2)
  | _ => none := rfl
theorem set_app {S J : Sto} {k : Nat} {o o2 : Ob} (h : S[k]? = some o) : (S ++ J).set k o2 = S.set k o2 ++ J := by
  rw [List.set_append_left _ _ (List.getElem?_eq_some_iff.mp h).1]
theorem lock_app {S J : Sto} {k : Nat} {kvs : List (Key × D)} (h : S[k]? = some (.dic kvs)) : lockS k (S ++ J) = some (S.set k (.dil kvs) ++ J) := by
  rw [lock_dic (at_app (o2 := .dead) h), set_app h]
theorem unlock_app {S J : Sto} {k : Nat} {kvs : List (Key × D)} (h : S[k]? = some (.dic kvs)) : unlockS k (S.set k (.dil kvs) ++ J) = some (S ++ J) := by
  rw [← set_app h]
  exact unlock_dil (at_app (o2 := .dead) h)
theorem cl_dil {S : Sto} {k : Nat} {kvs : List (Key × D)} (hS : ClS S) (h : S[k]? = some (.dic kvs)) : ClS (S.set k (.dil kvs)) := fun o ho => by
  rw [List.length_set]
  obtain ⟨j, hj⟩ := List.getElem?_of_mem ho
  by_cases hjk : k = j
  · subst hjk
    rw [List.getElem?_set_self (List.getElem?_eq_some_iff.mp h).1] at hj
    cases hj
    have := hS (.dic kvs) (List.mem_of_getElem? h)
    exact this
  · rw [List.getElem?_set_ne hjk] at hj
    exact hS _ (List.mem_of_getElem? hj)
theorem back_at {S J : Sto} {k d : Nat} {kvs q : List (Key × D)} (h : S[d]? = some (.dic kvs)) (hk : (S.set d (.dil kvs) ++ J)[k]? = some (.dic q)) : (S ++ J)[k]? = some (.dic q) := by
  rw [← set_app h] at hk
  by_cases e : d = k
  · subst e
    rw [List.getElem?_set_self (List.getElem?_eq_some_iff.mp (at_app (o2 := .dead) h)).1] at hk
    cases hk
  · rwa [List.getElem?_set_ne e] at hk
theorem isR_dic {S : Sto} {k : Nat} {kvs : List (Key × D)} (h : S[k]? = some (.dic kvs)) : gIsR (.ref k) .non S = some (.bl false, S) := by
  unfold gIsR isNonS
  simp only [h]
  rfl
def PlaQ (S : Sto) (dom : Nat → List Int) (hi : Int → Option Int) (ks : List Nat) (p : D × Sto) : Prop :=
  ∃ J, Jk J ∧ p.2 = S ++ J ∧ ((∃ Q k, p.1 = .tup [.ref k, .non] ∧ (S ++ J)[k]? = some (.dic (Q.map kvN)) ∧ PlOk dom hi Q ∧ keysP Q = ks) ∨ (∃ M : List Nat, p.1 = .tup [.non, .lst (M.map dN)] ∧ Crowd dom hi ks M))
theorem placed_eq (hR : HiOk R hi) (hi0 : ∀ v h, hi v = some h → 0 ≤ h) (hS : ClS S) {dm : Nat} (hdm : S[dm]? = some (.dic (domK dom ks))) (hks : ks.Nodup) (hkl : ks.length ≤ 50) (hV : ∀ n, n ∈ ks → ∀ v, v ∈ dom n → v ∈ V) (hVl : V.length ≤ 1000) :
    En (F_placed [R, .ref dm] S) (PlaQ S dom hi ks) := by
  have hdl : (S.set dm (.dil (domK dom ks)))[dm]? = some (.dil (domK dom ks)) := lock_at hdm
  have hlen : (S.set dm (.dil (domK dom ks))).length = S.length := List.length_set ..
  have hkd : List.map kD (List.map (fun x => x.1) (domK dom ks)) = ks.map dN := by
    rw [show domK dom ks = (ks.map fun n => (n, dom n)).map (kvE dV) from rfl, keysD_E, List.map_map]
    rfl
  have hcl := cl_dil hS hdm
  refine en_fn rfl ?_
  simp only [B_placed, ev_all, ls_all, Nat.reduceSub, Nat.reduceAdd, ev_lockS, lock_app hdm]
  have hb : ∀ J : Sto, (S.set dm (.dil (domK dom ks)) ++ J)[dm]? = some (.dil (domK dom ks)) := fun J => at_app (o2 := .dead) hdl
  simp only [hb, hkd, ev_all, ls_all]
  refine en_forT dN (fun pre L S' => ∃ (J : Sto) (P : Pl) (k : Nat), Jk J ∧ S' = S.set dm (.dil (domK dom ks)) ++ J ∧ L = [some R, some (.ref dm), some (.ref k), none, none, none] ∧ (S.set dm (.dil (domK dom ks)) ++ J)[k]? = some (.dic (P.map kvN)) ∧ PlOk dom hi P ∧ keysP P = pre) ks ⟨[.dic []], [], S.length, jk_one (jk_pl (Q := [])), rfl, rfl, ?_, ⟨by simp, by simp, fun v h hv => ?_⟩, rfl⟩ ?_ ?_
  · rw [List.getElem?_append_right (by rw [hlen]; exact Nat.le_refl _), hlen]
    simp
  · show ((0 : Nat) : Int) ≤ h
    have := hi0 v h hv
    omega
  · rintro pre n post L S' hsp ⟨J, P, k, hJ, rfl, rfl, hk, hP, hkeys⟩
    have hnd : (pre ++ n :: post).Nodup := hsp ▸ hks
    have hnp : n ∉ keysP P := by
      rw [hkeys]
      intro h
      exact (List.nodup_append.mp hnd).2.2 n h n List.mem_cons_self rfl
    have hpl : P.length ≤ 50 := by
      have h1 := congrArg List.length hkeys
      have h2 := congrArg List.length hsp
      simp only [keysP, List.length_map, List.length_append, List.length_cons] at h1 h2
      omega
    obtain ⟨⟨d, S2⟩, e1, J2, hJ2, hS2, hres⟩ := go_on_eq (S := S.set dm (.dil (domK dom ks)) ++ J) hR (clS_app hcl hJ) (.inr (hb J)) hks hk hP hnp (by rw [hsp]; simp) (fun x hx => by rw [hkeys] at hx; rw [hsp]; exact List.mem_append_left _ hx) hpl hV hVl
    simp only at hS2 hres
    subst hS2
    refine ⟨trivial, ?_⟩
    simp only [ev_all, ls_all, Nat.reduceAdd, e1]
    rcases hres with ⟨Q, k2, rfl, hk2, hQ, hQk⟩ | ⟨M, rfl, hM⟩
    · have g1 : gIsR (.ref k2) .non (S.set dm (.dil (domK dom ks)) ++ J ++ J2) = some (.bl false, S.set dm (.dil (domK dom ks)) ++ J ++ J2) := isR_dic hk2
      simp only [ev_all, ls_all, Nat.reduceAdd]
      rw [en_sif]
      simp only [ev_all, ls_all, Nat.reduceAdd, g1]
      exact ⟨J ++ J2, Q, k2, jk_app hJ hJ2, by rw [List.append_assoc], rfl, by rw [← List.append_assoc]; exact hk2, hQ, by rw [hQk, hkeys]⟩
    · have g1 : ∀ S, gIsR .non .non S = some (.bl true, S) := fun _ => rfl
      simp only [ev_all, ls_all, Nat.reduceAdd]
      rw [en_sif]
      simp only [ev_all, ls_all, Nat.reduceAdd, g1]
      rw [List.append_assoc, unlock_app hdm]
      simp only [ev_all, ls_all]
      exact ⟨J ++ J2, jk_app hJ hJ2, rfl, .inr ⟨M, rfl, hM⟩⟩
  · rintro L S' ⟨J, P, k, hJ, rfl, rfl, hk, hP, hkeys⟩
    refine ⟨trivial, ?_⟩
    rw [unlock_app hdm]
    simp only [ev_all, ls_all, Nat.reduceAdd]
    exact ⟨J, hJ, rfl, .inl ⟨P, k, rfl, back_at hdm hk, hP, hkeys⟩⟩
end

/-! ### values that are given names -/
abbrev MetV := List (Int × Option (Nat × Nat))
structure MvOk (dom : Nat → List Int) (G : Pl) (first : Int) (met : MetV) : Prop where
  z : met[0]? = some (first, none)
  nd : (met.map (·.1)).Nodup
  s : ∀ j v c, 1 ≤ j → met[j]? = some (v, c) → ∃ b n, c = some (b, n) ∧ b < j ∧ (n, v) ∈ G ∧ ∃ e, met[b]? = some e ∧ e.1 ∈ dom n
  kn : (keysP G).Nodup
  dm : ∀ p, p ∈ G → p.2 ∈ dom p.1
structure DoneV (dom : Nat → List Int) (G : Pl) (first : Int) (n0 : Nat) (Q : Pl) : Prop where
  ks : keysP Q = keysP G ++ [n0]
  dm : ∀ p, p ∈ Q → p.2 ∈ dom p.1
  cn : ∀ w, cntP Q w = cntP G w + one (decide (first = w))
/-- ahead of number i, name n; u: where the name stands -/
structure WayV (dom : Nat → List Int) (G : Pl) (met : MetV) (n0 : Nat) (i n : Nat) (Q : Pl) : Prop where
  un : ∀ j v b m, 1 ≤ j → j ≤ i → met[j]? = some (v, some (b, m)) → (m, v) ∈ Q ∧ m ≠ n
  dm : ∀ p, p ∈ Q → p.2 ∈ dom p.1
  at_ : ∃ e, met[i]? = some e ∧ e.1 ∈ dom n
  st : (n = n0 ∧ Q = G) ∨ ∃ u, (n, u) ∈ Q ∧ keysP Q = keysP G ++ [n0] ∧ ∀ w, cntP Q w = cntP G w + one (decide (u = w))
section
variable {dom : Nat → List Int} {G : Pl} {first : Int} {met : MetV} {n0 : Nat}
theorem wayV_start (h : MvOk dom G first met) (hn : n0 ∉ keysP G) {i : Nat} (hi : ∃ e, met[i]? = some e ∧ e.1 ∈ dom n0) : WayV dom G met n0 i n0 G :=
  ⟨fun j v b m hj _ hm => by
    obtain ⟨b', n', e, _, h2, _⟩ := h.s j v _ hj hm
    cases e
    exact ⟨h2, fun e => hn (List.mem_map.mpr ⟨(m, v), h2, e⟩)⟩, h.dm, hi, .inl ⟨rfl, rfl⟩⟩
theorem putV_st {i n : Nat} {v : Int} {Q : Pl} (h : MvOk dom G first met) (hn : n0 ∉ keysP G) (w : WayV dom G met n0 i n Q) {c : Option (Nat × Nat)} (hm : met[i]? = some (v, c)) :
    keysP (putN Q n v) = keysP G ++ [n0] ∧ (∀ p, p ∈ putN Q n v → p.2 ∈ dom p.1) ∧ ∀ x, cntP (putN Q n v) x = cntP G x + one (decide (v = x)) := by
  have hv : v ∈ dom n := by
    obtain ⟨e, he, h2⟩ := w.at_
    rw [hm] at he
    cases he
    exact h2
  refine ⟨?_, fun p hp => ?_, fun x => ?_⟩
  · rcases w.st with ⟨rfl, rfl⟩ | ⟨u, hu, hk, _⟩
    · rw [keys_new hn]
    · rw [keys_old (List.mem_map.mpr ⟨(n, u), hu, rfl⟩), hk]
  · rcases mem_put hp with rfl | ⟨_, hp⟩
    · exact hv
    · exact w.dm p hp
  · rcases w.st with ⟨rfl, rfl⟩ | ⟨u, hu, hk, hc⟩
    · rw [cnt_new hn]
    · have hnd : (keysP Q).Nodup := by
        rw [hk, List.nodup_append]
        exact ⟨h.kn, by simp, fun x hx y hy e => by rw [List.mem_singleton.mp hy] at e; exact hn (e ▸ hx)⟩
      have c1 := cnt_old (v := v) (w := x) hnd hu
      have c2 := hc x
      omega
theorem wayV_step {i n b m : Nat} {v : Int} {Q : Pl} (h : MvOk dom G first met) (hn : n0 ∉ keysP G) (w : WayV dom G met n0 i n Q) (hi : 1 ≤ i) (hm : met[i]? = some (v, some (b, m))) :
    b < i ∧ WayV dom G met n0 b m (putN Q n v) := by
  obtain ⟨b', m', e, hb, hG, e2⟩ := h.s i v _ hi hm
  cases e
  obtain ⟨hQ, hmn⟩ := w.un i v b m hi (Nat.le_refl _) hm
  obtain ⟨s1, s2, s3⟩ := putV_st h hn w hm
  refine ⟨hb, ⟨fun j v' b'' m'' hj hjb hm' => ?_, s2, e2, .inr ⟨v, mem_put_other hQ hmn, s1, s3⟩⟩⟩
  obtain ⟨g1, g2⟩ := w.un j v' b'' m'' hj (by omega) hm'
  refine ⟨mem_put_other g1 g2, fun e => ?_⟩
  subst e
  obtain ⟨_, _, e, _, hG', _⟩ := h.s j v' _ hj hm'
  cases e
  have hvv := key_one h.kn hG' hG
  subst hvv
  have q1 : (met.map (·.1))[i]? = some v' := by rw [List.getElem?_map, hm]; rfl
  have q2 : (met.map (·.1))[j]? = some v' := by rw [List.getElem?_map, hm']; rfl
  have l1 := (List.getElem?_eq_some_iff.mp q1).1
  have l2 := (List.getElem?_eq_some_iff.mp q2).1
  have : j = i := (List.getElem_inj (h₀ := l2) (h₁ := l1) h.nd).mp (by rw [(List.getElem?_eq_some_iff.mp q1).2, (List.getElem?_eq_some_iff.mp q2).2])
  omega
theorem wayV_done {n : Nat} {Q : Pl} (h : MvOk dom G first met) (hn : n0 ∉ keysP G) (w : WayV dom G met n0 0 n Q) : DoneV dom G first n0 (putN Q n first) := by
  obtain ⟨s1, s2, s3⟩ := putV_st h hn w h.z
  exact ⟨s1, s2, s3⟩
def vE (e : Int × Option (Nat × Nat)) : D := match e.2 with
  | none => .tup [.int e.1, .non, .non]
  | some c => .tup [.int e.1, dN c.1, dN c.2]
theorem handed_eq {S : Sto} (h : MvOk dom G first met) (hn : n0 ∉ keysP G) {pl i : Nat} (hp : S[pl]? = some (.dic (G.map kvN))) (hl : G.length ≤ 100) (hi : ∃ e, met[i]? = some e ∧ e.1 ∈ dom n0) :
    En (F_handed [.ref pl, .lst (met.map vE), .int i, .int n0] S) fun p => ∃ Q, p = (.ref S.length, S ++ [.dic (Q.map kvN)]) ∧ DoneV dom G first n0 Q := by
  have e0 : gDictC [.ref pl] S = some (.ref S.length, S ++ [.dic (G.map kvN)]) := by
    unfold gDictC
    simp only [hp]
  refine en_fn rfl ?_
  simp only [B_handed, ev_all, ls_all, Nat.reduceSub, Nat.reduceAdd, e0]
  refine en_while (fun n L S' => (∃ (j m : Nat) (Q : Pl), n = j + 1 ∧ L = [some (.ref pl), some (.lst (met.map vE)), some (.int (j : Int)), some (.int (m : Int)), some (.ref S.length), none, none, none] ∧ S' = S ++ [.dic (Q.map kvN)] ∧ WayV dom G met n0 j m Q) ∨
    (∃ Q : Pl, L = [some (.ref pl), some (.lst (met.map vE)), some .non, some .non, some (.ref S.length), none, none, none] ∧ S' = S ++ [.dic (Q.map kvN)] ∧ DoneV dom G first n0 Q)) ?_ (i + 1) (.inl ⟨i, n0, G, rfl, rfl, rfl, wayV_start h hn hi⟩)
  rintro n L S' (⟨j, m, Q, rfl, rfl, rfl, w⟩ | ⟨Q, rfl, rfl, d⟩)
  · have k1 : gNotN (.int (j : Int)) .non (S ++ [.dic (Q.map kvN)]) = some (.bl true, S ++ [.dic (Q.map kvN)]) := rfl
    obtain ⟨⟨v, c⟩, he, hu⟩ := w.at_
    have hql : Q.length ≤ 101 := by
      rcases w.st with ⟨_, rfl⟩ | ⟨u, _, hk, _⟩
      · omega
      · have := congrArg List.length hk
        simp only [keysP, List.length_map, List.length_append, List.length_singleton] at this
        omega
    have k2 := gSet_N (S := S ++ [.dic (Q.map kvN)]) (P := Q) (k := S.length) (n := m) (v := v) (by simp) (by omega)
    rw [set_last] at k2
    simp only [ev_all, ls_all, Nat.reduceAdd, k1]
    refine ⟨j, rfl, ?_⟩
    by_cases hj : j = 0
    · subst hj
      have hoc : (v, c) = (first, none) := Option.some.inj (he.symm.trans h.z)
      cases hoc
      simp only [vE, ev_all, ls_all, Nat.reduceAdd, List.getElem?_map, he, k2, List.reverse_cons, List.reverse_nil, List.nil_append, List.cons_append]
      exact ⟨0, Nat.le_refl _, .inr ⟨_, rfl, wayV_done h hn w⟩⟩
    · obtain ⟨b, m', rfl, hb, _⟩ := h.s j v c (by omega) he
      obtain ⟨_, w'⟩ := wayV_step h hn w (by omega) he
      simp only [vE, ev_all, ls_all, Nat.reduceAdd, List.getElem?_map, he, k2, List.reverse_cons, List.reverse_nil, List.nil_append, List.cons_append]
      exact ⟨b + 1, by omega, .inl ⟨b, m', _, rfl, rfl, rfl, w'⟩⟩
  · have k1 : gNotN .non .non (S ++ [.dic (Q.map kvN)]) = some (.bl false, S ++ [.dic (Q.map kvN)]) := rfl
    simp only [ev_all, ls_all, Nat.reduceAdd, k1]
    exact ⟨Q, rfl, d⟩
end

section
variable {dom : Nat → List Int} {G : Pl} {first : Int} {ks : List Nat} {T : List Int}
/-! ### one place more for a value -/
theorem clN {n f : Nat} {xs : List Nat} : ∀ x, x ∈ xs.map dN → Cl n (f + 1) x := fun x hx => by
  obtain ⟨i, _, rfl⟩ := List.mem_map.mp hx
  trivial
structure GiI (dom : Nat → List Int) (G : Pl) (first : Int) (ks : List Nat) (T : List Int) (met : MetV) (seen : List Nat) (num : Nat) : Prop where
  ok : MvOk dom G first met
  sn : seen.Nodup
  sk : ∀ n, n ∈ seen → n ∈ ks
  sg : ∀ n, n ∈ seen → ∃ v, (n, v) ∈ G ∧ v ∈ met.map (·.1)
  dn : ∀ j, j < num → ∀ e, met[j]? = some e → ∀ n, n ∈ ks → e.1 ∈ dom n → n ∈ seen
  td : ∀ v, v ∈ met.map (·.1) → v ∈ T
structure WantG (dom : Nat → List Int) (G : Pl) (ks : List Nat) (first : Int) (T W : List Int) : Prop where
  asc : W.Pairwise (· < ·)
  fi : first ∈ W
  td : ∀ w, w ∈ W → w ∈ T
  hit : ∀ n, n ∈ ks → (∃ w, w ∈ W ∧ w ∈ dom n) → ∃ v, v ∈ W ∧ (n, v) ∈ G
theorem gi_start (hn : (keysP G).Nodup) (hd : ∀ p, p ∈ G → p.2 ∈ dom p.1) (hf : first ∈ T) : GiI dom G first ks T [(first, none)] [] 0 := by
  refine ⟨⟨rfl, by simp, fun j v c hj hm => ?_, hn, hd⟩, by simp, by simp, by simp, fun j hj => absurd hj (by omega), by simpa using hf⟩
  have := (List.getElem?_eq_some_iff.mp hm).1
  simp at this
  omega
theorem GiI.le {met : MetV} {seen : List Nat} {num : Nat} (g : GiI dom G first ks T met seen num) : met.length ≤ T.length := by
  have := nodup_le g.ok.nd g.td
  rwa [List.length_map] at this
theorem gi_see {met : MetV} {seen : List Nat} {num n : Nat} {v : Int} (g : GiI dom G first ks T met seen num) (hn : n ∉ seen) (hk : n ∈ ks) (hG : (n, v) ∈ G) (hv : v ∈ met.map (·.1)) : GiI dom G first ks T met (seen ++ [n]) num := by
  refine ⟨g.ok, ?_, fun x hx => ?_, fun x hx => ?_, fun j hj e he x hx hd => List.mem_append_left _ (g.dn j hj e he x hx hd), g.td⟩
  · rw [List.nodup_append]
    exact ⟨g.sn, by simp, fun x hx y hy e => by rw [List.mem_singleton.mp hy] at e; exact hn (e ▸ hx)⟩
  · rcases List.mem_append.mp hx with h | h
    · exact g.sk x h
    · rw [List.mem_singleton.mp h]; exact hk
  · rcases List.mem_append.mp hx with h | h
    · exact g.sg x h
    · rw [List.mem_singleton.mp h]; exact ⟨v, hG, hv⟩
theorem gi_more {met : MetV} {seen : List Nat} {num n : Nat} {v : Int} (g : GiI dom G first ks T met seen num) (hG : (n, v) ∈ G) (hv : v ∉ met.map (·.1)) (hT : v ∈ T) (hnum : ∃ e, met[num]? = some e ∧ e.1 ∈ dom n) :
    GiI dom G first ks T (met ++ [(v, some (num, n))]) seen num := by
  have hnl : num < met.length := by
    obtain ⟨e, he, _⟩ := hnum
    exact (List.getElem?_eq_some_iff.mp he).1
  refine ⟨⟨?_, ?_, fun j w c hj hm => ?_, g.ok.kn, g.ok.dm⟩, g.sn, g.sk, fun x hx => ?_, fun j hj e he x hx hd => ?_, fun w hw => ?_⟩
  · rw [List.getElem?_append_left (by omega)]; exact g.ok.z
  · rw [List.map_append, List.nodup_append]
    exact ⟨g.ok.nd, by simp, fun x hx y hy e => by
      have : y = v := by simpa using hy
      rw [this] at e
      exact hv (e ▸ hx)⟩
  · by_cases hjl : j < met.length
    · rw [List.getElem?_append_left hjl] at hm
      obtain ⟨b, n', e1, e2, e3, e, he, hu⟩ := g.ok.s j w c hj hm
      exact ⟨b, n', e1, e2, e3, e, by rw [List.getElem?_append_left (by omega)]; exact he, hu⟩
    · rw [List.getElem?_append_right (by omega)] at hm
      have h0 : j - met.length = 0 := by
        have := (List.getElem?_eq_some_iff.mp hm).1
        simp at this
        omega
      rw [h0] at hm
      cases hm
      obtain ⟨e, he, hu⟩ := hnum
      exact ⟨num, n, rfl, by omega, hG, e, by rw [List.getElem?_append_left hnl]; exact he, hu⟩
  · obtain ⟨w, h1, h2⟩ := g.sg x hx
    exact ⟨w, h1, by rw [List.map_append]; exact List.mem_append_left _ h2⟩
  · rw [List.getElem?_append_left (by omega)] at he
    exact g.dn j hj e he x hx hd
  · rw [List.map_append] at hw
    rcases List.mem_append.mp hw with h | h
    · exact g.td w h
    · have : w = v := by simpa using h
      rw [this]; exact hT
theorem gi_none {met : MetV} {seen : List Nat} (g : GiI dom G first ks T met seen met.length) : WantG dom G ks first T (srt (met.map (·.1))) := by
  refine ⟨srt_lt g.ok.nd, srt_mem.mpr (List.mem_map.mpr ⟨(first, none), List.mem_of_getElem? g.ok.z, rfl⟩), fun w hw => g.td w (srt_mem.mp hw), fun n hn ⟨w, hw, hd⟩ => ?_⟩
  obtain ⟨e, he, rfl⟩ := List.mem_map.mp (srt_mem.mp hw)
  obtain ⟨j, hj⟩ := List.getElem?_of_mem he
  obtain ⟨v, h1, h2⟩ := g.sg n (g.dn j (List.getElem?_eq_some_iff.mp hj).1 e hj n hn hd)
  exact ⟨v, srt_mem.mpr h2, h1⟩
theorem vE_0 {S : Sto} (e : Int × Option (Nat × Nat)) : gIx (vE e) (.int 0) S = some (.int e.1, S) := by
  unfold vE
  split <;> rfl
def GivQ (S : Sto) (dom : Nat → List Int) (G : Pl) (ks : List Nat) (first : Int) (T : List Int) (p : D × Sto) : Prop :=
  ∃ J, Jk J ∧ p.2 = S ++ J ∧ ((∃ Q k n0, p.1 = .tup [.ref k, .non] ∧ (S ++ J)[k]? = some (.dic (Q.map kvN)) ∧ n0 ∉ keysP G ∧ n0 ∈ ks ∧ DoneV dom G first n0 Q ∧ S.length ≤ k) ∨ (∃ W : List Int, p.1 = .tup [.non, .lst (W.map .int)] ∧ WantG dom G ks first T W))
theorem give_one_eq {S : Sto} (hS : ClS S) {dm gv : Nat} (hdm : S[dm]? = some (.dic (domK dom ks))) (hks : ks.Nodup) (hkl : ks.length ≤ 50) (hgv : S[gv]? = some (.dic (G.map kvN))) (hne : dm ≠ gv) (hn : (keysP G).Nodup) (hd : ∀ p, p ∈ G → p.2 ∈ dom p.1) (hgl : G.length ≤ 50) (hf : first ∈ T) (hT : ∀ p, p ∈ G → p.2 ∈ T) (hTl : T.length ≤ 100) :
    En (F_give_one [.ref dm, .ref gv, .int first] S) (GivQ S dom G ks first T) := by
  have hdl : (S.set dm (.dil (domK dom ks)))[dm]? = some (.dil (domK dom ks)) := lock_at hdm
  have hgl2 : (S.set dm (.dil (domK dom ks)))[gv]? = some (.dic (G.map kvN)) := by rw [List.getElem?_set_ne hne]; exact hgv
  have hlen : (S.set dm (.dil (domK dom ks))).length = S.length := List.length_set ..
  have hkd : List.map kD (List.map (fun x => x.1) (domK dom ks)) = ks.map dN := by
    rw [show domK dom ks = (ks.map fun n => (n, dom n)).map (kvE dV) from rfl, keysD_E, List.map_map]
    rfl
  have hb : ∀ J : Sto, (S.set dm (.dil (domK dom ks)) ++ J)[dm]? = some (.dil (domK dom ks)) := fun J => at_app (o2 := .dead) hdl
  have hgd : ∀ (J : Sto) (n : Nat), n ∈ ks → gIx (.ref dm) (.int (n : Int)) (S.set dm (.dil (domK dom ks)) ++ J) = some (dT (dom n), S.set dm (.dil (domK dom ks)) ++ J) := fun J n hn =>
    gIx_E (e := dV) (P := ks.map fun n => (n, dom n)) (.inr (hb J)) (by rw [domK_keys]; exact hks) (List.mem_map.mpr ⟨n, hn, rfl⟩)
  refine en_fn rfl ?_
  simp only [B_give_one, ev_all, ls_all, Nat.reduceSub, Nat.reduceAdd, List.reverse_cons, List.reverse_nil, List.nil_append, List.cons_append]
  refine en_while (fun n L S' => ∃ (num : Nat) (met : MetV) (seen : List Nat), n + num = T.length ∧ num ≤ met.length ∧ L = [some (.ref dm), some (.ref gv), some (.int first), some (.lst (met.map vE)), some (.ref S.length), some (.int (num : Int)), none, none, none, none, none] ∧ S' = S ++ [.lst (seen.map dN)] ∧ GiI dom G first ks T met seen num) ?_ T.length ⟨0, [(first, none)], [], rfl, by simp, rfl, rfl, gi_start hn hd hf⟩
  rintro n L S' ⟨num, met, seen, hnn, hnm, rfl, rfl, g⟩
  have hml := g.le
  have k1 : gLt (.int (num : Int)) (.int (met.length : Nat)) (S ++ [.lst (seen.map dN)]) = some (.bl (decide (num < met.length)), S ++ [.lst (seen.map dN)]) := by
    rw [gLt_i]
    congr 4
    exact propext ⟨fun h => by omega, fun h => by omega⟩
  simp only [ev_all, ls_all, Nat.reduceAdd, List.length_map, k1]
  by_cases hlt : num < met.length
  · simp only [hlt, decide_true, ev_all, ls_all]
    obtain ⟨n', rfl⟩ : ∃ n', n = n' + 1 := ⟨n - 1, by omega⟩
    refine ⟨n', rfl, ?_⟩
    obtain ⟨e, he⟩ : ∃ e, met[num]? = some e := ⟨_, List.getElem?_eq_getElem hlt⟩
    simp only [ev_lockS, lock_app hdm, hb, hkd, ev_all, ls_all, Nat.reduceAdd]
    refine en_forT dN (fun pre L S' => ∃ (met2 : MetV) (seen2 : List Nat), L = [some (.ref dm), some (.ref gv), some (.int first), some (.lst (met2.map vE)), some (.ref S.length), some (.int (num : Int)), none, none, none, none, none] ∧ S' = S.set dm (.dil (domK dom ks)) ++ [.lst (seen2.map dN)] ∧ GiI dom G first ks T met2 seen2 num ∧ (∀ x, x ∈ pre → e.1 ∈ dom x → x ∈ seen2) ∧ met2[num]? = some e) ks ⟨met, seen, rfl, rfl, g, by simp, he⟩ ?_ ?_
    · rintro pre x post L S' hsp ⟨met2, seen2, rfl, rfl, g2, hpre, he2⟩
      have hxk : x ∈ ks := by rw [hsp]; simp
      have hml2 := g2.le
      have hsl : seen2.length ≤ 50 := Nat.le_trans (nodup_le g2.sn g2.sk) hkl
      have e1 := in_tE (neg := false) Eq2.int (show 1 ≤ 63 by decide) e.1 (dom x) (S := S.set dm (.dil (domK dom ks)) ++ [.lst (seen2.map dN)])
      rw [Bool.false_xor] at e1
      have ei := in_rE (neg := true) Eq2.nat (show 1 ≤ 63 by decide) x (xs := seen2) (k := S.length) (S := S.set dm (.dil (domK dom ks)) ++ [.lst (seen2.map dN)]) (by rw [List.getElem?_append_right (by rw [hlen]; exact Nat.le_refl _), hlen]; simp)
      rw [Bool.true_xor] at ei
      refine ⟨trivial, ?_⟩
      simp only [ev_all, ls_all, Nat.reduceAdd]
      rw [en_sif]
      simp only [ev_all, ls_all, Nat.reduceAdd, List.getElem?_map, he2, vE_0, hgd _ x hxk, e1]
      by_cases hxd : e.1 ∈ dom x
      · simp only [hxd, decide_true, ev_all, ls_all, ei]
        by_cases hxs : x ∈ seen2
        · simp only [hxs, decide_true, Bool.not_true, ev_all, ls_all]
          exact ⟨met2, seen2, rfl, rfl, g2, fun y hy hyd => by
            rcases List.mem_append.mp hy with h | h
            · exact hpre y h hyd
            · rw [List.mem_singleton.mp h]; exact hxs, he2⟩
        · have k2 : asL (S.set dm (.dil (domK dom ks)) ++ [.lst (seen2.map dN)]) (.ref S.length) = some (seen2.map dN) := asL_r (by rw [List.getElem?_append_right (by rw [hlen]; exact Nat.le_refl _), hlen]; simp)
          have k3 : mAppend S.length (seen2.map dN) [dN x] (S.set dm (.dil (domK dom ks)) ++ [.lst (seen2.map dN)]) = some (.non, S.set dm (.dil (domK dom ks)) ++ [.lst ((seen2 ++ [x]).map dN)]) := by
            rw [mAppend_ok (by rw [List.length_map, sizeLine_eq]; omega), ← hlen, set_last, List.map_append]
            rfl
          have e6 := in_kvE (neg := true) (e := D.int) (n := x) (S := S.set dm (.dil (domK dom ks)) ++ [.lst ((seen2 ++ [x]).map dN)]) (at_app (o2 := .dead) hgl2)
          rw [Bool.true_xor] at e6
          simp only [hxs, decide_false, Bool.not_false, ev_all, ls_all, Nat.reduceAdd, k2, k3]
          rw [en_sif]
          simp only [ev_all, ls_all, Nat.reduceAdd, e6]
          by_cases hxg : x ∈ G.map (·.1)
          · obtain ⟨⟨x', v⟩, hG, hx'⟩ := List.mem_map.mp hxg
            simp only at hx'
            subst hx'
            have e7 := gIx_E (S := S.set dm (.dil (domK dom ks)) ++ [.lst ((seen2 ++ [x']).map dN)]) (e := D.int) (.inl (at_app (o2 := .dead) hgl2)) hn hG
            simp only [hxg, decide_true, Bool.not_true, ev_all, ls_all, Nat.reduceAdd]
            rw [en_sif]
            simp only [ev_all, ls_all, Nat.reduceAdd, e7]
            refine en_lcA vE (fun q => .int q.1) met2 trivial (fun q _ => ?_) ?_
            · simp only [ev_all, ls_all, Nat.reduceAdd, vE_0]
            have em : met2.map (fun q => D.int q.1) = (met2.map (·.1)).map D.int := by rw [List.map_map]; rfl
            rw [em]
            have ein := in_lE (neg := true) Eq2.int (show 1 ≤ 63 by decide) v (met2.map (·.1)) (S := S.set dm (.dil (domK dom ks)) ++ [.lst ((seen2 ++ [x']).map dN)])
            rw [Bool.true_xor] at ein
            simp only [ev_all, ls_all, Nat.reduceAdd, List.length_map, show Sz met2.length from sz_ok (by omega), ein]
            by_cases hvm : v ∈ met2.map (·.1)
            · simp only [hvm, decide_true, Bool.not_true, ev_all, ls_all]
              exact ⟨met2, seen2 ++ [x'], rfl, rfl, gi_see g2 hxs hxk hG hvm, fun y hy hyd => by
                rcases List.mem_append.mp hy with h | h
                · exact List.mem_append_left _ (hpre y h hyd)
                · exact List.mem_append_right _ h, he2⟩
            · have ga := gAdd_l (xs := met2.map vE) (ys := [vE (v, some (num, x'))]) (S := S.set dm (.dil (domK dom ks)) ++ [.lst ((seen2 ++ [x']).map dN)]) (by simp only [List.length_map, List.length_singleton]; omega)
              rw [show met2.map vE ++ [vE (v, some (num, x'))] = (met2 ++ [(v, some (num, x'))]).map vE by rw [List.map_append]; rfl] at ga
              have g3 := gi_more g2 hG hvm (hT _ hG) ⟨e, he2, hxd⟩
              simp only [vE] at ga
              simp only [hvm, decide_false, Bool.not_false, ev_all, ls_all, Nat.reduceAdd, e7]
              refine ⟨_, ga, ?_⟩
              exact ⟨met2 ++ [(v, some (num, x'))], seen2 ++ [x'], rfl, rfl, gi_see g3 hxs hxk hG (by simp), fun y hy hyd => by
                rcases List.mem_append.mp hy with h | h
                · exact List.mem_append_left _ (hpre y h hyd)
                · exact List.mem_append_right _ h, by rw [List.getElem?_append_left (List.getElem?_eq_some_iff.mp he2).1]; exact he2⟩
          · simp only [hxg, decide_false, Bool.not_false, ev_all, ls_all, Nat.reduceAdd]
            refine (handed_eq g2.ok hxg (at_app (o2 := .dead) hgl2) (by omega) ⟨e, he2, hxd⟩).mono ?_
            rintro _ ⟨Q, rfl, dn⟩
            simp only
            rw [List.append_assoc, unlock_app hdm]
            simp only [ev_all]
            refine ⟨[Ob.lst ((seen2 ++ [x]).map dN), .dic (Q.map kvN)], jk_cons (clN (f := 11)) (jk_one jk_pl), rfl, .inl ⟨Q, _, x, rfl, ?_, hxg, hxk, dn, ?_⟩⟩
            · rw [List.length_append, hlen, List.getElem?_append_right (by simp)]
              simp
            · rw [List.length_append, hlen]
              omega
      · simp only [hxd, decide_false, ev_all, ls_all]
        exact ⟨met2, seen2, rfl, rfl, g2, fun y hy hyd => by
          rcases List.mem_append.mp hy with h | h
          · exact hpre y h hyd
          · rw [List.mem_singleton.mp h] at hyd; exact absurd hyd hxd, he2⟩
    · rintro L S' ⟨met2, seen2, rfl, rfl, g2, hpre, he2⟩
      refine ⟨trivial, ?_⟩
      simp only
      rw [unlock_app hdm]
      simp only [ev_all, ls_all, Nat.reduceAdd]
      have hnl2 := (List.getElem?_eq_some_iff.mp he2).1
      refine ⟨n', Nat.le_refl _, num + 1, met2, seen2, by omega, hnl2, by push_cast; rfl, rfl, ⟨g2.ok, g2.sn, g2.sk, g2.sg, fun j hj e' he' x hx hxd => ?_, g2.td⟩⟩
      by_cases hjn : j = num
      · subst hjn
        have := he2.symm.trans he'
        cases this
        exact hpre x hx hxd
      · exact g2.dn j (by omega) e' he' x hx hxd
  · simp only [hlt, decide_false, ev_all, ls_all]
    have hnum : num = met.length := by omega
    subst hnum
    refine en_lcA vE (fun q => .int q.1) met trivial (fun q _ => ?_) ?_
    · unfold vE
      split
      · simp only [ev_all, ls_all, Nat.reduceAdd]
      · simp only [ev_all, ls_all, Nat.reduceAdd]
    have em : met.map (fun q => D.int q.1) = (met.map (·.1)).map D.int := by rw [List.map_map]; rfl
    rw [em]
    have gs := gSorted_ints (fr := false) (d := .lst ((met.map (·.1)).map D.int)) (xs := met.map (·.1)) (S := S ++ [.lst (seen.map dN)]) rfl (by rw [List.length_map, sizeLine_eq]; omega)
    simp only [ev_all, ls_all, Nat.reduceAdd, List.length_map, show Sz met.length from sz_ok (by omega), gs]
    exact ⟨[.lst (seen.map dN)], jk_one (clN (f := 11)), rfl, .inr ⟨_, rfl, gi_none g⟩⟩
end

/-! ### the lows are given -/
abbrev Bd := Int × Int × Int
def kvB (b : Bd) : Key × D := (Sum.inl b.1, .tup [.int b.2.1, .int b.2.2])
abbrev bI (b : Bd) : D := .tup [.int b.1, .tup [.int b.2.1, .int b.2.2]]
structure BdOk (R : D) (bs : List Bd) : Prop where
  told : ∀ S, ClS S → F_told_bounds [R] S = some (.ref S.length, S ++ [.dic (bs.map kvB)])
  nd : (bs.map (·.1)).Nodup
  nn : ∀ b, b ∈ bs → 0 ≤ b.2.1 ∧ b.2.1 ≤ b.2.2 ∧ b.2.1 ≤ 1000
  few : bs.length ≤ 50
def lowOf (bs : List Bd) (w : Int) : Nat := ((bs.filter fun b => decide (b.1 = w)).map fun b => b.2.1.toNat).sum
theorem lowOf_app {bs : List Bd} {b : Bd} {w : Int} : lowOf (bs ++ [b]) w = lowOf bs w + if b.1 = w then b.2.1.toNat else 0 := by
  unfold lowOf
  rw [List.filter_append, List.map_append, List.sum_append]
  by_cases h : b.1 = w <;> simp [h]
theorem lowOf_none {bs : List Bd} {w : Int} (h : w ∉ bs.map (·.1)) : lowOf bs w = 0 := by
  unfold lowOf
  rw [List.filter_eq_nil_iff.mpr]
  · rfl
  · intro b hb e
    rw [decide_eq_true_eq] at e
    exact h (List.mem_map.mpr ⟨b, hb, e⟩)
theorem lowOf_pos {bs : List Bd} {w : Int} (h : 0 < lowOf bs w) : w ∈ bs.map (·.1) := by
  by_cases q : w ∈ bs.map (·.1)
  · exact q
  · rw [lowOf_none q] at h
    omega
theorem lowOf_le {pre post : List Bd} {w : Int} : lowOf pre w ≤ lowOf (pre ++ post) w := by
  unfold lowOf
  rw [List.filter_append, List.map_append, List.sum_append]
  omega
theorem cnt_pos {G : Pl} {p : Nat × Int} (h : p ∈ G) : 0 < cntP G p.2 := by
  unfold cntP
  rw [List.countP_pos_iff]
  exact ⟨p, h, by simp⟩
theorem cs_filter : ∀ {G : Pl} {W : List Int}, W.Nodup → (G.filter fun p => decide (p.2 ∈ W)).length = cs G W
  | [], W, _ => by rw [cs_nil]; rfl
  | p :: G, W, h => by
    have ih := cs_filter (G := G) h
    rw [cs_cons h, List.filter_cons]
    unfold one
    by_cases q : p.2 ∈ W
    · simp [q, ih]
    · simp [q, ih]
def hitW (dom : Nat → List Int) (W : List Int) (n : Nat) : Bool := W.any fun w => decide (w ∈ dom n)
structure Want (dom : Nat → List Int) (bs : List Bd) (ks : List Nat) (W : List Int) : Prop where
  asc : W.Pairwise (· < ·)
  ne : W ≠ []
  td : ∀ w, w ∈ W → w ∈ bs.map (·.1)
  few : (ks.filter (hitW dom W)).length < (W.map (lowOf bs)).sum
theorem sum_lt : ∀ {W : List Int} {f g : Int → Nat} {a : Int}, a ∈ W → (∀ w, f w ≤ g w) → f a < g a → (W.map f).sum < (W.map g).sum
  | w :: W, f, g, a, h, h1, h2 => by
    have hle : ∀ W : List Int, (W.map f).sum ≤ (W.map g).sum := by
      intro W
      induction W with
      | nil => exact Nat.le_refl _
      | cons x W ih =>
        rw [List.map_cons, List.sum_cons, List.map_cons, List.sum_cons]
        have := h1 x
        omega
    rw [List.map_cons, List.sum_cons, List.map_cons, List.sum_cons]
    rcases List.mem_cons.mp h with rfl | h
    · have := hle W
      omega
    · have := sum_lt h h1 h2
      have := h1 w
      omega
theorem want_of {dom : Nat → List Int} {G : Pl} {ks : List Nat} {first : Int} {T W : List Int} {bs : List Bd} (w : WantG dom G ks first T W) (hks : ks.Nodup) (hle : ∀ x, cntP G x ≤ lowOf bs x) (hlt : cntP G first < lowOf bs first) (hT : ∀ x, x ∈ T → x ∈ bs.map (·.1)) : Want dom bs ks W := by
  have hnd : W.Nodup := w.asc.imp fun q => Int.ne_of_lt q
  refine ⟨w.asc, fun e => ?_, fun x hx => hT x (w.td x hx), ?_⟩
  · have := w.fi
    rw [e] at this
    cases this
  · have h1 : (ks.filter (hitW dom W)).length ≤ ((G.filter fun p => decide (p.2 ∈ W)).map (·.1)).length := by
      refine nodup_le (hks.sublist List.filter_sublist) fun n hn => ?_
      rw [List.mem_filter] at hn
      unfold hitW at hn
      obtain ⟨x, hx, hd⟩ := List.any_eq_true.mp hn.2
      rw [decide_eq_true_eq] at hd
      obtain ⟨v, hv, hG⟩ := w.hit n hn.1 ⟨x, hx, hd⟩
      exact List.mem_map.mpr ⟨(n, v), List.mem_filter.mpr ⟨hG, by simpa using hv⟩, rfl⟩
    rw [List.length_map, cs_filter hnd] at h1
    have h2 := sum_lt (f := cntP G) (g := lowOf bs) w.fi hle hlt
    unfold cs at h1
    omega
structure GvOk (dom : Nat → List Int) (ks : List Nat) (G : Pl) : Prop where
  kn : (keysP G).Nodup
  dm : ∀ p, p ∈ G → p.2 ∈ dom p.1
  sub : ∀ n, n ∈ keysP G → n ∈ ks
theorem DoneV.gv {dom : Nat → List Int} {ks : List Nat} {G Q : Pl} {first : Int} {n0 : Nat} (d : DoneV dom G first n0 Q) (h : GvOk dom ks G) (hn : n0 ∉ keysP G) (hk : n0 ∈ ks) : GvOk dom ks Q := by
  refine ⟨?_, d.dm, fun n hn' => ?_⟩
  · rw [d.ks, List.nodup_append]
    exact ⟨h.kn, by simp, fun x hx y hy e => by rw [List.mem_singleton.mp hy] at e; exact hn (e ▸ hx)⟩
  · rw [d.ks] at hn'
    rcases List.mem_append.mp hn' with q | q
    · exact h.sub n q
    · rw [List.mem_singleton.mp q]; exact hk

theorem rng_range (n : Nat) : rngD 0 n = (List.range n).map dN := by
  unfold rngD
  apply List.map_congr_left
  intro i _
  show D.int (0 + (i : Int)) = D.int (i : Int)
  rw [Int.zero_add]
section
variable {S : Sto} {dom : Nat → List Int} {R : D} {ks : List Nat} {bs : List Bd}
theorem eqBd : Eq2 3 bI bI := Eq2.two (Eq2.int.up (by decide)) (Eq2.two Eq2.int Eq2.int)
theorem soBd : So bI := So.two (d := fun q : Int × Int => D.tup [.int q.1, .int q.2]) So.int (So.two So.int So.int)
theorem gfBd {b : Bd} {L : DS.Loc} {S : Sto} : gfTupG [gn 3, gt [5, 6]] (bI b) L S = some (((L.set 3 (some (.int b.1))).set 5 (some (.int b.2.1))).set 6 (some (.int b.2.2))) := rfl
def LowQ (S : Sto) (dom : Nat → List Int) (bs : List Bd) (ks : List Nat) (p : D × Sto) : Prop :=
  ∃ J, Jk J ∧ p.2 = S ++ J ∧ ((∃ G k, p.1 = .tup [.ref k, .non] ∧ (S ++ J)[k]? = some (.dic (G.map kvN)) ∧ GvOk dom ks G ∧ ∀ w, cntP G w = lowOf bs w) ∨ (∃ W : List Int, p.1 = .tup [.non, .lst (W.map .int)] ∧ Want dom bs ks W))
theorem lowOf_perm {as bs : List Bd} (h : as.Perm bs) (w : Int) : lowOf as w = lowOf bs w := by
  unfold lowOf
  exact ((h.filter _).map _).sum_nat
theorem bnd_cl : ClO 0 (.dic (bs.map kvB)) := fun x hx => by
  obtain ⟨b, _, rfl⟩ := List.mem_map.mp hx
  exact clI (xs := [b.2.1, b.2.2]) (f := 10)
theorem given_eq (hB : BdOk R bs) (hS : ClS S) {dm : Nat} (hdm : S[dm]? = some (.dic (domK dom ks))) (hks : ks.Nodup) (hkl : ks.length ≤ 50) :
    En (F_given_lows [R, .ref dm] S) (LowQ S dom bs ks) := by
  have hdl := (List.getElem?_eq_some_iff.mp hdm).1
  have hbl := hB.few
  have hcl0 : ClS (S ++ [.dic []]) := clS_app hS (jk_one (jk_pl (Q := [])))
  have e1 := hB.told (S ++ [.dic []]) hcl0
  have hsp : (srtE bI bs).Perm bs := srtE_perm bs
  have hnds : ((srtE bI bs).map (·.1)).Nodup := (hsp.map _).nodup_iff.mpr hB.nd
  have hit : itemsK (bs.map kvB) = bs.map bI := by
    unfold itemsK
    rw [List.map_map]
    rfl
  have hso : SrtOk (bs.map bI) := srtOk_sub (f := 3) eqBd soBd (by decide) fun b _ => ⟨.int b.1, [toPy (.tup [.int b.2.1, .int b.2.2])], by simp [toPy_tup]⟩
  have k0 : eItemsS (eFun F_told_bounds (aCons (eVar 0) aNil)) [some R, some (.ref dm), some (.ref S.length), none, none, none, none, none, none] (S ++ [.dic []]) = some (.lst ((srtE bI bs).map bI), S ++ [.dic []] ++ [.dic (bs.map kvB)]) := by
    unfold eItemsS
    rw [ev_fun, ev_cons, ev_var]
    simp only [ls_all, ev_nil, e1]
    have h9 : (S ++ [Ob.dic []] ++ [Ob.dic (bs.map kvB)])[(S ++ [Ob.dic []]).length]? = some (.dic (bs.map kvB)) := by simp
    simp only [h9, hit]
    rw [chk_pos ⟨hso, by rw [List.length_map, sizeLine_eq]; omega⟩, sortD_E]
  refine en_fn rfl ?_
  simp only [B_given_lows, ev_all, ls_all, Nat.reduceSub, Nat.reduceAdd, k0]
  refine en_forT bI (fun pre L S' => ∃ (J : Sto) (G : Pl) (k : Nat), Jk J ∧ S' = S ++ J ∧ L = [some R, some (.ref dm), some (.ref k), none, none, none, none, none, none] ∧ (S ++ J)[k]? = some (.dic (G.map kvN)) ∧ S.length ≤ k ∧ GvOk dom ks G ∧ ∀ w, cntP G w = lowOf pre w) (srtE bI bs) ⟨[.dic [], .dic (bs.map kvB)], [], S.length, jk_cons (jk_pl (Q := [])) (jk_one bnd_cl), by simp, rfl, by simp, Nat.le_refl _, ⟨by simp, by simp, by simp⟩, fun w => rfl⟩ ?_ ?_
  · rintro pre b post L S' hspl ⟨J, G, k, hJ, rfl, rfl, hk, hkS, hG, hc⟩
    have hbb : b ∈ bs := hsp.mem_iff.mp (by rw [hspl]; simp)
    have hbn := hB.nn b hbb
    have hb0 : b.1 ∉ pre.map (·.1) := fun q => by
      rw [hspl, List.map_append, List.map_cons, List.nodup_append] at hnds
      exact hnds.2.2 b.1 q b.1 List.mem_cons_self rfl
    obtain ⟨lo, hlo⟩ : ∃ lo : Nat, b.2.1 = (lo : Int) := ⟨b.2.1.toNat, by omega⟩
    refine ⟨trivial, ?_⟩
    rw [gfBd]
    simp only [hlo, ev_all, ls_all, Nat.reduceAdd, Int.sub_zero, Int.toNat_natCast, rng_range]
    refine ⟨rgI_ok (by omega) (by omega), ?_⟩
    refine en_forT dN (fun pre2 L S' => ∃ (J : Sto) (G : Pl) (k : Nat), Jk J ∧ S' = S ++ J ∧ L = [some R, some (.ref dm), some (.ref k), some (.int b.1), none, some (.int (lo : Int)), some (.int b.2.2), none, none] ∧ (S ++ J)[k]? = some (.dic (G.map kvN)) ∧ S.length ≤ k ∧ GvOk dom ks G ∧ ∀ w, cntP G w = lowOf pre w + if b.1 = w then pre2.length else 0) (List.range lo) ⟨J, G, k, hJ, rfl, rfl, hk, hkS, hG, fun w => by rw [hc]; simp⟩ ?_ ?_
    · rintro pre2 lap post2 L S' hspl2 ⟨J, G, k, hJ, rfl, rfl, hk, hkS, hG, hc⟩
      have hp2 : pre2.length < lo := by
        have := congrArg List.length hspl2
        simp at this
        omega
      have hle : ∀ x, cntP G x ≤ lowOf (srtE bI bs) x := fun x => by
        rw [hc, hspl, show pre ++ b :: post = (pre ++ [b]) ++ post by simp]
        refine Nat.le_trans ?_ lowOf_le
        rw [lowOf_app]
        split
        · rw [hlo, Int.toNat_natCast]; omega
        · omega
      have hlt : cntP G b.1 < lowOf (srtE bI bs) b.1 := by
        rw [hc, if_pos rfl, hspl, show pre ++ b :: post = (pre ++ [b]) ++ post by simp]
        refine Nat.lt_of_lt_of_le ?_ lowOf_le
        rw [lowOf_app, if_pos rfl, hlo, Int.toNat_natCast]
        omega
      have hgT : ∀ p, p ∈ G → p.2 ∈ bs.map (·.1) := fun p hp => by
        have h1 := cnt_pos hp
        have h2 := hle p.2
        rw [lowOf_perm hsp] at h2
        exact lowOf_pos (by omega)
      have hgl : G.length ≤ 50 := by
        have := nodup_le hG.kn hG.sub
        simp only [keysP, List.length_map] at this
        omega
      obtain ⟨⟨d, S2⟩, e2, J2, hJ2, hS2, hres⟩ := give_one_eq (first := b.1) (T := bs.map (·.1)) (clS_app hS hJ) (at_app (o2 := .dead) hdm) hks hkl hk (by omega) hG.kn hG.dm hgl (List.mem_map.mpr ⟨b, hbb, rfl⟩) hgT (by rw [List.length_map]; omega)
      simp only at hS2 hres
      subst hS2
      refine ⟨trivial, ?_⟩
      simp only [ev_all, ls_all, Nat.reduceAdd, e2]
      rcases hres with ⟨Q, k2, n0, rfl, hk2, hn0, hn0k, hd, hk2S⟩ | ⟨W, rfl, hW⟩
      · have g1 : gIsR (.ref k2) .non (S ++ J ++ J2) = some (.bl false, S ++ J ++ J2) := isR_dic hk2
        simp only [ev_all, ls_all, Nat.reduceAdd]
        rw [en_sif]
        simp only [ev_all, ls_all, Nat.reduceAdd, g1]
        refine ⟨J ++ J2, Q, k2, jk_app hJ hJ2, by rw [List.append_assoc], rfl, by rw [← List.append_assoc]; exact hk2, by rw [List.length_append] at hk2S; omega, hd.gv hG hn0 hn0k, fun w => ?_⟩
        rw [hd.cn, hc, List.length_append, List.length_singleton]
        unfold one
        by_cases q : b.1 = w <;> simp [q]
        omega
      · have g1 : gIsR .non .non (S ++ J ++ J2) = some (.bl true, S ++ J ++ J2) := rfl
        simp only [ev_all, ls_all, Nat.reduceAdd]
        rw [en_sif]
        simp only [ev_all, ls_all, Nat.reduceAdd, g1]
        have hw := want_of (bs := bs) hW hks (fun x => by rw [← lowOf_perm hsp]; exact hle x) (by rw [← lowOf_perm hsp]; exact hlt) (fun x hx => hx)
        exact ⟨J ++ J2, jk_app hJ hJ2, by rw [List.append_assoc], .inr ⟨W, rfl, hw⟩⟩
    · rintro L S' ⟨J, G, k, hJ, rfl, rfl, hk, hkS, hG, hc⟩
      refine ⟨trivial, ?_⟩
      simp only [ev_all, ls_all]
      refine ⟨J, G, k, hJ, rfl, rfl, hk, hkS, hG, fun w => ?_⟩
      rw [hc, lowOf_app, hlo, Int.toNat_natCast, List.length_range]
  · rintro L S' ⟨J, G, k, hJ, rfl, rfl, hk, hkS, hG, hc⟩
    refine ⟨trivial, ?_⟩
    simp only [ev_all, ls_all, Nat.reduceAdd]
    exact ⟨J, hJ, rfl, .inl ⟨G, k, rfl, hk, hG, fun w => by rw [hc, lowOf_perm hsp]⟩⟩
end

/-! ### highs and lows at once: the mathematics -/
section
variable {dom : Nat → List Int} {hi : Int → Option Int} {G Q : Pl} {bs : List Bd}
def dis (Q G : Pl) : Nat := (G.filter fun p => !decide (p ∈ Q)).length
theorem nodup_P (h : (keysP Q).Nodup) : Q.Nodup := by
  unfold List.Nodup keysP at h
  rw [List.pairwise_map] at h
  exact h.imp fun q e => q (by rw [e])
theorem cnt_le_of_sub {d : Int} (hG : (keysP G).Nodup) (h : ∀ p, p ∈ G → p.2 = d → p ∈ Q) : cntP G d ≤ cntP Q d := by
  unfold cntP
  rw [List.countP_eq_length_filter, List.countP_eq_length_filter]
  refine nodup_le ((nodup_P hG).sublist List.filter_sublist) fun p hp => ?_
  rw [List.mem_filter, decide_eq_true_eq] at hp
  rw [List.mem_filter, decide_eq_true_eq]
  exact ⟨h p hp.1 hp.2, hp.2⟩
theorem lack_some {d : Int} (hG : (keysP G).Nodup) (h : cntP Q d < cntP G d) : ∃ n, (n, d) ∈ G ∧ (n, d) ∉ Q := by
  by_cases q : ∃ n, (n, d) ∈ G ∧ (n, d) ∉ Q
  · exact q
  · have := cnt_le_of_sub (Q := Q) (d := d) hG fun p hp e => by
      by_cases hq : p ∈ Q
      · exact hq
      · exfalso
        refine q ⟨p.1, ?_, ?_⟩
        · rw [← e]; exact hp
        · rw [← e]; exact hq
    omega
theorem dis_put {n : Nat} {d : Int} (hG : (keysP G).Nodup) (h : (n, d) ∈ G) (hq : (n, d) ∉ Q) (hk : n ∈ keysP Q) : dis (putN Q n d) G < dis Q G := by
  unfold dis
  have hm : (n, d) ∈ putN Q n d := by
    rw [putN_old hk]
    obtain ⟨p, hp, e⟩ := List.mem_map.mp hk
    exact List.mem_map.mpr ⟨p, hp, by rw [if_pos e]⟩
  have hsub : ∀ p, p ∈ G.filter (fun p => !decide (p ∈ putN Q n d)) → p ∈ (G.filter fun p => !decide (p ∈ Q)).erase (n, d) := fun p hp => by
    rw [List.mem_filter, Bool.not_eq_true', decide_eq_false_iff_not] at hp
    have hne : p ≠ (n, d) := fun e => hp.2 (e ▸ hm)
    rw [List.mem_erase_of_ne hne, List.mem_filter, Bool.not_eq_true', decide_eq_false_iff_not]
    refine ⟨hp.1, fun hQ => hp.2 (mem_put_other hQ fun e => hne ?_)⟩
    have : (n, p.2) ∈ G := by rw [← e]; exact hp.1
    exact Prod.ext e (key_one hG this h)
  have h1 := nodup_le ((nodup_P hG).sublist List.filter_sublist) hsub
  have hmem : (n, d) ∈ G.filter fun p => !decide (p ∈ Q) := by
    rw [List.mem_filter, Bool.not_eq_true', decide_eq_false_iff_not]
    exact ⟨h, hq⟩
  have h2 := List.length_erase_of_mem hmem
  have h3 := List.length_pos_of_mem hmem
  omega
/-- a placing on the way to the lows: all names, and how much the values of pre have -/
structure PutOk (dom : Nat → List Int) (hi : Int → Option Int) (bs : List Bd) (ks : List Nat) (pre : List Int) (Q : Pl) : Prop where
  pl : PlOk dom hi Q
  ks : keysP Q = ks
  lo : ∀ w, w ∈ pre → lowOf bs w ≤ cntP Q w
/-- .. while d is due -/
structure DueOk (dom : Nat → List Int) (hi : Int → Option Int) (bs : List Bd) (ks : List Nat) (pre : List Int) (d : Int) (Q : Pl) : Prop where
  pl : PlOk dom hi Q
  ks : keysP Q = ks
  lo : ∀ w, w ∈ pre → w ≠ d → lowOf bs w ≤ cntP Q w
  lod : d ∈ pre → lowOf bs d ≤ cntP Q d + 1
  lack : cntP Q d < lowOf bs d
theorem due_step {ks : List Nat} {pre : List Int} {d u : Int} {n : Nat} (hH : ∀ w h, hi w = some h → (lowOf bs w : Int) ≤ h) (h : DueOk dom hi bs ks pre d Q) (hd : d ∈ dom n) (hu : (n, u) ∈ Q) (hne : u ≠ d) :
    PlOk dom hi (putN Q n d) ∧ keysP (putN Q n d) = ks ∧ (∀ w, w ∈ pre → w ≠ u → lowOf bs w ≤ cntP (putN Q n d) w) ∧ (u ∈ pre → lowOf bs u ≤ cntP (putN Q n d) u + 1) := by
  have hk : n ∈ keysP Q := List.mem_map.mpr ⟨(n, u), hu, rfl⟩
  have hc : ∀ w, cntP (putN Q n d) w + one (decide (u = w)) = cntP Q w + one (decide (d = w)) := fun w => cnt_old h.pl.kn hu
  refine ⟨⟨by rw [keys_old hk]; exact h.pl.kn, fun p hp => ?_, fun w b hw => ?_⟩, by rw [keys_old hk, h.ks], fun w hw hwu => ?_, fun hup => ?_⟩
  · rcases mem_put hp with rfl | ⟨_, hp⟩
    · exact hd
    · exact h.pl.dm p hp
  · have h1 := h.pl.up w b hw
    have h2 := hc w
    have h3 := hH w b hw
    have h4 := h.lack
    unfold one at h2
    by_cases q : d = w
    · subst q
      simp only [hne, decide_false, decide_true, Bool.false_eq_true, if_false, if_true] at h2
      omega
    · simp only [q, decide_false, Bool.false_eq_true, if_false] at h2
      omega
  · have h2 := hc w
    have hwu' : ¬ u = w := fun e => hwu e.symm
    unfold one at h2
    simp only [hwu', decide_false, Bool.false_eq_true, if_false] at h2
    by_cases q : d = w
    · subst q
      have := h.lod hw
      simp only [decide_true, if_true] at h2
      omega
    · have := h.lo w hw fun e => q e.symm
      omega
  · have h2 := hc u
    have := h.lo u hup hne
    have hdu : ¬ d = u := fun e => hne e.symm
    unfold one at h2
    simp only [hdu, decide_false, decide_true, Bool.false_eq_true, if_false, if_true] at h2
    omega
end

section
variable {S : Sto} {dom : Nat → List Int} {hi : Int → Option Int} {R : D} {ks : List Nat} {bs : List Bd} {P G : Pl}
/-! ### highs and lows at once -/
abbrev bndB (bs : List Bd) : Ob := .dic (bs.map kvB)
abbrev StP (S : Sto) (bs : List Bd) (Q : Pl) : Sto := S ++ [.dic (Q.map kvN), bndB bs]
theorem valB : ∀ {bs : List Bd} {b : Bd}, (bs.map (·.1)).Nodup → b ∈ bs → valD (bs.map kvB) (Sum.inl b.1 : Key) = some (.tup [.int b.2.1, .int b.2.2])
  | c :: bs, b, hn, h => by
    have hn' : c.1 ∉ bs.map (·.1) ∧ (bs.map (·.1)).Nodup := List.nodup_cons.mp hn
    unfold valD
    rw [List.map_cons, List.find?_cons]
    rcases List.mem_cons.mp h with h | h
    · subst h
      simp [kvB]
    · have hne : ¬ c.1 = b.1 := fun e => hn'.1 (e ▸ List.mem_map_of_mem h)
      have hk : decide ((kvB c).1 = (Sum.inl b.1 : Key)) = false := by
        rw [decide_eq_false_iff_not]
        exact fun q => hne (Sum.inl.inj q)
      rw [hk]
      exact valB hn'.2 h
theorem lowOf_mem : ∀ {bs : List Bd} {b : Bd}, (bs.map (·.1)).Nodup → b ∈ bs → lowOf bs b.1 = b.2.1.toNat
  | c :: bs, b, hn, h => by
    have hn' : c.1 ∉ bs.map (·.1) ∧ (bs.map (·.1)).Nodup := List.nodup_cons.mp hn
    have e : lowOf (c :: bs) b.1 = (if c.1 = b.1 then c.2.1.toNat else 0) + lowOf bs b.1 := by
      unfold lowOf
      rw [List.filter_cons]
      by_cases q : c.1 = b.1 <;> simp [q]
    rw [e]
    rcases List.mem_cons.mp h with h | h
    · subst h
      rw [if_pos rfl, lowOf_none hn'.1]
      rfl
    · have hne : ¬ c.1 = b.1 := fun e => hn'.1 (e ▸ List.mem_map_of_mem h)
      rw [if_neg hne, lowOf_mem hn'.2 h, Nat.zero_add]
theorem keysB : KI (bs.map kvB) (bs.map (·.1)) := by
  unfold KI
  rw [List.map_map, List.map_map]
  rfl
theorem put_eq (hB : BdOk R bs) (hH : ∀ w h, hi w = some h → (lowOf bs w : Int) ≤ h) (hS : ClS S) {pl gv : Nat} (hpl : S[pl]? = some (.dic (P.map kvN))) (hgv : S[gv]? = some (.dic (G.map kvN))) (hP : PlOk dom hi P) (hPk : keysP P = ks) (hG : GvOk dom ks G) (hGc : ∀ w, cntP G w = lowOf bs w) (hkl : ks.length ≤ 50) :
    En (F_put_together [R, .ref pl, .ref gv] S) fun p => ∃ Q, p = (.ref S.length, StP S bs Q) ∧ PutOk dom hi bs ks (bs.map (·.1)) Q := by
  have e0 : gDictC [.ref pl] S = some (.ref S.length, S ++ [.dic (P.map kvN)]) := by
    unfold gDictC
    simp only [hpl]
  have e1 := hB.told (S ++ [.dic (P.map kvN)]) (clS_app hS (jk_one jk_pl))
  have hgl := (List.getElem?_eq_some_iff.mp hgv).1
  have hL : ∀ Q : Pl, (StP S bs Q)[S.length]? = some (.dic (Q.map kvN)) := fun Q => by simp
  have hBn : ∀ Q : Pl, (StP S bs Q)[S.length + 1]? = some (bndB bs) := fun Q => by simp
  have hGv : ∀ Q : Pl, (StP S bs Q)[gv]? = some (.dic (G.map kvN)) := fun Q => at_app (o2 := .dead) hgv
  have hit : itemsD (S ++ [.dic (P.map kvN)] ++ [bndB bs]) (.ref (S ++ [Ob.dic (P.map kvN)]).length) = some ((bs.map (·.1)).map .int) := items_dic (kvs := bs.map kvB) (by simp) keysB
  have hbl := hB.few
  have e2 := gSorted_ints (fr := false) hit (by rw [List.length_map, sizeLine_eq]; omega)
  refine en_fn rfl ?_
  simp only [B_put_together, ev_all, ls_all, Nat.reduceSub, Nat.reduceAdd, e0, e1, e2]
  rw [show (S ++ [Ob.dic (P.map kvN)]).length = S.length + 1 by simp, show S ++ [Ob.dic (P.map kvN)] ++ [Ob.dic (bs.map kvB)] = StP S bs P by simp]
  have hgne : gv ≠ S.length := by omega
  have hQk : ∀ {Q : Pl}, keysP Q = ks → Q.length ≤ 50 := fun {Q} h => by
    have := congrArg List.length h
    simp only [keysP, List.length_map] at this
    omega
  have hGl : G.length ≤ 50 := by
    have := nodup_le hG.kn hG.sub
    simp only [keysP, List.length_map] at this
    omega
  have hlow : ∀ (Q : Pl) (b : Bd), b ∈ bs → gIx (.ref (S.length + 1)) (.int b.1) (StP S bs Q) = some (.tup [.int b.2.1, .int b.2.2], StP S bs Q) := fun Q b hb => gIx_dic (.inl (hBn Q)) (valB hB.nd hb)
  have hlt : ∀ (Q : Pl) (b : Bd) (v : Int), b ∈ bs → gLt (.int (cntP Q v : Nat)) (.int b.2.1) (StP S bs Q) = some (.bl (decide (cntP Q v < lowOf bs b.1)), StP S bs Q) := fun Q b v hb => by
    rw [gLt_i]
    congr 4
    rw [lowOf_mem hB.nd hb]
    have := hB.nn b hb
    exact propext ⟨fun h => by omega, fun h => by omega⟩
  have hst : ∀ (Q Q2 : Pl), (StP S bs Q).set S.length (.dic (Q2.map kvN)) = StP S bs Q2 := fun Q Q2 => by
    rw [sto_set0]
    rfl
  refine en_forT D.int (fun pre L S' => ∃ Q : Pl, L = [some R, some (.ref pl), some (.ref gv), none, some (.ref S.length), some (.ref (S.length + 1)), none, none, none, none, none] ∧ S' = StP S bs Q ∧ PutOk dom hi bs ks pre Q) (srt (bs.map (·.1))) ⟨P, rfl, rfl, ⟨hP, hPk, by simp⟩⟩ ?_ ?_
  · rintro pre v post L S' hsp ⟨Q0, rfl, rfl, hQ0⟩
    obtain ⟨b, hb, rfl⟩ := List.mem_map.mp (srt_mem.mp (show v ∈ srt (bs.map (·.1)) by rw [hsp]; simp))
    refine ⟨trivial, ?_⟩
    simp only [ev_all, ls_all]
    refine en_while (fun n L S' => ∃ Q : Pl, n = dis Q G ∧ L = [some R, some (.ref pl), some (.ref gv), some (.int b.1), some (.ref S.length), some (.ref (S.length + 1)), none, none, none, none, none] ∧ S' = StP S bs Q ∧ PutOk dom hi bs ks pre Q) ?_ (dis Q0 G) ⟨Q0, rfl, rfl, rfl, hQ0⟩
    rintro n L S' ⟨Q, rfl, rfl, rfl, hQ⟩
    have hql := hQk hQ.ks
    simp only [lock_dic (hL Q), lock_at (hL Q), keysD_E, ev_all, ls_all, Nat.reduceAdd]
    refine en_lcM (fun p : Nat × Int => dN p.1) (fun p => decide (p.2 = b.1)) (fun p => dN p.1) Q trivial (fun p hp => ?_) ?_
    · have e2 := gIx_E (S := (StP S bs Q).set S.length (.dil (Q.map kvN))) (.inr (lock_at (hL Q))) hQ.pl.kn (show (p.1, p.2) ∈ Q from hp)
      simp only [ev_all, ls_all, Nat.reduceAdd, e2]
    have hfl := List.length_filter_le (fun p : Nat × Int => decide (p.2 = b.1)) Q
    have hc : (Q.filter fun p => decide (p.2 = b.1)).length = cntP Q b.1 := (List.countP_eq_length_filter (p := fun p : Nat × Int => decide (p.2 = b.1)) (l := Q)).symm
    rw [hc] at hfl
    simp only [ev_all, ls_all, Nat.reduceAdd, List.length_map, hc, show Sz (cntP Q b.1) from sz_ok (by omega), unlock_dil (hL Q), hlow Q b hb, hlt Q b b.1 hb]
    by_cases hlk : cntP Q b.1 < lowOf bs b.1
    · simp only [hlk, decide_true, ev_all, ls_all]
      obtain ⟨n', hn'⟩ : ∃ n', dis Q G = n' + 1 := by
        obtain ⟨x, hx1, hx2⟩ := lack_some (Q := Q) hG.kn (by rw [hGc]; exact hlk)
        have : 0 < dis Q G := by
          unfold dis
          refine List.length_pos_of_mem (a := (x, b.1)) ?_
          rw [List.mem_filter, Bool.not_eq_true', decide_eq_false_iff_not]
          exact ⟨hx1, hx2⟩
        exact ⟨dis Q G - 1, by omega⟩
      refine ⟨n', hn', ?_⟩
      refine en_while (fun m L S' => (∃ (d : Int) (Q2 : Pl), m = dis Q2 G + 1 ∧ dis Q2 G ≤ dis Q G ∧ L = [some R, some (.ref pl), some (.ref gv), some (.int b.1), some (.ref S.length), some (.ref (S.length + 1)), some (.int d), none, none, none, none] ∧ S' = StP S bs Q2 ∧ DueOk dom hi bs ks pre d Q2) ∨
        (∃ Q2 : Pl, dis Q2 G < dis Q G ∧ L = [some R, some (.ref pl), some (.ref gv), some (.int b.1), some (.ref S.length), some (.ref (S.length + 1)), some .non, none, none, none, none] ∧ S' = StP S bs Q2 ∧ PutOk dom hi bs ks pre Q2)) ?_ (dis Q G + 1) (.inl ⟨b.1, Q, rfl, Nat.le_refl _, rfl, rfl, hQ.pl, hQ.ks, fun w hw _ => hQ.lo w hw, fun hw => by have := hQ.lo b.1 hw; omega, hlk⟩)
      rintro m L S' (⟨d, Q2, rfl, hdis, rfl, rfl, hD⟩ | ⟨Q2, hdis, rfl, rfl, hQ2⟩)
      · have g1 : gNotN (.int d) .non (StP S bs Q2) = some (.bl true, StP S bs Q2) := rfl
        simp only [ev_all, ls_all, Nat.reduceAdd, g1]
        refine ⟨dis Q2 G, rfl, ?_⟩
        simp only [lock_dic (hGv Q2), lock_at (hGv Q2), keysD_E, ev_all, ls_all, Nat.reduceAdd]
        have hval : ∀ n, n ∈ ks → ∃ u, (n, u) ∈ Q2 := fun n hn => by
          rw [← hD.ks] at hn
          obtain ⟨⟨n', u⟩, hu, rfl⟩ := List.mem_map.mp hn
          exact ⟨u, hu⟩
        refine en_lcM (fun p : Nat × Int => dN p.1) (fun p => decide (p.2 = d) && !decide (p ∈ Q2)) (fun p => dN p.1) G trivial (fun p hp => ?_) ?_
        · have ea := gIx_E (S := (StP S bs Q2).set gv (.dil (G.map kvN))) (.inr (lock_at (hGv Q2))) hG.kn (show (p.1, p.2) ∈ G from hp)
          obtain ⟨u, hu⟩ := hval p.1 (hG.sub _ (List.mem_map_of_mem hp))
          have eb := gIx_E (S := (StP S bs Q2).set gv (.dil (G.map kvN))) (e := D.int) (k := S.length) (.inl (by rw [List.getElem?_set_ne hgne]; exact hL Q2)) hD.pl.kn hu
          simp only [ev_all, ls_all, Nat.reduceAdd, ea]
          by_cases hpd : p.2 = d
          · have hiff : decide (u = d) = decide (p ∈ Q2) := by
              rw [decide_eq_decide]
              constructor
              · intro e
                have : p = (p.1, u) := Prod.ext rfl (hpd.trans e.symm)
                rw [this]; exact hu
              · intro q
                have q' : (p.1, d) ∈ Q2 := by rw [← hpd]; exact q
                exact key_one hD.pl.kn hu q'
            simp only [hpd, decide_true, ev_all, ls_all, eb, gNe_i, hiff, Bool.true_and]
          · simp only [hpd, decide_false, ev_all, ls_all, Bool.false_and]
        obtain ⟨x, hx1, hx2⟩ := lack_some (Q := Q2) hG.kn (by rw [hGc]; exact hD.lack)
        have hmem : (x, d) ∈ G.filter fun p => decide (p.2 = d) && !decide (p ∈ Q2) := by
          rw [List.mem_filter]
          exact ⟨hx1, by simp [hx2]⟩
        have hfl2 := List.length_filter_le (fun p : Nat × Int => decide (p.2 = d) && !decide (p ∈ Q2)) G
        cases hf : G.filter fun p => decide (p.2 = d) && !decide (p ∈ Q2) with
        | nil => rw [hf] at hmem; cases hmem
        | cons p rest =>
          have hpm : p ∈ G.filter fun p => decide (p.2 = d) && !decide (p ∈ Q2) := by rw [hf]; exact List.mem_cons_self
          rw [List.mem_filter, Bool.and_eq_true, decide_eq_true_eq, Bool.not_eq_true', decide_eq_false_iff_not] at hpm
          obtain ⟨hpG, hpd, hpQ⟩ := hpm
          obtain ⟨n, d'⟩ := p
          simp only at hpd
          subst hpd
          have hnk := hG.sub n (List.mem_map.mpr ⟨(n, d'), hpG, rfl⟩)
          obtain ⟨u, hu⟩ := hval n hnk
          have hud : u ≠ d' := fun e => hpQ (e ▸ hu)
          have hkQ : n ∈ keysP Q2 := by rw [hD.ks]; exact hnk
          obtain ⟨s1, s2, s3, s4⟩ := due_step hH hD (hG.dm _ hpG) hu hud
          have hdl := dis_put hG.kn hpG hpQ hkQ
          have ec := gIx_E (S := StP S bs Q2) (e := D.int) (.inl (hL Q2)) hD.pl.kn hu
          have es := gSet_N (S := StP S bs Q2) (n := n) (v := d') (hL Q2) (by have := hQk hD.ks; omega)
          rw [hst] at es
          rw [hf, List.length_cons] at hfl2
          generalize putN Q2 n d' = Q3 at s1 s2 s3 s4 hdl es
          simp only [List.map_cons, List.length_cons, List.length_map]
          refine ⟨sz_ok (by omega), ?_⟩
          simp only [unlock_dil (hGv Q2), ev_all, ls_all, ec, es, lock_dic (hL Q3), lock_at (hL Q3), keysD_E, Nat.reduceAdd]
          refine en_lcM (fun p : Nat × Int => dN p.1) (fun p => decide (p.2 = u)) (fun p => dN p.1) Q3 trivial (fun p hp => ?_) ?_
          · have e2 := gIx_E (S := (StP S bs Q3).set S.length (.dil (Q3.map kvN))) (.inr (lock_at (hL Q3))) s1.kn (show (p.1, p.2) ∈ Q3 from hp)
            simp only [ev_all, ls_all, Nat.reduceAdd, e2]
          have hql3 := hQk s2
          have hfl3 := List.length_filter_le (fun p : Nat × Int => decide (p.2 = u)) Q3
          have hc3 : (Q3.filter fun p => decide (p.2 = u)).length = cntP Q3 u := (List.countP_eq_length_filter (p := fun p : Nat × Int => decide (p.2 = u)) (l := Q3)).symm
          rw [hc3] at hfl3
          have ei := inD_dic (neg := false) (a := u) (hBn Q3) keysB
          rw [Bool.false_xor] at ei
          simp only [ev_if, ev_all, ls_all, Nat.reduceAdd, List.length_map, hc3, show Sz (cntP Q3 u) from sz_ok (by omega), unlock_dil (hL Q3), ei]
          have fin : lowOf bs u ≤ cntP Q3 u → PutOk dom hi bs ks pre Q3 := fun h => ⟨s1, s2, fun w hw => by
            by_cases q : w = u
            · rw [q]; exact h
            · exact s3 w hw q⟩
          by_cases hub : u ∈ bs.map (·.1)
          · obtain ⟨b2, hb2, rfl⟩ := List.mem_map.mp hub
            simp only [hub, decide_true, ev_all, ls_all, hlow Q3 b2 hb2, hlt Q3 b2 b2.1 hb2]
            by_cases hl3 : cntP Q3 b2.1 < lowOf bs b2.1
            · simp only [hl3, decide_true, ev_all, ls_all]
              exact ⟨dis Q3 G + 1, by omega, .inl ⟨b2.1, Q3, rfl, by omega, rfl, rfl, ⟨s1, s2, s3, s4, hl3⟩⟩⟩
            · simp only [hl3, decide_false, ev_all, ls_all]
              exact ⟨0, Nat.zero_le _, .inr ⟨Q3, by omega, rfl, fin (by omega)⟩⟩
          · simp only [hub, decide_false, ev_all, ls_all]
            exact ⟨0, Nat.zero_le _, .inr ⟨Q3, by omega, rfl, fin (by rw [lowOf_none hub]; exact Nat.zero_le _)⟩⟩
      · have g1 : gNotN .non .non (StP S bs Q2) = some (.bl false, StP S bs Q2) := rfl
        simp only [ev_all, ls_all, Nat.reduceAdd, g1]
        exact ⟨dis Q2 G, by omega, Q2, rfl, rfl, hQ2⟩
    · simp only [hlk, decide_false, ev_all, ls_all]
      exact ⟨Q, rfl, hQ.pl, hQ.ks, fun w hw => by
        rcases List.mem_append.mp hw with h | h
        · exact hQ.lo w h
        · rw [List.mem_singleton.mp h]; omega⟩
  · rintro L S' ⟨Q, rfl, rfl, hQ⟩
    refine ⟨trivial, ?_⟩
    simp only [ev_all, ls_all]
    exact ⟨Q, rfl, hQ.pl, hQ.ks, fun w hw => hQ.lo w (srt_mem.mpr hw)⟩
end

section
variable {S : Sto} {dom : Nat → List Int} {hi : Int → Option Int} {R : D} {ks : List Nat} {bs : List Bd} {V : List Int}
/-! ### a row, a crowd or a want -/
def nmD : Option Nat → D
  | none => .non
  | some n => dN n
theorem ne_nm (n : Nat) (o : Option Nat) : gNe (dN n) (nmD o) S = some (.bl (!decide (some n = o)), S) := by
  cases o with
  | none =>
    show gNe (.int n) .non S = _
    rw [gNe_pn (f := 1) pn_int pn_non (by decide)]
    rfl
  | some m =>
    show gNe (dN n) (dN m) S = _
    rw [gNe2 Eq2.nat (by decide) n m]
    congr 4
    rw [decide_eq_decide]
    exact ⟨fun e => by rw [e], fun e => Option.some.inj e⟩
abbrev numsI (M : List Nat) : List Int := M.map fun n : Nat => (n : Int)
theorem dN_ints (ns : List Nat) : ns.map dN = (numsI ns).map D.int := by rw [List.map_map]; rfl
/-- a row's values, name by name -/
structure RowIs (dom : Nat → List Int) (hi : Int → Option Int) (bs : List Bd) (ks : List Nat) (row : List Int) : Prop where
  q : ∃ Q, PutOk dom hi bs ks (bs.map (·.1)) Q ∧ row = Q.map (·.2)
inductive Ans (dom : Nat → List Int) (hi : Int → Option Int) (bs : List Bd) (ks : List Nat) (o : Option Nat) : D → Prop
  | row (row : List Int) (h : RowIs dom hi bs ks row) : Ans dom hi bs ks o (.tup [.str "row", .tup (row.map .int)])
  | crowd (M : List Nat) (h : Crowd dom hi ks M) : Ans dom hi bs ks o (.tup [.str "crowd", .tup ((srt (numsI (M.filter fun n => !decide (some n = o)))).map .int)])
  | want (W : List Int) (h : Want dom bs ks W) : Ans dom hi bs ks o (.tup [.str "want", .tup (W.map .int)])
theorem answered_eq (hR : HiOk R hi) (hi0 : ∀ v h, hi v = some h → 0 ≤ h) (hB : BdOk R bs) (hH : ∀ w h, hi w = some h → (lowOf bs w : Int) ≤ h) (hS : ClS S) {dm : Nat} (hdm : S[dm]? = some (.dic (domK dom ks))) (hks : ks.Nodup) (hkl : ks.length ≤ 50) (hV : ∀ n, n ∈ ks → ∀ v, v ∈ dom n → v ∈ V) (hVl : V.length ≤ 1000) (o : Option Nat) :
    En (F_answered [R, .tud (ks.map dN), .ref dm, nmD o] S) fun p => p.2 = S ∧ Ans dom hi bs ks o p.1 := by
  obtain ⟨⟨d1, S1⟩, e1, J, hJ, hS1, h1⟩ := placed_eq hR hi0 hS hdm hks hkl hV hVl
  simp only at hS1 h1
  subst hS1
  refine en_fn rfl ?_
  simp only [B_answered, ev_all, ls_all, Nat.reduceSub, Nat.reduceAdd, e1]
  rcases h1 with ⟨Q, k, rfl, hk, hQ, hQk⟩ | ⟨M, rfl, hM⟩
  · obtain ⟨⟨d2, S2⟩, e2, J2, hJ2, hS2, h2⟩ := given_eq (S := S ++ J) (dom := dom) hB (clS_app hS hJ) (at_app (o2 := .dead) hdm) hks hkl
    simp only at hS2 h2
    subst hS2
    have g1 : gIsR (.ref k) .non (S ++ J) = some (.bl false, S ++ J) := isR_dic hk
    simp only [ev_all, ls_all, Nat.reduceAdd]
    rw [en_sif]
    simp only [ev_all, ls_all, Nat.reduceAdd, g1, e2]
    rcases h2 with ⟨G, kg, rfl, hkg, hG, hGc⟩ | ⟨W, rfl, hW⟩
    · have g2 : gIsR (.ref kg) .non (S ++ J ++ J2) = some (.bl false, S ++ J ++ J2) := isR_dic hkg
      simp only [ev_all, ls_all, Nat.reduceAdd]
      rw [en_sif]
      simp only [ev_all, ls_all, Nat.reduceAdd, g2]
      have hcl2 : ClS (S ++ J ++ J2) := clS_app (clS_app hS hJ) hJ2
      obtain ⟨_, e3, Q3, rfl, h3⟩ := put_eq (S := S ++ J ++ J2) hB hH hcl2 (at_app (o2 := .dead) hk) hkg hQ hQk hG hGc hkl
      simp only [ev_all, ls_all, Nat.reduceAdd, e3]
      have hit : ks.map dN = Q3.map fun p => dN p.1 := by rw [← h3.ks, List.map_map]; rfl
      rw [hit]
      refine en_lcA (fun p : Nat × Int => dN p.1) (fun p => .int p.2) Q3 trivial (fun p hp => ?_) ?_
      · have e4 := gIx_E (S := StP (S ++ J ++ J2) bs Q3) (e := D.int) (k := (S ++ J ++ J2).length) (.inl (by simp)) h3.pl.kn (show (p.1, p.2) ∈ Q3 from hp)
        simp only [ev_all, ls_all, Nat.reduceAdd, e4]
      have em : Q3.map (fun p => D.int p.2) = (Q3.map (·.2)).map D.int := by rw [List.map_map]; rfl
      have hql : Q3.length ≤ 50 := by
        have := congrArg List.length h3.ks
        simp only [keysP, List.length_map] at this
        omega
      have k1 : ∀ S (xs : List D), gTuple [.lst xs] S = some (.tup xs, S) := fun _ _ => rfl
      have hcut := cut_app (S := S) (X := J ++ (J2 ++ [.dic (Q3.map kvN), bndB bs])) (d := .tup [.str "row", .tup ((Q3.map (·.2)).map .int)]) hS (fun x hx => by
        simp only [List.mem_cons, List.not_mem_nil, or_false] at hx
        rcases hx with rfl | rfl
        · trivial
        · exact clI (f := 9))
      rw [em]
      simp only [ev_all, ls_all, Nat.reduceAdd, List.length_map, show Sz Q3.length from sz_ok (by omega), k1]
      rw [show StP (S ++ J ++ J2) bs Q3 = S ++ (J ++ (J2 ++ [.dic (Q3.map kvN), bndB bs])) by simp [StP], hcut]
      exact en_some.mpr ⟨rfl, .row _ ⟨Q3, h3, rfl⟩⟩
    · have g2 : gIsR .non .non (S ++ J ++ J2) = some (.bl true, S ++ J ++ J2) := rfl
      have k1 : ∀ S (xs : List D), gTuple [.lst xs] S = some (.tup xs, S) := fun _ _ => rfl
      have hcut := cut_app (S := S) (X := J ++ J2) (d := .tup [.str "want", .tup (W.map .int)]) hS (fun x hx => by
        simp only [List.mem_cons, List.not_mem_nil, or_false] at hx
        rcases hx with rfl | rfl
        · trivial
        · exact clI (f := 9))
      simp only [ev_all, ls_all, Nat.reduceAdd]
      rw [en_sif]
      simp only [ev_all, ls_all, Nat.reduceAdd, g2, k1]
      rw [List.append_assoc, hcut]
      exact en_some.mpr ⟨rfl, .want W hW⟩
  · have g1 : gIsR .non .non (S ++ J) = some (.bl true, S ++ J) := rfl
    have hml := nodup_le hM.nd hM.sub
    simp only [ev_all, ls_all, Nat.reduceAdd]
    rw [en_sif]
    simp only [ev_all, ls_all, Nat.reduceAdd, g1]
    refine en_lcM dN (fun n => !decide (some n = o)) dN M trivial (fun n _ => ?_) ?_
    · simp only [ev_all, ls_all, Nat.reduceAdd, ne_nm n o]
    have hfl := List.length_filter_le (fun n => !decide (some n = o)) M
    have gs := gSorted_ints (fr := false) (d := .lst ((M.filter fun n => !decide (some n = o)).map dN)) (xs := numsI (M.filter fun n => !decide (some n = o))) (S := S ++ J) (by rw [dN_ints]; rfl) (by rw [List.length_map, sizeLine_eq]; omega)
    have k1 : ∀ S (xs : List D), gTuple [.lst xs] S = some (.tup xs, S) := fun _ _ => rfl
    have hcut := cut_app (S := S) (X := J) (d := .tup [.str "crowd", .tup ((srt (numsI (M.filter fun n => !decide (some n = o)))).map .int)]) hS (fun x hx => by
      simp only [List.mem_cons, List.not_mem_nil, or_false] at hx
      rcases hx with rfl | rfl
      · trivial
      · exact clI (f := 9))
    simp only [ev_all, ls_all, Nat.reduceAdd, List.length_map, show Sz (M.filter fun n => !decide (some n = o)).length from sz_ok (by omega), gs, k1, hcut]
    exact Ans.crowd M hM
end

/-! ### dict comprehensions -/
section
variable {S : Sto} {ok : Sto → Prop} {g : GF} {tt : TF} {tk tv : EF}
@[simp] theorem ev_dc {f : DF} {L : DS.Loc} : eDc f L S = (f L S).bind fun p => some (.ref p.2.length, p.2 ++ [.dic p.1]) := rfl
theorem ev_dcF {own : List Nat} {it : IF} {L : DS.Loc} : dcF own it g tt tk tv L S = (it L S).bind fun p => dcL p.1.ok g tt tk tv (wipeL L own) p.1.items [] p.2 := rfl
theorem putD_len {κ : Type} [DecidableEq κ] {kvs : List (κ × D)} {k : κ} {v : D} : (putD kvs k v).length ≤ kvs.length + 1 := by
  unfold putD
  split <;> simp
def foldP {α : Type} (kf : α → Int) (vf : α → D) (xs : List α) (acc : List (Key × D)) : List (Key × D) := xs.foldl (fun a x => putD a (Sum.inl (kf x) : Key) (vf x)) acc
theorem foldP_ki {α : Type} {kf : α → Int} {vf : α → D} : ∀ (xs : List α) {acc : List (Key × D)} {ks : List Int}, KI acc ks → KI (foldP kf vf xs acc) ((xs.map kf).foldl addK ks)
  | [], _, _, h => h
  | x :: xs, _, _, h => foldP_ki xs (h.put (kf x) (vf x))
theorem foldP_all {α : Type} {kf : α → Int} {vf : α → D} {Q : D → Prop} : ∀ (xs : List α) {acc : List (Key × D)}, (∀ x, x ∈ xs → Q (vf x)) → (∀ y, y ∈ acc → Q y.2) → ∀ y, y ∈ foldP kf vf xs acc → Q y.2
  | [], _, _, h => h
  | x :: xs, _, hx, h => foldP_all xs (fun y hy => hx y (List.mem_cons_of_mem _ hy)) (put_all h (hx x List.mem_cons_self))
theorem dcL_map {α : Type} (enc : α → D) (p : α → Bool) (kf : α → Int) (vf : α → D) {L0 : DS.Loc} (hok : ok S) : ∀ (xs : List α) (acc : List (Key × D)), (∀ x, x ∈ xs → ∃ L1, g (enc x) L0 S = some L1 ∧ tt L1 S = some (p x, S) ∧ (p x = true → tk L1 S = some (.int (kf x), S) ∧ tv L1 S = some (vf x, S))) →
    acc.length + xs.length ≤ 16000000 → dcL ok g tt tk tv L0 (xs.map enc) acc S = some (foldP kf vf (xs.filter p) acc, S)
  | [], acc, _, _ => by
    show chk _ _ = _
    rw [chk_pos hok]; rfl
  | x :: xs, acc, H, hl => by
    rw [List.length_cons] at hl
    obtain ⟨L1, e1, e2, e3⟩ := H x List.mem_cons_self
    show chk _ _ = _
    rw [chk_pos hok, e1]
    simp only [Option.bind_some, e2]
    cases hp : p x with
    | false =>
      have ih := dcL_map enc p kf vf hok xs acc (fun y hy => H y (List.mem_cons_of_mem _ hy)) (by omega)
      simp only [Bool.false_eq_true, if_false, ih]
      rw [List.filter_cons_of_neg (by simp [hp])]
    | true =>
      obtain ⟨e4, e5⟩ := e3 hp
      have hpl := putD_len (kvs := acc) (k := (Sum.inl (kf x) : Key)) (v := vf x)
      have ih := dcL_map enc p kf vf hok xs (putD acc (Sum.inl (kf x) : Key) (vf x)) (fun y hy => H y (List.mem_cons_of_mem _ hy)) (by omega)
      have hz : acc.length < sizeLine := by have := sizeLine_eq; omega
      simp only [if_true, e4, e5, Option.bind_some]
      rw [List.filter_cons_of_pos hp]
      show (some (Sum.inl (kf x) : Key)).bind _ = _
      rw [Option.bind_some, if_pos hz, ih]
      rfl
theorem dcF_map {α : Type} (xs : List α) (enc : α → D) (p : α → Bool) (kf : α → Int) (vf : α → D) {own : List Nat} {it : IF} {L : DS.Loc} (hit : it L S = some (⟨xs.map enc, ok⟩, S)) (hok : ok S) (hl : xs.length ≤ 16000000)
    (H : ∀ x, x ∈ xs → ∃ L1, g (enc x) (wipeL L own) S = some L1 ∧ tt L1 S = some (p x, S) ∧ (p x = true → tk L1 S = some (.int (kf x), S) ∧ tv L1 S = some (vf x, S))) :
    dcF own it g tt tk tv L S = some (foldP kf vf (xs.filter p) [], S) := by
  rw [ev_dcF, hit, Option.bind_some]
  exact dcL_map enc p kf vf hok xs [] H (by simp; omega)
end
theorem filter_all {α : Type} (xs : List α) : xs.filter (fun _ => true) = xs := List.filter_eq_self.mpr fun _ _ => rfl

/-! ### dict comprehensions, enumerate -/
theorem en_dcA {α : Type} {ok : Sto → Prop} {g : GF} {tk tv : EF} {L0 : DS.Loc} {S : Sto} {Q : List (Key × D) × Sto → Prop} (enc : α → D) (kf : α → Int) (vf : α → D) (xs : List α) (hok : ok S) (hl : xs.length ≤ 16000000)
    (H : ∀ x, x ∈ xs → En (g (enc x) L0 S) fun L1 => En (tk L1 S) fun y => y = (.int (kf x), S) ∧ En (tv L1 S) fun z => z = (vf x, S)) (hq : Q (foldP kf vf xs [], S)) : En (dcL ok g bYes tk tv L0 (xs.map enc) [] S) Q := by
  refine ⟨_, ?_, hq⟩
  have := dcL_map (ok := ok) (g := g) (tt := bYes) (tk := tk) (tv := tv) enc (fun _ => true) kf vf (L0 := L0) (S := S) hok xs [] (fun x hx => by
    obtain ⟨L1, e1, y, e2, rfl, q⟩ := H x hx
    exact ⟨L1, e1, rfl, fun _ => ⟨e2, q.val⟩⟩) (by simp; omega)
  rwa [filter_all] at this

section
variable {S : Sto} {hi : Int → Option Int} {R : D} {ks : List Nat} {bs : List Bd} {V : List Int} {st : List (List Int)} {m : Nat}
theorem putD_fresh {κ : Type} [DecidableEq κ] {kvs : List (κ × D)} {k : κ} {v : D} (h : k ∉ kvs.map (·.1)) : putD kvs k v = kvs ++ [(k, v)] := by
  unfold putD
  rw [if_neg]
  intro q
  obtain ⟨x, hx, e⟩ := List.any_eq_true.mp q
  rw [decide_eq_true_eq] at e
  exact h (List.mem_map.mpr ⟨x, hx, e⟩)
theorem foldP_app {α : Type} {kf : α → Int} {vf : α → D} : ∀ (xs : List α) (acc : List (Key × D)), (xs.map kf).Nodup → (∀ x, x ∈ xs → (Sum.inl (kf x) : Key) ∉ acc.map (·.1)) → foldP kf vf xs acc = acc ++ xs.map fun x => ((Sum.inl (kf x) : Key), vf x)
  | [], acc, _, _ => by simp [foldP]
  | x :: xs, acc, hn, h => by
    have hn' : kf x ∉ xs.map kf ∧ (xs.map kf).Nodup := List.nodup_cons.mp hn
    show foldP kf vf xs (putD acc (Sum.inl (kf x)) (vf x)) = _
    rw [putD_fresh (h x List.mem_cons_self), foldP_app xs _ hn'.2 fun y hy q => ?_]
    · simp
    · rw [List.map_append] at q
      rcases List.mem_append.mp q with q | q
      · exact h y (List.mem_cons_of_mem _ hy) q
      · have : (Sum.inl (kf y) : Key) = Sum.inl (kf x) := by simpa using q
        exact hn'.1 (List.mem_map.mpr ⟨y, hy, Sum.inl.inj this⟩)
theorem foldP_dom (dom : Nat → List Int) (hks : ks.Nodup) : foldP (fun n : Nat => (n : Int)) (fun n => dT (dom n)) ks [] = domK dom ks := by
  rw [foldP_app ks [] ?_ (by simp)]
  · rw [List.nil_append, show domK dom ks = (ks.map fun n => (n, dom n)).map (kvE dV) from rfl, List.map_map]
    rfl
  · unfold List.Nodup
    rw [List.pairwise_map]
    exact hks.imp fun q e => q (by omega)
structure StV (m : Nat) (st : List (List Int)) : Prop where
  len : st.length = m
theorem StV.at (h : StV m st) {n : Nat} (hn : n < m) : st[n]? = some (st.getD n []) := by rw [List.getD_eq_getElem?_getD, List.getElem?_eq_getElem (by rw [h.len]; exact hn)]; rfl
def domS (st : List (List Int)) (n : Nat) : List Int := st.getD n []
def domW (st : List (List Int)) (n0 : Nat) (v : Int) (n : Nat) : List Int := if n = n0 then [v] else st.getD n []
theorem jk_dom {dom : Nat → List Int} : ClO 0 (.dic (domK dom ks)) := fun x hx => by
  obtain ⟨y, hy, rfl⟩ := List.mem_map.mp hx
  obtain ⟨n, _, rfl⟩ := List.mem_map.mp hy
  exact clT (f := 10)
theorem crowd_none_eq (hlot : ∀ S, ClS S → F_lot_of [R] S = some (.tud (ks.map dN), S)) (hs : StV m st) (hn : ∀ n, n ∈ ks → n < m) (hR : HiOk R hi) (hi0 : ∀ v h, hi v = some h → 0 ≤ h) (hB : BdOk R bs) (hH : ∀ w h, hi w = some h → (lowOf bs w : Int) ≤ h) (hS : ClS S) (hks : ks.Nodup) (hkl : ks.length ≤ 50) (hV : ∀ n, n ∈ ks → ∀ v, v ∈ domS st n → v ∈ V) (hVl : V.length ≤ 1000) :
    En (F_crowd_none [dS st, R] S) fun p => p.2 = S ∧ Ans (domS st) hi bs ks none p.1 := by
  have h0 := hlot S hS
  refine en_fn rfl ?_
  simp only [B_crowd_none, ev_all, ls_all, Nat.reduceSub, Nat.reduceAdd, h0]
  refine en_dcA dN (fun n : Nat => (n : Int)) (fun n => dT (domS st n)) ks trivial (by omega) (fun n hnk => ?_) ?_
  · simp only [ev_all, ls_all, Nat.reduceAdd, List.getElem?_map, hs.at (hn n hnk)]
    rfl
  rw [foldP_dom (domS st) hks]
  have hcl : ClS (S ++ [.dic (domK (domS st) ks)]) := clS_app hS (jk_one jk_dom)
  obtain ⟨⟨d, S2⟩, e1, hS2, hA⟩ := answered_eq (S := S ++ [.dic (domK (domS st) ks)]) (dm := S.length) hR hi0 hB hH hcl (by simp) hks hkl hV hVl none
  simp only at hS2 hA
  subst hS2
  have hcut : cutR S.length d (S ++ [.dic (domK (domS st) ks)]) = some (d, S) := cut_app hS (by
    cases hA with
    | row row h =>
      intro x hx
      simp only [List.mem_cons, List.not_mem_nil, or_false] at hx
      rcases hx with rfl | rfl
      · trivial
      · exact clI (f := 9)
    | crowd M h =>
      intro x hx
      simp only [List.mem_cons, List.not_mem_nil, or_false] at hx
      rcases hx with rfl | rfl
      · trivial
      · exact clI (f := 9)
    | want W h =>
      intro x hx
      simp only [List.mem_cons, List.not_mem_nil, or_false] at hx
      rcases hx with rfl | rfl
      · trivial
      · exact clI (f := 9))
  simp only [nmD] at e1
  simp only [ev_all, ls_all, Nat.reduceAdd, e1, hcut]
  exact hA
theorem crowd_paper_eq (hlot : ∀ S, ClS S → F_lot_of [R] S = some (.tud (ks.map dN), S)) (hs : StV m st) (hn : ∀ n, n ∈ ks → n < m) (hR : HiOk R hi) (hi0 : ∀ v h, hi v = some h → 0 ≤ h) (hB : BdOk R bs) (hH : ∀ w h, hi w = some h → (lowOf bs w : Int) ≤ h) (hS : ClS S) (hks : ks.Nodup) (hkl : ks.length ≤ 50) {n0 : Nat} {v : Int} (hV : ∀ n, n ∈ ks → ∀ w, w ∈ domW st n0 v n → w ∈ V) (hVl : V.length ≤ 1000) :
    En (F_crowd_paper [dS st, R, .int n0, .int v] S) fun p => p.2 = S ∧ Ans (domW st n0 v) hi bs ks (some n0) p.1 := by
  have h0 := hlot S hS
  refine en_fn rfl ?_
  simp only [B_crowd_paper, ev_all, ls_all, Nat.reduceSub, Nat.reduceAdd, h0]
  refine en_dcA dN (fun n : Nat => (n : Int)) (fun n => dT (domW st n0 v n)) ks trivial (by omega) (fun n hnk => ?_) ?_
  · have c : gNe (dN n) (dN n0) S = some (.bl (!decide (n = n0)), S) := gNe2 Eq2.nat (by decide) n n0
    unfold domW
    simp only [ev_if, ev_all, ls_all, Nat.reduceAdd, c]
    by_cases q : n = n0
    · simp only [q, decide_true, Bool.not_true, ev_all, ls_all]
      rfl
    · simp only [q, decide_false, Bool.not_false, ev_all, ls_all, List.getElem?_map, hs.at (hn n hnk)]
  rw [foldP_dom (domW st n0 v) hks]
  have hcl : ClS (S ++ [.dic (domK (domW st n0 v) ks)]) := clS_app hS (jk_one jk_dom)
  obtain ⟨⟨d, S2⟩, e1, hS2, hA⟩ := answered_eq (S := S ++ [.dic (domK (domW st n0 v) ks)]) (dm := S.length) hR hi0 hB hH hcl (by simp) hks hkl hV hVl (some n0)
  simp only at hS2 hA
  subst hS2
  have hcut : cutR S.length d (S ++ [.dic (domK (domW st n0 v) ks)]) = some (d, S) := cut_app hS (by
    cases hA with
    | row row h =>
      intro x hx
      simp only [List.mem_cons, List.not_mem_nil, or_false] at hx
      rcases hx with rfl | rfl
      · trivial
      · exact clI (f := 9)
    | crowd M h =>
      intro x hx
      simp only [List.mem_cons, List.not_mem_nil, or_false] at hx
      rcases hx with rfl | rfl
      · trivial
      · exact clI (f := 9)
    | want W h =>
      intro x hx
      simp only [List.mem_cons, List.not_mem_nil, or_false] at hx
      rcases hx with rfl | rfl
      · trivial
      · exact clI (f := 9))
  simp only [nmD] at e1
  simp only [ev_all, ls_all, Nat.reduceAdd, e1, hcut]
  exact hA
end

/-! ### what a row is, and why papers leave none -/
section
variable {dom : Nat → List Int} {hi : Int → Option Int} {bs : List Bd} {ks : List Nat} {row : List Int}
/-- a row along the names -/
structure IsRow (dom : Nat → List Int) (hi : Int → Option Int) (bs : List Bd) (ks : List Nat) (row : List Int) : Prop where
  len : row.length = ks.length
  dm : ∀ p, p ∈ ks.zip row → p.2 ∈ dom p.1
  up : ∀ v h, hi v = some h → (row.count v : Int) ≤ h
  lo : ∀ w, lowOf bs w ≤ row.count w
theorem cnt_row (P : Pl) (w : Int) : cntP P w = (P.map (·.2)).count w := by
  unfold cntP
  rw [List.count, List.countP_map]
  congr 1
theorem zip_fst : ∀ {ks : List Nat} {row : List Int}, row.length = ks.length → (ks.zip row).map (·.1) = ks ∧ (ks.zip row).map (·.2) = row
  | [], [], _ => ⟨rfl, rfl⟩
  | [], _ :: _, h => by simp at h
  | _ :: _, [], h => by simp at h
  | k :: ks, v :: row, h => by
    obtain ⟨h1, h2⟩ := zip_fst (ks := ks) (row := row) (by simpa using h)
    exact ⟨by simp [h1], by simp [h2]⟩
theorem row_is (h : RowIs dom hi bs ks row) : IsRow dom hi bs ks row := by
  obtain ⟨Q, hQ, rfl⟩ := h.q
  have hz : ks.zip (Q.map (·.2)) = Q := by
    rw [← hQ.ks]
    show (Q.map (·.1)).zip (Q.map (·.2)) = Q
    rw [List.zip_map']
    exact List.map_id _
  refine ⟨by rw [← hQ.ks]; simp [keysP], fun p hp => ?_, fun v b hv => ?_, fun w => ?_⟩
  · rw [hz] at hp
    exact hQ.pl.dm p hp
  · rw [← cnt_row]
    exact hQ.pl.up v b hv
  · rw [← cnt_row]
    by_cases q : w ∈ bs.map (·.1)
    · exact hQ.lo w q
    · rw [lowOf_none q]
      exact Nat.zero_le _
theorem cs_hsum {P : Pl} : ∀ (seen : List Int), (∀ v, v ∈ seen → ∃ h, hi v = some h) → (∀ v h, hi v = some h → (cntP P v : Int) ≤ h) → (cs P seen : Int) ≤ hsum hi seen
  | [], _, _ => by simp [cs, hsum]
  | v :: seen, h1, h2 => by
    have ih := cs_hsum seen (fun w hw => h1 w (List.mem_cons_of_mem _ hw)) h2
    obtain ⟨b, hb⟩ := h1 v List.mem_cons_self
    have := h2 v b hb
    unfold cs hsum at ih ⊢
    rw [List.map_cons, List.sum_cons, List.map_cons, List.sum_cons, hb]
    show _ ≤ b + _
    push_cast
    omega
theorem crowd_no (hc : Crowd dom hi ks M) (hks : ks.Nodup) : ¬ IsRow dom hi bs ks row := fun r => by
  obtain ⟨seen, hn, hs, hh, hlt⟩ := hc.few
  obtain ⟨z1, z2⟩ := zip_fst r.len
  have h1 : M.length ≤ (((ks.zip row).filter fun p => decide (p.2 ∈ seen)).map (·.1)).length := nodup_le hc.nd fun n hnM => by
    have hk := hc.sub n hnM
    rw [← z1] at hk
    obtain ⟨p, hp, rfl⟩ := List.mem_map.mp hk
    exact List.mem_map.mpr ⟨p, List.mem_filter.mpr ⟨hp, by simpa using hs p.1 hnM p.2 (r.dm p hp)⟩, rfl⟩
  rw [List.length_map, cs_filter hn] at h1
  have h2 := cs_hsum (P := ks.zip row) seen hh fun v b hv => by
    rw [cnt_row, z2]
    exact r.up v b hv
  omega
theorem sum_le {W : List Int} {f g : Int → Nat} (h : ∀ w, f w ≤ g w) : (W.map f).sum ≤ (W.map g).sum := by
  induction W with
  | nil => exact Nat.le_refl _
  | cons x W ih =>
    rw [List.map_cons, List.sum_cons, List.map_cons, List.sum_cons]
    have := h x
    omega
theorem want_no {W : List Int} (hw : Want dom bs ks W) (hks : ks.Nodup) : ¬ IsRow dom hi bs ks row := fun r => by
  have hnd : W.Nodup := hw.asc.imp fun q => Int.ne_of_lt q
  obtain ⟨z1, z2⟩ := zip_fst r.len
  have hkz : ((ks.zip row).map (·.1)).Nodup := by rw [z1]; exact hks
  have h1 : (((ks.zip row).filter fun p => decide (p.2 ∈ W)).map (·.1)).length ≤ (ks.filter (hitW dom W)).length := nodup_le (hkz.sublist (List.filter_sublist.map _)) fun n hn => by
    obtain ⟨p, hp, rfl⟩ := List.mem_map.mp hn
    rw [List.mem_filter, decide_eq_true_eq] at hp
    refine List.mem_filter.mpr ⟨?_, List.any_eq_true.mpr ⟨p.2, hp.2, by simpa using r.dm p hp.1⟩⟩
    rw [← z1]
    exact List.mem_map_of_mem hp.1
  rw [List.length_map, cs_filter hnd] at h1
  have h2 := sum_le (W := W) (f := lowOf bs) (g := cntP (ks.zip row)) fun w => by rw [cnt_row, z2]; exact r.lo w
  have h3 := hw.few
  unfold cs at h1
  omega
end

/-! ### the two kinds of rules -/
theorem okw2 : PyData.strOk ("unlike" : Str) = true ∧ PyData.strOk ("counts" : Str) = true ∧ PyData.strOk ("row" : Str) = true ∧ PyData.strOk ("crowd" : Str) = true ∧ PyData.strOk ("want" : Str) = true := by decide +kernel
section
variable {S : Sto} {ks : List Nat} {bs : List Bd}
theorem w_uu : gEq (.str "unlike") (.str "unlike") S = some (.bl true, S) := by
  rw [gEq_s okw2.1 okw2.1, show decide (("unlike" : Str) = "unlike") = true by decide]
theorem w_cu : gEq (.str "counts") (.str "unlike") S = some (.bl false, S) := by
  rw [gEq_s okw2.2.1 okw2.1, show decide (("counts" : Str) = "unlike") = false by decide]
theorem w_uc : gEq (.str "unlike") (.str "counts") S = some (.bl false, S) := by
  rw [gEq_s okw2.1 okw2.2.1, show decide (("unlike" : Str) = "counts") = false by decide]
theorem w_cc : gEq (.str "counts") (.str "counts") S = some (.bl true, S) := by
  rw [gEq_s okw2.2.1 okw2.2.1, show decide (("counts" : Str) = "counts") = true by decide]
abbrev dB (b : Bd) : D := .tup [.int b.1, .int b.2.1, .int b.2.2]
abbrev ruU (ks : List Nat) : D := .tup [.str "unlike", .tud (ks.map dN)]
abbrev ruC (ks : List Nat) (bs : List Bd) : D := .tup [.str "counts", .tud (ks.map dN), .tup (bs.map dB)]
structure BsOk (bs : List Bd) : Prop where
  nd : (bs.map (·.1)).Nodup
  nn : ∀ b, b ∈ bs → 0 ≤ b.2.1 ∧ b.2.1 ≤ b.2.2 ∧ b.2.1 ≤ 1000
  few : bs.length ≤ 50
def hiC (bs : List Bd) (v : Int) : Option Int := (bs.find? fun b => decide (b.1 = v)).map (·.2.2)
theorem lot_any {w : D} {rest : List D} (ha : ks.Pairwise (· < ·)) (hl : ks.length ≤ 50) (hS : ClS S) : F_lot_of [.tup (w :: .tud (ks.map dN) :: rest)] S = some (.tud (ks.map dN), S) := by
  have hs : srt (numsI ks) = numsI ks := srt_id (by
    rw [List.pairwise_map]
    exact ha.imp fun q => by omega)
  have e1 := gSorted_ints (fr := false) (d := .tud (ks.map dN)) (xs := numsI ks) (S := S) (by rw [dN_ints]; rfl) (by rw [List.length_map, sizeLine_eq]; omega)
  rw [hs, ← dN_ints] at e1
  have hcut := cut_id (d := .tud (ks.map dN)) hS (clN (f := 10))
  have e2 : gTupleD [.lst (ks.map dN)] S = some (.tud (ks.map dN), S) := rfl
  rw [en_val]
  refine en_fn rfl ?_
  simp only [B_lot_of, ev_all, ls_all, Nat.reduceSub, e1, e2, hcut]
theorem told_U (hS : ClS S) : F_told_bounds [ruU ks] S = some (.ref S.length, S ++ [.dic []]) := by
  rw [en_val]
  refine en_fn rfl ?_
  simp only [B_told_bounds, ev_all, ls_all, Nat.reduceSub]
  rw [en_sif]
  simp only [ev_all, ls_all, w_uu]
theorem foldB (hn : (bs.map (·.1)).Nodup) : foldP (fun b : Bd => b.1) (fun b => .tup [.int b.2.1, .int b.2.2]) bs [] = bs.map kvB := by
  rw [foldP_app bs [] hn (by simp)]
  rfl
theorem told_C (hB : BsOk bs) (hS : ClS S) : F_told_bounds [ruC ks bs] S = some (.ref S.length, S ++ [.dic (bs.map kvB)]) := by
  have hbl := hB.few
  rw [en_val]
  refine en_fn rfl ?_
  simp only [B_told_bounds, ev_all, ls_all, Nat.reduceSub]
  rw [en_sif]
  simp only [ev_all, ls_all, w_cu]
  refine en_dcA dB (fun b : Bd => b.1) (fun b => .tup [.int b.2.1, .int b.2.2]) bs trivial (by omega) (fun b _ => ?_) ?_
  · simp only [ev_all, ls_all, Nat.reduceAdd]
  · rw [foldB hB.nd]
theorem bdU : BdOk (ruU ks) [] := ⟨fun S hS => told_U hS, by simp, by simp, by simp⟩
theorem bdC (hB : BsOk bs) : BdOk (ruC ks bs) bs := ⟨fun S hS => told_C hB hS, hB.nd, hB.nn, hB.few⟩
theorem hiU : HiOk (ruU ks) fun _ => some 1 := ⟨fun S hS v => by
  have hcut := cut_id (d := .int 1) hS trivial
  rw [en_val]
  refine en_fn rfl ?_
  simp only [B_high_of, ev_all, ls_all, Nat.reduceSub]
  rw [en_sif]
  simp only [ev_all, ls_all, w_uu, hcut]
  rfl⟩
theorem valB_find : ∀ {bs : List Bd} {v : Int}, valD (bs.map kvB) (Sum.inl v : Key) = (bs.find? fun b => decide (b.1 = v)).map fun b => .tup [.int b.2.1, .int b.2.2]
  | [], _ => rfl
  | b :: bs, v => by
    have ih := valB_find (bs := bs) (v := v)
    unfold valD at ih ⊢
    rw [List.map_cons, List.find?_cons, List.find?_cons]
    by_cases h : b.1 = v
    · have hk : decide ((kvB b).1 = (Sum.inl v : Key)) = true := by rw [← h]; simp [kvB]
      rw [hk, decide_eq_true h]
      rfl
    · have hk : decide ((kvB b).1 = (Sum.inl v : Key)) = false := by
        rw [decide_eq_false_iff_not]
        exact fun q => h (Sum.inl.inj q)
      rw [hk, decide_eq_false h]
      exact ih
theorem ev_dget {fo fk fx : EF} {L : DS.Loc} {S : Sto} : eDGet fo fk fx L S = (fo L S).bind fun p => match p.1 with
  | .ref k => if isDic p.2 k = true then (fk L p.2).bind fun q => (fx L q.2).bind fun r => (DS.dictGet r.2 k q.1).map fun o => (o.getD r.1, r.2) else none
  | _ => none := rfl
theorem hiC_ok (hB : BsOk bs) : HiOk (ruC ks bs) (hiC bs) := ⟨fun S hS v => by
  have e1 := told_C (ks := ks) hB hS
  have k1 : isDic (S ++ [.dic (bs.map kvB)]) S.length = true := by unfold isDic; simp
  have k2 : DS.dictGet (S ++ [.dic (bs.map kvB)]) S.length (.int v) = some (valD (bs.map kvB) (Sum.inl v : Key)) := by
    unfold DS.dictGet
    simp
    exact ⟨_, rfl, rfl⟩
  rw [en_val]
  refine en_fn rfl ?_
  simp only [B_high_of, ev_all, ls_all, Nat.reduceSub]
  rw [en_sif]
  simp only [ev_dget, ev_all, ls_all, w_cu, e1, k1, k2, valB_find]
  unfold hiC
  cases hf : bs.find? fun b => decide (b.1 = v) with
  | none =>
    have hcut := cut_app (S := S) (X := [.dic (bs.map kvB)]) (d := .non) hS trivial
    simp only [Option.map_none, Option.getD_none, ev_all, ls_all, hcut]
    exact ⟨sz_ok (by decide), rfl⟩
  | some b =>
    have hcut := cut_app (S := S) (X := [.dic (bs.map kvB)]) (d := .int b.2.2) hS trivial
    simp only [Option.map_some, Option.getD_some, ev_all, ls_all, hcut]
    exact ⟨sz_ok (by decide), rfl⟩⟩
end

section
variable {S : Sto} {ks : List Nat} {bs : List Bd}
/-! ### lows and highs by the law -/
def highV (hi : Int → Option Int) (v : Int) : Int := (hi v).getD 1000000000
theorem lowL_U (hS : ClS S) (v : Int) : F__law_low [ruU ks, .int v] S = some (.int (lowOf [] v : Nat), S) := by
  have hcut := cut_id (d := .int 0) hS trivial
  rw [en_val]
  refine en_fn rfl ?_
  simp only [B__law_low, ev_if, ev_all, ls_all, Nat.reduceSub, w_uc, hcut]
  rfl
theorem sum_low : ∀ {bs : List Bd} {v : Int}, (∀ b, b ∈ bs → 0 ≤ b.2.1) → ((bs.filter fun b => decide (b.1 = v)).map fun b => b.2.1).sum = (lowOf bs v : Nat)
  | [], _, _ => rfl
  | b :: bs, v, h => by
    have ih := sum_low (v := v) fun c hc => h c (List.mem_cons_of_mem _ hc)
    have h0 := h b List.mem_cons_self
    unfold lowOf at ih ⊢
    rw [List.filter_cons]
    by_cases q : b.1 = v
    · simp only [q, decide_true, if_true, List.map_cons, List.sum_cons]
      rw [ih]
      push_cast
      omega
    · simp only [q, decide_false, Bool.false_eq_true, if_false]
      exact ih
theorem lowL_C (hB : BsOk bs) (hS : ClS S) (v : Int) : F__law_low [ruC ks bs, .int v] S = some (.int (lowOf bs v : Nat), S) := by
  have hbl := hB.few
  have hcut := cut_id (d := .int (lowOf bs v : Nat)) hS trivial
  rw [en_val]
  refine en_fn rfl ?_
  simp only [B__law_low, ev_if, ev_all, ls_all, Nat.reduceSub, w_cc]
  refine en_lcM dB (fun b => decide (b.1 = v)) (fun b => .int b.2.1) bs trivial (fun b _ => ?_) ?_
  · simp only [ev_all, ls_all, Nat.reduceAdd]
  have hfl := List.length_filter_le (fun b : Bd => decide (b.1 = v)) bs
  have em : (bs.filter fun b => decide (b.1 = v)).map (fun b => D.int b.2.1) = ((bs.filter fun b => decide (b.1 = v)).map fun b => b.2.1).map D.int := by rw [List.map_map]; rfl
  rw [em]
  have gs := gSum_l (xs := (bs.filter fun b => decide (b.1 = v)).map fun b => b.2.1) (S := S)
  rw [sum_low fun b hb => (hB.nn b hb).1] at gs
  simp only [ev_all, ls_all, Nat.reduceAdd, List.length_map, show Sz (bs.filter fun b => decide (b.1 = v)).length from sz_ok (by omega), gs, hcut]
theorem highL_U (hS : ClS S) (v : Int) : F__law_high [ruU ks, .int v] S = some (.int (highV (fun _ => some 1) v), S) := by
  have hcut := cut_id (d := .int 1) hS trivial
  rw [en_val]
  refine en_fn rfl ?_
  simp only [B__law_high, ev_all, ls_all, Nat.reduceSub]
  rw [en_sif]
  simp only [ev_all, ls_all, w_uu, hcut]
  rfl
theorem highL_C (hB : BsOk bs) (hS : ClS S) (v : Int) : F__law_high [ruC ks bs, .int v] S = some (.int (highV (hiC bs) v), S) := by
  have hbl := hB.few
  have hcut := cut_id (d := .int (highV (hiC bs) v)) hS trivial
  have kp : gPow (.int 10) (.int 9) S = some (.int 1000000000, S) := by
    show chk _ _ = _
    rw [chk_pos (show CPow 10 9 from ⟨by decide, by decide, by decide⟩)]
    rfl
  rw [en_val]
  refine en_fn rfl ?_
  simp only [B__law_high, ev_all, ls_all, Nat.reduceSub]
  rw [en_sif]
  simp only [ev_all, ls_all, w_cu]
  refine en_lcM dB (fun b => decide (b.1 = v)) (fun b => .int b.2.2) bs trivial (fun b _ => ?_) ?_
  · simp only [ev_all, ls_all, Nat.reduceAdd]
  have hfl := List.length_filter_le (fun b : Bd => decide (b.1 = v)) bs
  have hh : (bs.filter fun b => decide (b.1 = v)).head? = bs.find? fun b => decide (b.1 = v) := List.head?_filter
  have en : ∀ xs : List Bd, gNe (.lst (xs.map fun b => D.int b.2.2)) (.lst []) S = some (.bl (!(xs.map fun b => D.int b.2.2).isEmpty), S) := fun xs => gNe_nil (f := 2) (fun x hx => by
    obtain ⟨p, _, rfl⟩ := List.mem_map.mp hx
    exact pn_int) (by decide)
  unfold highV hiC at hcut ⊢
  rw [← hh] at hcut ⊢
  cases hf : bs.filter fun b => decide (b.1 = v) with
  | nil =>
    rw [hf] at hcut
    have e2 := en []
    simp only [List.map_nil, List.head?_nil, Option.map_none, Option.getD_none] at hcut e2 ⊢
    simp only [ev_if, ev_all, ls_all, Nat.reduceAdd, e2, List.isEmpty_nil, Bool.not_true, kp, hcut]
  | cons b rest =>
    rw [hf] at hcut hfl
    have e2 := en (b :: rest)
    simp only [List.map_cons, List.head?_cons, Option.map_some, Option.getD_some, List.length_cons] at hcut e2 hfl ⊢
    simp only [ev_if, ev_all, ls_all, Nat.reduceAdd, e2, List.isEmpty_cons, Bool.not_false, hcut]
    exact sz_ok (by simp only [List.length_map]; omega)
end

section
variable {S : Sto} {ks : List Nat} {st : List (List Int)} {m : Nat}
/-! ### all values that some names have -/
def newV (acc vs : List Int) : List Int := vs.filter fun v => !decide (v ∈ acc)
def valsF (st : List (List Int)) (ns : List Nat) : List Int := ns.foldl (fun acc n => acc ++ newV acc (st.getD n [])) []
theorem valsF_snoc {pre : List Nat} {n : Nat} : valsF st (pre ++ [n]) = valsF st pre ++ newV (valsF st pre) (st.getD n []) := by
  unfold valsF
  rw [List.foldl_append]
  rfl
structure StW (m : Nat) (st : List (List Int)) : Prop where
  len : st.length = m
  srt : ∀ vs, vs ∈ st → vs.Pairwise (· < ·)
  few : ∀ vs, vs ∈ st → vs.length ≤ 10
  m8 : m ≤ 8
theorem StW.v (h : StW m st) : StV m st := ⟨h.len⟩
theorem StW.nd (h : StW m st) (n : Nat) : (st.getD n []).Nodup ∧ (st.getD n []).length ≤ 10 := by
  rw [List.getD_eq_getElem?_getD]
  cases q : st[n]? with
  | none => exact ⟨by simp, by simp⟩
  | some vs => exact ⟨(h.srt vs (List.mem_of_getElem? q)).imp fun q => Int.ne_of_lt q, h.few vs (List.mem_of_getElem? q)⟩
theorem valsF_gen (h : StW m st) : ∀ (ns : List Nat) (acc : List Int), acc.Nodup → (ns.foldl (fun acc n => acc ++ newV acc (st.getD n [])) acc).Nodup ∧ (ns.foldl (fun acc n => acc ++ newV acc (st.getD n [])) acc).length ≤ acc.length + 10 * ns.length ∧ ∀ v, v ∈ ns.foldl (fun acc n => acc ++ newV acc (st.getD n [])) acc ↔ v ∈ acc ∨ ∃ n, n ∈ ns ∧ v ∈ st.getD n []
  | [], acc, ha => ⟨ha, by simp, by simp⟩
  | n :: ns, acc, ha => by
    have hmem : ∀ v, v ∈ acc ++ newV acc (st.getD n []) ↔ v ∈ acc ∨ v ∈ st.getD n [] := fun v => by
      unfold newV
      rw [List.mem_append, List.mem_filter, Bool.not_eq_true', decide_eq_false_iff_not]
      by_cases q : v ∈ acc <;> simp [q]
    have hnd : (acc ++ newV acc (st.getD n [])).Nodup := by
      rw [List.nodup_append]
      refine ⟨ha, (h.nd n).1.sublist List.filter_sublist, fun x hx y hy e => ?_⟩
      unfold newV at hy
      rw [List.mem_filter, Bool.not_eq_true', decide_eq_false_iff_not] at hy
      exact hy.2 (e ▸ hx)
    have hl := (h.nd n).2
    have hfl := List.length_filter_le (fun v => !decide (v ∈ acc)) (st.getD n [])
    obtain ⟨h1, h2, h3⟩ := valsF_gen h ns _ hnd
    refine ⟨h1, ?_, fun v => ?_⟩
    · refine Nat.le_trans h2 ?_
      rw [List.length_append, List.length_cons]
      unfold newV
      omega
    · rw [List.foldl_cons, h3, hmem]
      simp only [List.mem_cons, exists_eq_or_imp, or_assoc]
theorem valsF_ok (h : StW m st) (ns : List Nat) : (valsF st ns).Nodup ∧ (valsF st ns).length ≤ 10 * ns.length ∧ ∀ v, v ∈ valsF st ns ↔ ∃ n, n ∈ ns ∧ v ∈ st.getD n [] := by
  have := valsF_gen h ns [] (by simp)
  simpa [valsF] using this
theorem values_eq (h : StW m st) {L : D} {ns : List Nat} (hL : ∀ S, seqD S L = some ⟨ns.map dN, fun _ => True⟩) (hn : ∀ n, n ∈ ns → n < m) (hl : ns.length ≤ 50) (hS : ClS S) : F__law_values [dS st, L] S = some (.lst ((srt (valsF st ns)).map .int), S) := by
  obtain ⟨hnd, hlen, hmem⟩ := valsF_ok h ns
  have gs := gSorted_ints (fr := false) (d := .lst ((valsF st ns).map .int)) (xs := valsF st ns) (S := S) rfl (by rw [sizeLine_eq]; omega)
  have hcut := cut_id (d := .lst ((srt (valsF st ns)).map .int)) hS (clI (f := 10))
  rw [en_val]
  refine en_fn rfl ?_
  simp only [B__law_values, ev_all, ls_all, Nat.reduceSub, hL]
  refine en_forT dN (fun pre L' S' => L' = [some (dS st), some L, some (.lst ((valsF st pre).map .int)), none, none] ∧ S' = S) ns ⟨rfl, rfl⟩ ?_ ?_
  · rintro pre n post L' S' hsp ⟨rfl, rfl⟩
    have hpl : pre.length ≤ 50 := by
      have := congrArg List.length hsp
      simp at this
      omega
    have hvl := (valsF_ok h pre).2.1
    have hnl := (h.nd n).2
    have hfl := List.length_filter_le (fun v => !decide (v ∈ valsF st pre)) (st.getD n [])
    refine ⟨trivial, ?_⟩
    simp only [ev_all, ls_all, Nat.reduceAdd, List.getElem?_map, h.v.at (hn n (by rw [hsp]; simp))]
    refine en_lcM D.int (fun v => !decide (v ∈ valsF st pre)) D.int (st.getD n []) trivial (fun v _ => ?_) ?_
    · have ei := in_lE (neg := true) Eq2.int (show 1 ≤ 63 by decide) v (valsF st pre) (S := S')
      rw [Bool.true_xor] at ei
      simp only [ev_all, ls_all, Nat.reduceAdd, ei]
    have ga := gAdd_l (xs := (valsF st pre).map D.int) (ys := (newV (valsF st pre) (st.getD n [])).map D.int) (S := S') (by simp only [List.length_map, newV]; omega)
    rw [← List.map_append, ← valsF_snoc] at ga
    rw [show (st.getD n []).filter (fun v => !decide (v ∈ valsF st pre)) = newV (valsF st pre) (st.getD n []) from rfl]
    simp only [ev_all, ls_all, Nat.reduceAdd, List.length_map, show Sz (newV (valsF st pre) (st.getD n [])).length from sz_ok (by unfold newV; omega), ga]
  · rintro L' S' ⟨rfl, rfl⟩
    refine ⟨trivial, ?_⟩
    simp only [ev_all, ls_all, Nat.reduceAdd, gs, hcut]
end

section
variable {S : Sto} {ks : List Nat} {st : List (List Int)} {m : Nat} {R : D} {hi : Int → Option Int} {bs : List Bd}
/-! ### crowds by the law -/
def hsV (hi : Int → Option Int) (xs : List Int) : Int := (xs.map (highV hi)).sum
def oI : Option Int → D
  | none => .non
  | some v => .int v
def crowdB (st : List (List Int)) (hi : Int → Option Int) (ns : List Nat) (o : Option Int) : Bool :=
  decide (hsV hi (srt (valsF st ns)) < ns.length) || match o with
    | none => false
    | some v => decide (hsV hi (srt (valsF st ns) ++ if v ∈ srt (valsF st ns) then [] else [v]) ≤ ns.length)
theorem is_crowd_eq (h : StW m st) (hh : ∀ S, ClS S → ∀ v, F__law_high [R, .int v] S = some (.int (highV hi v), S)) {ns : List Nat} (hn : ∀ n, n ∈ ns → n < m) (hl : ns.length ≤ 50) (hS : ClS S) (o : Option Int) :
    F__law_is_crowd [dS st, R, .tup (ns.map dN), oI o] S = some (.bl (crowdB st hi ns o), S) := by
  have e1 := values_eq h (L := .tup (ns.map dN)) (ns := ns) (fun _ => rfl) hn hl hS
  have hvl := (valsF_ok h ns).2.1
  have hsl : (srt (valsF st ns)).length ≤ 500 := by rw [srt_len]; omega
  have hcutN : ∀ b : Bool, cutR S.length (.bl b) S = some (.bl b, S) := fun b => cut_id hS trivial
  unfold crowdB
  generalize srt (valsF st ns) = vs at e1 hsl
  rw [en_val]
  refine en_fn rfl ?_
  simp only [B__law_is_crowd, ev_all, ls_all, Nat.reduceSub, Nat.reduceAdd, e1]
  rw [en_sif]
  simp only [ev_all, ls_all, Nat.reduceAdd]
  refine en_lcA D.int (fun v => .int (highV hi v)) vs trivial (fun v _ => ?_) ?_
  · simp only [ev_all, ls_all, Nat.reduceAdd, hh S hS v]
  have em : ∀ xs : List Int, xs.map (fun v => D.int (highV hi v)) = (xs.map (highV hi)).map D.int := fun xs => by rw [List.map_map]; rfl
  have gs : ∀ xs : List Int, gSum [.lst ((xs.map (highV hi)).map D.int)] S = some (.int (hsV hi xs), S) := fun xs => gSum_l
  rw [em]
  simp only [ev_all, ls_all, Nat.reduceAdd, List.length_map, show Sz vs.length from sz_ok (by omega), gs]
  by_cases q : hsV hi vs < (ns.length : Int)
  · simp only [q, decide_true, ev_all, ls_all, hcutN, Bool.true_or]
  · simp only [q, decide_false, ev_all, ls_all, Bool.false_or]
    rw [en_sif]
    cases o with
    | none =>
      have g1 : gIsN (oI none) .non S = some (.bl true, S) := rfl
      simp only [ev_all, ls_all, Nat.reduceAdd, g1, hcutN]
    | some v =>
      have g1 : gIsN (oI (some v)) .non S = some (.bl false, S) := rfl
      simp only [ev_all, ls_all, Nat.reduceAdd, g1]
      refine en_lcM D.int (fun w => !decide (w ∈ vs)) D.int [v] trivial (fun w hw => ?_) ?_
      · have ei := in_lE (neg := true) Eq2.int (show 1 ≤ 63 by decide) w vs (S := S)
        rw [Bool.true_xor] at ei
        simp only [ev_all, ls_all, Nat.reduceAdd, ei]
      have hf : [v].filter (fun w => !decide (w ∈ vs)) = if v ∈ vs then [] else [v] := by
        by_cases q : v ∈ vs <;> simp [q]
      rw [hf]
      generalize hg : (if v ∈ vs then [] else [v]) = ws
      have hwl : ws.length ≤ 1 := by
        rw [← hg]
        split <;> simp
      have ga := gAdd_l (xs := vs.map D.int) (ys := ws.map D.int) (S := S) (by simp only [List.length_map]; omega)
      rw [← List.map_append] at ga
      simp only [ev_all, ls_all, Nat.reduceAdd, List.length_map, show Sz ws.length from sz_ok (by omega), ga]
      refine en_lcA D.int (fun v => .int (highV hi v)) (vs ++ ws) trivial (fun v _ => ?_) ?_
      · simp only [ev_all, ls_all, Nat.reduceAdd, hh S hS v]
      rw [em]
      have hal : (vs ++ ws).length ≤ 501 := by rw [List.length_append]; omega
      simp only [ev_all, ls_all, Nat.reduceAdd, List.length_map, show Sz (vs ++ ws).length from sz_ok (by omega), gs, hcutN]
theorem hsum_nn (h0 : ∀ v h, hi v = some h → 0 ≤ h) : ∀ l : List Int, 0 ≤ hsum hi l
  | [] => Int.le_refl _
  | x :: l => by
    have h1 := hsum_nn h0 l
    unfold hsum at h1 ⊢
    rw [List.map_cons, List.sum_cons]
    have h2 : 0 ≤ (hi x).getD 0 := by
      cases q : hi x with
      | none => exact Int.le_refl _
      | some b => exact h0 x b q
    omega
theorem hsum_erase {x : Int} : ∀ {l : List Int}, x ∈ l → hsum hi l = (hi x).getD 0 + hsum hi (l.erase x)
  | y :: l, h => by
    by_cases q : y = x
    · subst q
      rw [List.erase_cons_head]
      rfl
    · have hm : x ∈ l := by
        rcases List.mem_cons.mp h with h | h
        · exact absurd h.symm q
        · exact h
      have ih := hsum_erase hm
      rw [List.erase_cons_tail (by simpa using q)]
      unfold hsum at ih ⊢
      rw [List.map_cons, List.sum_cons, List.map_cons, List.sum_cons, ih]
      omega
/-- sums over fewer values -/
theorem hs_sub (h0 : ∀ v h, hi v = some h → 0 ≤ h) : ∀ {xs seen : List Int}, xs.Nodup → (∀ x, x ∈ xs → x ∈ seen) → (∀ v, v ∈ seen → ∃ h, hi v = some h) → hsV hi xs ≤ hsum hi seen
  | [], seen, _, _, _ => hsum_nn h0 seen
  | x :: xs, seen, hn, hs, hh => by
    have hx := List.nodup_cons.mp hn
    have hm := hs x List.mem_cons_self
    have ih := hs_sub h0 (xs := xs) (seen := seen.erase x) hx.2 (fun y hy => (List.mem_erase_of_ne (fun e : y = x => hx.1 (e ▸ hy))).mpr (hs y (List.mem_cons_of_mem _ hy))) fun v hv => hh v (List.mem_of_mem_erase hv)
    have e := hsum_erase (hi := hi) hm
    obtain ⟨b, hb⟩ := hh x hm
    unfold hsV at ih ⊢
    rw [List.map_cons, List.sum_cons, e]
    unfold highV
    unfold highV at ih
    rw [hb]
    show b + _ ≤ b + _
    omega
theorem srtNs (M : List Nat) : ∃ ns : List Nat, srt (numsI M) = numsI ns ∧ ns.Perm M := by
  have hp := srt_perm (numsI M)
  refine ⟨(srt (numsI M)).map Int.toNat, ?_, ?_⟩
  · show _ = ((srt (numsI M)).map Int.toNat).map fun n : Nat => (n : Int)
    rw [List.map_map]
    conv => lhs; rw [← List.map_id (srt (numsI M))]
    apply List.map_congr_left
    intro z hz
    obtain ⟨n, _, rfl⟩ := List.mem_map.mp (hp.mem_iff.mp hz)
    rfl
  · have h5 := hp.map Int.toNat
    have h6 : (numsI M).map Int.toNat = M := by
      rw [List.map_map]
      exact List.map_id _
    rwa [h6] at h5
/-- a crowd without a name is right by the law -/
theorem crowd_right_none (h : StW m st) (h0 : ∀ v h, hi v = some h → 0 ≤ h) {M ns : List Nat} (hc : Crowd (domS st) hi ks M) (hp : ns.Perm M) : crowdB st hi ns none = true := by
  obtain ⟨seen, hn, hs, hh, hlt⟩ := hc.few
  obtain ⟨v1, _, v3⟩ := valsF_ok h ns
  have hle := hs_sub h0 (xs := srt (valsF st ns)) (seen := seen) ((srt_perm _).nodup_iff.mpr v1) (fun x hx => by
    obtain ⟨n, hn', hx'⟩ := (v3 x).mp (srt_mem.mp hx)
    exact hs n (hp.mem_iff.mp hn') x hx') hh
  unfold crowdB
  rw [hp.length_eq, decide_eq_true (by omega)]
  rfl
/-- a crowd beside a name is right by the law -/
theorem crowd_right_some (h : StW m st) (h0 : ∀ v h, hi v = some h → 0 ≤ h) {n0 : Nat} {v0 : Int} {M ns : List Nat} (hc : Crowd (domW st n0 v0) hi ks M) (hp : ns.Perm (M.filter fun n => !decide (some n = some n0))) : crowdB st hi ns (some v0) = true := by
  obtain ⟨seen, hn, hs, hh, hlt⟩ := hc.few
  obtain ⟨v1, _, v3⟩ := valsF_ok h ns
  have hsub : ∀ x, x ∈ srt (valsF st ns) → x ∈ seen := fun x hx => by
    obtain ⟨n, hn', hx'⟩ := (v3 x).mp (srt_mem.mp hx)
    have hm := List.mem_filter.mp (hp.mem_iff.mp hn')
    have hne : n ≠ n0 := by simpa using hm.2
    refine hs n hm.1 x ?_
    unfold domW
    rw [if_neg hne]
    exact hx'
  have hnd : (srt (valsF st ns)).Nodup := (srt_perm _).nodup_iff.mpr v1
  unfold crowdB
  by_cases hm0 : n0 ∈ M
  · have hv0 : v0 ∈ seen := hs n0 hm0 v0 (by unfold domW; rw [if_pos rfl]; simp)
    have hlen : ns.length + 1 = M.length := by
      rw [hp.length_eq]
      have e : (M.filter fun n => !decide (some n = some n0)) = M.erase n0 := by
        rw [hc.nd.erase_eq_filter]
        congr 1
        funext n
        by_cases q : n = n0 <;> simp [q, bne]
      rw [e, List.length_erase_of_mem hm0]
      have := List.length_pos_of_mem hm0
      omega
    have hle := hs_sub h0 (xs := srt (valsF st ns) ++ if v0 ∈ srt (valsF st ns) then [] else [v0]) (seen := seen) (by
      split
      · rw [List.append_nil]; exact hnd
      · rename_i q
        rw [List.nodup_append]
        exact ⟨hnd, by simp, fun x hx y hy e => by rw [List.mem_singleton.mp hy] at e; exact q (e ▸ hx)⟩) (fun x hx => by
      rcases List.mem_append.mp hx with hx | hx
      · exact hsub x hx
      · split at hx
        · cases hx
        · rw [List.mem_singleton.mp hx]; exact hv0) hh
    rw [Bool.or_eq_true]
    right
    show decide _ = true
    rw [decide_eq_true_eq]
    omega
  · have hlen : ns.length = M.length := by
      rw [hp.length_eq, List.filter_eq_self.mpr]
      intro n hnM
      have : n ≠ n0 := fun e => hm0 (e ▸ hnM)
      simpa using this
    have hle := hs_sub h0 hnd hsub hh
    rw [Bool.or_eq_true]
    left
    rw [decide_eq_true_eq]
    omega
end

section
variable {S : Sto} {ks : List Nat} {st : List (List Int)} {m : Nat} {R : D} {bs : List Bd} {W : List Int}
/-! ### wants by the law -/
def hitO (st : List (List Int)) (W : List Int) (o : Option Nat) (n : Nat) : Bool := !decide (some n = o) && !((st.getD n []).filter fun v => decide (v ∈ W)).isEmpty
def ownO (W : List Int) : Option Int → Nat
  | none => 0
  | some v => if v ∈ W then 1 else 0
theorem filter_single {f : Nat → Bool} {n : Nat} : [n].filter f = if f n then [n] else [] := by
  cases h : f n <;> simp [h]
theorem esum (bs : List Bd) : ∀ W : List Int, (W.map fun w => (lowOf bs w : Int)).sum = ((W.map (lowOf bs)).sum : Nat)
  | [] => rfl
  | x :: W => by
    rw [List.map_cons, List.sum_cons, List.map_cons, List.sum_cons, esum bs W]
    push_cast
    rfl
theorem is_want_eq (h : StW m st) (hlow : ∀ S, ClS S → ∀ v, F__law_low [R, .int v] S = some (.int (lowOf bs v : Nat), S)) (hnames : ∀ S, gIx R (.int 1) S = some (.tud (ks.map dN), S)) (hn : ∀ n, n ∈ ks → n < m) (hl : ks.length ≤ 50) (hw : W.length ≤ 500) (hS : ClS S) (o : Option Nat) (v : Option Int) (hov : o.isSome = v.isSome) :
    F__law_is_want [dS st, R, nmD o, oI v, .tup (W.map .int)] S = some (.bl (decide (ownO W v + (ks.filter (hitO st W o)).length < (W.map (lowOf bs)).sum)), S) := by
  have hcutN : ∀ b : Bool, cutR S.length (.bl b) S = some (.bl b, S) := fun b => cut_id hS trivial
  refine en_val.mpr (en_fn rfl ?_)
  simp only [B__law_is_want, ev_all, ls_all, Nat.reduceSub, Nat.reduceAdd]
  cases o with
  | none =>
    cases v with
    | some _ => cases hov
    | none =>
    have k1 : gNotN (nmD none) .non S = some (.bl false, S) := rfl
    have k2 : gInt [.bl false] S = some (.int ((ownO W none : Nat) : Int), S) := rfl
    simp only [k1, k2, hnames, ev_all, ls_all, Nat.reduceAdd]
    refine en_forT dN (fun pre L S' => L = [some (dS st), some R, some (nmD (none)), some (oI (none)), some (.tup (W.map .int)), some (.int ((ownO W (none) + (pre.filter (hitO st W (none))).length : Nat) : Int)), none, none] ∧ S' = S) ks ⟨by simp, rfl⟩ ?_ ?_
    · rintro pre n post L S' hsp ⟨rfl, rfl⟩
      have hnl := (h.nd n).2
      have hfl := List.length_filter_le (fun v => decide (v ∈ W)) (st.getD n [])
      refine ⟨trivial, ?_⟩
      have e1 := ne_nm (S := S') n (none)
      have hsn : (pre ++ [n]).filter (hitO st W (none)) = pre.filter (hitO st W (none)) ++ if hitO st W (none) n then [n] else [] := by
        rw [List.filter_append, filter_single]
      rw [hsn, List.length_append]
      unfold hitO
      simp only [ev_all, ls_all, Nat.reduceAdd, e1]
      by_cases q : some n = (none)
      · simp only [q, decide_true, Bool.not_true, ev_all, ls_all, gInt, Bool.false_and, Bool.false_eq_true, if_false, List.length_nil, Nat.add_zero, Int.add_zero]
      · simp only [q, decide_false, Bool.not_false, ev_all, ls_all, Nat.reduceAdd, List.getElem?_map, h.v.at (hn n (by rw [hsp]; simp))]
        refine en_lcM D.int (fun v => decide (v ∈ W)) D.int (st.getD n []) trivial (fun w _ => ?_) ?_
        · have ei := in_tE (neg := false) Eq2.int (show 1 ≤ 63 by decide) w W (S := S')
          rw [Bool.false_xor] at ei
          simp only [ev_all, ls_all, Nat.reduceAdd, ei]
        have e5 := gNe_nil (S := S') (f := 2) (xs := ((st.getD n []).filter fun v => decide (v ∈ W)).map D.int) (fun x hx => by
          obtain ⟨p, _, rfl⟩ := List.mem_map.mp hx
          exact pn_int) (by decide)
        rw [List.isEmpty_map] at e5
        simp only [ev_all, ls_all, Nat.reduceAdd, List.length_map, show Sz ((st.getD n []).filter fun v => decide (v ∈ W)).length from sz_ok (by omega), e5, gInt, Bool.true_and]
        cases ((st.getD n []).filter fun v => decide (v ∈ W)).isEmpty <;> simp <;> omega
    · rintro L S' ⟨rfl, rfl⟩
      refine ⟨trivial, ?_⟩
      simp only [ev_all, ls_all, Nat.reduceAdd]
      refine en_lcA D.int (fun w => .int (lowOf bs w : Nat)) W trivial (fun w _ => ?_) ?_
      · simp only [ev_all, ls_all, Nat.reduceAdd, hlow S' hS w]
      have em : W.map (fun w => D.int (lowOf bs w : Nat)) = (W.map fun w => (lowOf bs w : Int)).map D.int := by rw [List.map_map]; rfl
      have gs := gSum_l (xs := W.map fun w => (lowOf bs w : Int)) (S := S')
      rw [esum bs W] at gs
      rw [em]
      simp only [ev_all, ls_all, Nat.reduceAdd, List.length_map, show Sz W.length from sz_ok (by omega), gs, hcutN]
      simp only [Int.ofNat_lt]
  | some n0 =>
    cases v with
    | none => cases hov
    | some v0 =>
    have k1 : gNotN (nmD (some n0)) .non S = some (.bl true, S) := rfl
    have k3 : inD false (oI (some v0)) (.tup (W.map .int)) S = some (.bl (decide (v0 ∈ W)), S) := (in_tE (neg := false) Eq2.int (by decide) v0 W).trans (by rw [Bool.false_xor])
    have k2 : gInt [.bl (decide (v0 ∈ W))] S = some (.int ((ownO W (some v0) : Nat) : Int), S) := by
      unfold ownO
      by_cases q : v0 ∈ W <;> simp [q, gInt]
    simp only [k1, k3, k2, hnames, ev_all, ls_all, Nat.reduceAdd]
    refine en_forT dN (fun pre L S' => L = [some (dS st), some R, some (nmD (some n0)), some (oI (some v0)), some (.tup (W.map .int)), some (.int ((ownO W (some v0) + (pre.filter (hitO st W (some n0))).length : Nat) : Int)), none, none] ∧ S' = S) ks ⟨by simp, rfl⟩ ?_ ?_
    · rintro pre n post L S' hsp ⟨rfl, rfl⟩
      have hnl := (h.nd n).2
      have hfl := List.length_filter_le (fun v => decide (v ∈ W)) (st.getD n [])
      refine ⟨trivial, ?_⟩
      have e1 := ne_nm (S := S') n (some n0)
      have hsn : (pre ++ [n]).filter (hitO st W (some n0)) = pre.filter (hitO st W (some n0)) ++ if hitO st W (some n0) n then [n] else [] := by
        rw [List.filter_append, filter_single]
      rw [hsn, List.length_append]
      unfold hitO
      simp only [ev_all, ls_all, Nat.reduceAdd, e1]
      by_cases q : some n = (some n0)
      · simp only [q, decide_true, Bool.not_true, ev_all, ls_all, gInt, Bool.false_and, Bool.false_eq_true, if_false, List.length_nil, Nat.add_zero, Int.add_zero]
      · simp only [q, decide_false, Bool.not_false, ev_all, ls_all, Nat.reduceAdd, List.getElem?_map, h.v.at (hn n (by rw [hsp]; simp))]
        refine en_lcM D.int (fun v => decide (v ∈ W)) D.int (st.getD n []) trivial (fun w _ => ?_) ?_
        · have ei := in_tE (neg := false) Eq2.int (show 1 ≤ 63 by decide) w W (S := S')
          rw [Bool.false_xor] at ei
          simp only [ev_all, ls_all, Nat.reduceAdd, ei]
        have e5 := gNe_nil (S := S') (f := 2) (xs := ((st.getD n []).filter fun v => decide (v ∈ W)).map D.int) (fun x hx => by
          obtain ⟨p, _, rfl⟩ := List.mem_map.mp hx
          exact pn_int) (by decide)
        rw [List.isEmpty_map] at e5
        simp only [ev_all, ls_all, Nat.reduceAdd, List.length_map, show Sz ((st.getD n []).filter fun v => decide (v ∈ W)).length from sz_ok (by omega), e5, gInt, Bool.true_and]
        cases ((st.getD n []).filter fun v => decide (v ∈ W)).isEmpty <;> simp <;> omega
    · rintro L S' ⟨rfl, rfl⟩
      refine ⟨trivial, ?_⟩
      simp only [ev_all, ls_all, Nat.reduceAdd]
      refine en_lcA D.int (fun w => .int (lowOf bs w : Nat)) W trivial (fun w _ => ?_) ?_
      · simp only [ev_all, ls_all, Nat.reduceAdd, hlow S' hS w]
      have em : W.map (fun w => D.int (lowOf bs w : Nat)) = (W.map fun w => (lowOf bs w : Int)).map D.int := by rw [List.map_map]; rfl
      have gs := gSum_l (xs := W.map fun w => (lowOf bs w : Int)) (S := S')
      rw [esum bs W] at gs
      rw [em]
      simp only [ev_all, ls_all, Nat.reduceAdd, List.length_map, show Sz W.length from sz_ok (by omega), gs, hcutN]
      simp only [Int.ofNat_lt]
end

section
variable {S : Sto} {ks : List Nat} {st : List (List Int)} {m : Nat} {bs : List Bd} {W : List Int}
/-! ### wants that are told are right by the law -/
theorem count_one {p : Nat → Bool} {n0 : Nat} : ∀ {ks : List Nat}, ks.Nodup → n0 ∈ ks → (ks.filter p).length = (if p n0 then 1 else 0) + (ks.filter fun n => !decide (some n = some n0) && p n).length
  | k :: ks, hn, h => by
    have hn' := List.nodup_cons.mp hn
    have hnone : n0 ∉ ks → (ks.filter fun n => !decide (some n = some n0) && p n) = ks.filter p := fun q => by
      apply List.filter_congr
      intro n hm
      have : n ≠ n0 := fun e => q (e ▸ hm)
      simp [this]
    rw [List.filter_cons, List.filter_cons]
    by_cases q : k = n0
    · subst q
      rw [hnone hn'.1]
      cases hp : p k <;> simp [hp] <;> omega
    · have hm : n0 ∈ ks := by
        rcases List.mem_cons.mp h with h | h
        · exact absurd h.symm q
        · exact h
      have ih := count_one (p := p) hn'.2 hm
      simp only [Option.some.injEq] at ih ⊢
      cases hp : p k <;> simp [q, hp] <;> omega
theorem hit_eq {n : Nat} : (!((st.getD n []).filter fun v => decide (v ∈ W)).isEmpty) = hitW (domS st) W n := by
  unfold hitW domS
  rw [Bool.eq_iff_iff, List.any_eq_true, Bool.not_eq_true']
  constructor
  · intro h
    have h : ((st.getD n []).filter fun v => decide (v ∈ W)) ≠ [] := by
      intro e; rw [e] at h; cases h
    obtain ⟨v, hv⟩ := List.exists_mem_of_ne_nil _ h
    rw [List.mem_filter, decide_eq_true_eq] at hv
    exact ⟨v, hv.2, by simpa using hv.1⟩
  · rintro ⟨w, hw, hd⟩
    rw [decide_eq_true_eq] at hd
    have : w ∈ (st.getD n []).filter fun v => decide (v ∈ W) := List.mem_filter.mpr ⟨hd, by simpa using hw⟩
    cases q : (st.getD n []).filter fun v => decide (v ∈ W) with
    | nil => rw [q] at this; cases this
    | cons a b => rfl
theorem want_right_none (hw : Want (domS st) bs ks W) : decide (ownO W none + (ks.filter (hitO st W none)).length < (W.map (lowOf bs)).sum) = true := by
  have e : ks.filter (hitO st W none) = ks.filter (hitW (domS st) W) := by
    apply List.filter_congr
    intro n _
    unfold hitO
    rw [hit_eq]
    simp
  rw [decide_eq_true_eq, e]
  have := hw.few
  have h0 : ownO W none = 0 := rfl
  omega
theorem want_right_some {n0 : Nat} {v0 : Int} (hks : ks.Nodup) (h0 : n0 ∈ ks) (hw : Want (domW st n0 v0) bs ks W) : decide (ownO W (some v0) + (ks.filter (hitO st W (some n0))).length < (W.map (lowOf bs)).sum) = true := by
  have hc := count_one (p := hitW (domW st n0 v0) W) hks h0
  have e : (ks.filter fun n => !decide (some n = some n0) && hitW (domW st n0 v0) W n) = ks.filter (hitO st W (some n0)) := by
    apply List.filter_congr
    intro n _
    unfold hitO
    rw [hit_eq]
    by_cases q : n = n0
    · simp [q]
    · have : hitW (domW st n0 v0) W n = hitW (domS st) W n := by
        unfold hitW domW domS
        rw [if_neg q]
      rw [this]
  have e2 : (if hitW (domW st n0 v0) W n0 then 1 else 0) = ownO W (some v0) := by
    unfold hitW domW ownO
    rw [if_pos rfl]
    by_cases q : v0 ∈ W
    · have : (W.any fun w => decide (w ∈ [v0])) = true := List.any_eq_true.mpr ⟨v0, q, by simp⟩
      rw [this]
      simp [q]
    · have : (W.any fun w => decide (w ∈ [v0])) = false := by
        rw [List.any_eq_false]
        intro w hw' h
        rw [decide_eq_true_eq, List.mem_singleton] at h
        exact q (h ▸ hw')
      rw [this]
      simp [q]
  rw [e, e2] at hc
  rw [decide_eq_true_eq, ← hc]
  exact hw.few
theorem ev_isi {c : Cl3} {f : EF} {L : DS.Loc} {S : Sto} : eIsi c f L S = (f L S).bind fun p => (isiD c p.1).bind fun b => some (.bl b, p.2) := rfl
theorem isi_tt {xs : List D} : isiD .tup (.tup xs) = some true := rfl
theorem isi_ii {i : Int} : isiD .int (.int i) = some true := rfl
theorem isi_bi {i : Int} : isiD .bool (.int i) = some false := rfl
theorem gAll_true {α : Type} (xs : List α) : gAll [.lst (xs.map fun _ => D.bl true)] S = some (.bl true, S) := by
  have e : ∀ d : D, gAll [d] S = (asK S d).bind fun xs => (boolsD xs).map fun bs => (.bl (bs.all id), S) := fun _ => rfl
  rw [e, asK_l, Option.bind_some]
  have : boolsD (xs.map fun _ => D.bl true) = some (xs.map fun _ => true) := by
    induction xs with
    | nil => rfl
    | cons x xs ih =>
      show (boolsD (xs.map fun _ => D.bl true)).map _ = _
      rw [ih]; rfl
  rw [this]
  simp
theorem is_up_true {xs kn : List Int} (ha : xs.Pairwise (· < ·)) (hk : ∀ x, x ∈ xs → x ∈ kn) (hl : xs.length ≤ 500) (hS : ClS S) : F__law_is_up [.tup (xs.map .int), .lst (kn.map .int)] S = some (.bl true, S) := by
  obtain ⟨kvs, e2, e3, e4⟩ := dict_ints xs (fun _ => .int 0) (S := S)
  have hnd : xs.Nodup := ha.imp fun q => Int.ne_of_lt q
  have hded : dedK xs = xs := by
    have go : ∀ (l acc : List Int), (acc ++ l).Nodup → l.foldl addK acc = acc ++ l := by
      intro l
      induction l with
      | nil => intro acc _; simp
      | cons x l ih =>
        intro acc h
        have hx : x ∉ acc := fun q => (List.nodup_append.mp h).2.2 x q x List.mem_cons_self rfl
        have e : addK acc x = acc ++ [x] := by unfold addK; rw [if_neg hx]
        rw [List.foldl_cons, e, ih (acc ++ [x]) (by rw [List.append_assoc]; exact h), List.append_assoc]
        rfl
    exact go xs [] hnd
  rw [hded] at e3
  have gs := gSorted_ints (fr := false) (d := .ref S.length) (xs := xs) (S := S ++ [.dic kvs]) (items_dic (kvs := kvs) (by simp) e3) (by rw [sizeLine_eq]; omega)
  rw [srt_id (ha.imp fun q => Int.le_of_lt q)] at gs
  have hcut := cut_app (S := S) (X := [.dic kvs]) (d := .bl true) hS trivial
  have k1 : ∀ S (xs : List D), gList false [.tup xs] S = some (.lst xs, S) := fun _ _ => rfl
  have ge := gEqL (S := S ++ [.dic kvs]) Eq2.int (by decide) xs xs
  simp only [decide_true] at ge
  rw [en_val]
  refine en_fn rfl ?_
  simp only [B__law_is_up, ev_all, ls_all, Nat.reduceSub, Nat.reduceAdd]
  rw [en_sif]
  simp only [ev_all, ls_all, Nat.reduceAdd, ev_isi, isi_tt]
  refine en_lcA D.int (fun _ => .bl true) xs trivial (fun x _ => ?_) ?_
  · simp only [ev_all, ls_all, Nat.reduceAdd, ev_isi, isi_ii, isi_bi]
  simp only [ev_all, ls_all, Nat.reduceAdd, List.length_map, show Sz xs.length from sz_ok (by omega), gAll_true]
  refine en_lcA D.int (fun _ => .bl true) xs trivial (fun x hx => ?_) ?_
  · have ei := in_lE (neg := false) Eq2.int (show 1 ≤ 63 by decide) x kn (S := S)
    rw [Bool.false_xor] at ei
    simp only [hk x hx, decide_true] at ei
    simp only [ev_all, ls_all, Nat.reduceAdd, ei]
  simp only [ev_all, ls_all, Nat.reduceAdd, List.length_map, show Sz xs.length from sz_ok (by omega), gAll_true, k1]
  refine en_lcA D.int (fun v => .tup [.int v, .int 0]) xs trivial (fun x _ => ?_) ?_
  · simp only [ev_all, ls_all, Nat.reduceAdd]
  simp only [ev_all, ls_all, Nat.reduceAdd, List.length_map, show Sz xs.length from sz_ok (by omega), e2, gs, ge, hcut]
end

section
variable {st : List (List Int)} {hi : Int → Option Int} {bs : List Bd} {ks : List Nat}
/-! ### the law's own rows -/
def stepH (st : List (List Int)) (hi : Int → Option Int) (n : Nat) (row : List Int) : List (List Int) := ((st.getD n []).filter fun v => decide ((row.count v : Int) < highV hi v)).map fun v => row ++ [v]
def rowsH (st : List (List Int)) (hi : Int → Option Int) : List Nat → List (List Int) → List (List Int)
  | [], found => found
  | n :: ns, found => rowsH st hi ns (found.flatMap (stepH st hi n))
def okT (st : List (List Int)) (hi : Int → Option Int) : List Int → List Nat → List Int → Prop
  | _, [], [] => True
  | r, n :: ns, v :: t => v ∈ st.getD n [] ∧ (r.count v : Int) < highV hi v ∧ okT st hi (r ++ [v]) ns t
  | _, _, _ => False
theorem mem_rowsH : ∀ {ns : List Nat} {found : List (List Int)} {row : List Int}, row ∈ rowsH st hi ns found ↔ ∃ r, r ∈ found ∧ ∃ t, row = r ++ t ∧ okT st hi r ns t
  | [], found, row => by
    unfold rowsH
    constructor
    · intro h
      exact ⟨row, h, [], by simp, trivial⟩
    · rintro ⟨r, hr, t, rfl, h⟩
      cases t with
      | nil => simpa using hr
      | cons v t => cases h
  | n :: ns, found, row => by
    unfold rowsH
    rw [mem_rowsH]
    constructor
    · rintro ⟨r', hr', t, rfl, h⟩
      obtain ⟨r, hr, h2⟩ := List.mem_flatMap.mp hr'
      unfold stepH at h2
      obtain ⟨v, hv, rfl⟩ := List.mem_map.mp h2
      rw [List.mem_filter, decide_eq_true_eq] at hv
      exact ⟨r, hr, v :: t, by simp, hv.1, hv.2, h⟩
    · rintro ⟨r, hr, t, rfl, h⟩
      cases t with
      | nil => cases h
      | cons v t =>
        obtain ⟨h1, h2, h3⟩ := h
        refine ⟨r ++ [v], List.mem_flatMap.mpr ⟨r, hr, ?_⟩, t, by simp, h3⟩
        unfold stepH
        exact List.mem_map.mpr ⟨v, List.mem_filter.mpr ⟨h1, by simpa using h2⟩, rfl⟩
theorem okT_iff : ∀ {ns : List Nat} {t r : List Int}, okT st hi r ns t ↔ t.length = ns.length ∧ (∀ p, p ∈ ns.zip t → p.2 ∈ st.getD p.1 []) ∧ ∀ v, v ∈ t → ((r ++ t).count v : Int) ≤ highV hi v
  | [], [], r => by simp [okT]
  | [], _ :: _, r => by simp [okT]
  | _ :: _, [], r => by simp [okT]
  | n :: ns, v :: t, r => by
    unfold okT
    rw [okT_iff]
    have hc : ∀ w, ((r ++ v :: t).count w) = ((r ++ [v] ++ t).count w) := fun w => by rw [List.append_assoc]; rfl
    constructor
    · rintro ⟨h1, h2, h3, h4, h5⟩
      refine ⟨by simp [h3], fun p hp => ?_, fun w hw => ?_⟩
      · rw [List.zip_cons_cons] at hp
        rcases List.mem_cons.mp hp with rfl | hp
        · exact h1
        · exact h4 p hp
      · rw [hc]
        by_cases q : w ∈ t
        · exact h5 w q
        · have hwv : w = v := by
            rcases List.mem_cons.mp hw with h | h
            · exact h
            · exact absurd h q
          subst hwv
          rw [List.count_append, List.count_append, List.count_eq_zero.mpr q]
          simp
          omega
    · rintro ⟨h1, h2, h3⟩
      refine ⟨h2 (n, v) (by rw [List.zip_cons_cons]; exact List.mem_cons_self), ?_, by simpa using h1, fun p hp => h2 p (by rw [List.zip_cons_cons]; exact List.mem_cons_of_mem _ hp), fun w hw => ?_⟩
      · have := h3 v List.mem_cons_self
        rw [List.count_append, List.count_cons_self] at this
        push_cast at this
        omega
      · have := h3 w (List.mem_cons_of_mem _ hw)
        rwa [hc] at this
/-- the rows that the law has -/
def rowsK (st : List (List Int)) (hi : Int → Option Int) (bs : List Bd) (ks : List Nat) : List (List Int) := (rowsH st hi ks [[]]).filter fun row => (bs.map (·.1)).all fun w => decide (lowOf bs w ≤ row.count w)
theorem mem_rowsK (h0 : ∀ v h, hi v = some h → 0 ≤ h) (hk : ks.length ≤ 1000) {row : List Int} : row ∈ rowsK st hi bs ks ↔ IsRow (domS st) hi bs ks row := by
  unfold rowsK
  rw [List.mem_filter, mem_rowsH]
  constructor
  · rintro ⟨⟨r, hr, t, rfl, h⟩, hlo⟩
    have hr0 : r = [] := List.mem_singleton.mp hr
    subst hr0
    simp only [List.nil_append] at hlo ⊢
    obtain ⟨h1, h2, h3⟩ := okT_iff.mp h
    refine ⟨h1, h2, fun v b hv => ?_, fun w => ?_⟩
    · by_cases q : v ∈ t
      · have := h3 v q
        rw [List.nil_append] at this
        unfold highV at this
        rw [hv] at this
        exact this
      · rw [List.count_eq_zero.mpr q]
        exact h0 v b hv
    · by_cases q : w ∈ bs.map (·.1)
      · have := List.all_eq_true.mp hlo w q
        simpa using this
      · rw [lowOf_none q]; exact Nat.zero_le _
  · intro r
    refine ⟨⟨[], by simp, row, by simp, okT_iff.mpr ⟨r.len, r.dm, fun v hv => ?_⟩⟩, List.all_eq_true.mpr fun w _ => by simpa using r.lo w⟩
    rw [List.nil_append]
    unfold highV
    cases q : hi v with
    | some b => exact r.up v b q
    | none =>
      have h1 := List.count_le_length (a := v) (l := row)
      have h2 := r.len
      show _ ≤ (1000000000 : Int)
      omega
end

section
variable {S : Sto} {st : List (List Int)} {m : Nat} {hi : Int → Option Int} {bs : List Bd} {ks : List Nat} {R : D}
abbrev dR (xs : List Int) : D := .tud (xs.map .int)
theorem clRr {n f : Nat} {rows : List (List Int)} : ∀ x, x ∈ rows.map dR → Cl n (f + 2) x := fun x hx => by
  obtain ⟨r, _, rfl⟩ := List.mem_map.mp hx
  exact clI (f := f)
theorem cnt_R {row : List Int} {v : Int} : gCntT (row.map D.int) [.int v] = some (.int (row.count v : Nat)) := by
  show (intsD (row.map D.int)).map _ = _
  rw [intsD_map]
  rfl
theorem add_R {a : List Int} {v : Int} (h : a.length ≤ 900) : gAddD (dR a) (.tud [.int v]) S = some (dR (a ++ [v]), S) := by
  show (if (a.map D.int).length + [D.int v].length ≤ sizeLine then _ else _) = _
  rw [if_pos (by rw [List.length_map, sizeLine_eq]; simp; omega)]
  show _ = some (D.tud ((a ++ [v]).map .int), S)
  rw [List.map_append]
  rfl
theorem bools_map (xs : List Bool) : boolsD (xs.map .bl) = some xs := by
  induction xs with
  | nil => rfl
  | cons x xs ih =>
    show (boolsD (xs.map .bl)).map _ = _
    rw [ih]; rfl
theorem gAll_l {xs : List Bool} : gAll [.lst (xs.map .bl)] S = some (.bl (xs.all id), S) := by
  have e : ∀ d : D, gAll [d] S = (asK S d).bind fun xs => (boolsD xs).map fun bs => (.bl (bs.all id), S) := fun _ => rfl
  rw [e, asK_l, Option.bind_some, bools_map]
  rfl
theorem rowsH_snoc {n : Nat} : ∀ {pre : List Nat} {found : List (List Int)}, rowsH st hi (pre ++ [n]) found = (rowsH st hi pre found).flatMap (stepH st hi n)
  | [], _ => rfl
  | k :: pre, found => by
    show rowsH st hi (pre ++ [n]) (found.flatMap (stepH st hi k)) = _
    rw [rowsH_snoc]
    rfl
theorem rowsH_len : ∀ {ns : List Nat} {found : List (List Int)} {k : Nat}, (∀ r, r ∈ found → r.length = k) → ∀ r, r ∈ rowsH st hi ns found → r.length = k + ns.length := fun {ns found k} h r hr => by
  obtain ⟨r0, h0, t, rfl, ht⟩ := mem_rowsH.mp hr
  have := (okT_iff.mp ht).1
  rw [List.length_append, h r0 h0, this]
theorem step_len (h4 : ∀ n, (st.getD n []).length ≤ 4) {n : Nat} : ∀ found : List (List Int), (found.flatMap (stepH st hi n)).length ≤ found.length * 4
  | [] => by simp
  | r :: rs => by
    have ih := step_len h4 (n := n) rs
    have h1 : (stepH st hi n r).length ≤ 4 := by
      unfold stepH
      rw [List.length_map]
      exact Nat.le_trans (List.length_filter_le _ _) (h4 n)
    rw [List.flatMap_cons, List.length_append, List.length_cons]
    omega
theorem rowsH_few (h4 : ∀ n, (st.getD n []).length ≤ 4) : ∀ (ns : List Nat) (found : List (List Int)), (rowsH st hi ns found).length ≤ found.length * 4 ^ ns.length
  | [], found => by simp [rowsH]
  | n :: ns, found => by
    have ih := rowsH_few h4 ns (found.flatMap (stepH st hi n))
    have h1 := step_len (hi := hi) h4 (n := n) found
    unfold rowsH
    refine Nat.le_trans ih (Nat.le_trans (Nat.mul_le_mul_right _ h1) ?_)
    rw [List.length_cons, Nat.pow_succ, Nat.mul_assoc, Nat.mul_comm 4]
    exact Nat.le_refl _
theorem law_rows_eq (h : StW m st) (h4 : ∀ n, (st.getD n []).length ≤ 4) (hhi : ∀ S, ClS S → ∀ v, F__law_high [R, .int v] S = some (.int (highV hi v), S)) (hlow : ∀ S, ClS S → ∀ v, F__law_low [R, .int v] S = some (.int (lowOf bs v : Nat), S)) (hnames : ∀ S, gIx R (.int 1) S = some (.tud (ks.map dN), S)) (hn : ∀ n, n ∈ ks → n < m) (hl : ks.length ≤ 6) (hbl : bs.length ≤ 50) (hS : ClS S)
    (htold : ∀ a : Option D, eIf (bVal (eOp2 gEq (eOp2 gIx (eVar 1) (eC (.int 0))) (eC (.str "counts")))) (eFro (lcF [7] (iSeq (eOp2 gIx (eVar 1) (eC (.int 2)))) (gfName 7) (bYes) (eOp2 gIx (eVar 7) (eC (.int 0))))) (eLst (aNil)) [some (dS st), some R, a, none, none, none, none, none, none] S = some (.lst ((bs.map (·.1)).map .int), S)) :
    F__law_rows [dS st, R] S = some (.lst ((rowsK st hi bs ks).map dR), S) := by
  have hfew := rowsH_few (hi := hi) h4
  have hp46 : ∀ k, k ≤ 6 → 4 ^ k ≤ 4096 := fun k hk => Nat.le_trans (Nat.pow_le_pow_right (by decide) hk) (by decide)
  rw [en_val]
  refine en_fn rfl ?_
  simp only [B__law_rows, ev_all, ls_all, Nat.reduceSub, Nat.reduceAdd, hnames, ev_tupD]
  refine en_forT dN (fun pre L S' => L = [some (dS st), some R, some (.lst ((rowsH st hi pre [[]]).map dR)), none, none, none, none, none, none] ∧ S' = S) ks ⟨rfl, rfl⟩ ?_ ?_
  · rintro pre n post L S' hsp ⟨rfl, rfl⟩
    have hpl : pre.length ≤ 5 := by
      have := congrArg List.length hsp
      simp at this
      omega
    have hf := hfew pre [[]]
    have hp := hp46 pre.length (by omega)
    have hrl := rowsH_len (st := st) (hi := hi) (ns := pre) (found := [[]]) (k := 0) (fun r hr => by rw [List.mem_singleton.mp hr]; rfl)
    refine ⟨trivial, ?_⟩
    simp only [ev_all, ls_all, Nat.reduceAdd]
    refine en_forT dR (fun pre2 L S2 => L = [some (dS st), some R, some (.lst ((rowsH st hi pre [[]]).map dR)), some (dN n), none, some (.lst ((pre2.flatMap (stepH st hi n)).map dR)), none, none, none] ∧ S2 = S') (rowsH st hi pre [[]]) ⟨rfl, rfl⟩ ?_ ?_
    · rintro pre2 row post2 L S2 hsp2 ⟨rfl, rfl⟩
      have hrow := hrl row (by rw [hsp2]; simp)
      have hp2 : pre2.length ≤ 4096 := by
        have := congrArg List.length hsp2
        simp at this hf
        omega
      have hsl := step_len (hi := hi) h4 (n := n) pre2
      refine ⟨trivial, ?_⟩
      simp only [ev_all, ls_all, Nat.reduceAdd, List.getElem?_map, h.v.at (hn n (by rw [hsp]; simp))]
      refine en_lcM D.int (fun v => decide ((row.count v : Int) < highV hi v)) (fun v => dR (row ++ [v])) (st.getD n []) trivial (fun v _ => ?_) ?_
      · have ea := add_R (S := S2) (a := row) (v := v) (by omega)
        simp only [ev_all, ls_all, Nat.reduceAdd, cnt_R, hhi S2 hS v, ev_tupD, ea]
      have em : ((st.getD n []).filter fun v => decide ((row.count v : Int) < highV hi v)).map (fun v => dR (row ++ [v])) = (stepH st hi n row).map dR := by unfold stepH; rw [List.map_map]; rfl
      rw [em]
      have hsr : (stepH st hi n row).length ≤ 4 := by
        unfold stepH
        rw [List.length_map]
        exact Nat.le_trans (List.length_filter_le _ _) (h4 n)
      have ga := gAdd_l (xs := (pre2.flatMap (stepH st hi n)).map dR) (ys := (stepH st hi n row).map dR) (S := S2) (by simp only [List.length_map]; omega)
      rw [← List.map_append] at ga
      have ef : pre2.flatMap (stepH st hi n) ++ stepH st hi n row = (pre2 ++ [row]).flatMap (stepH st hi n) := by simp [List.flatMap_append]
      rw [ef] at ga
      simp only [ev_all, ls_all, Nat.reduceAdd, List.length_map, show Sz (stepH st hi n row).length from sz_ok (by omega), ga]
    · rintro L S2 ⟨rfl, rfl⟩
      refine ⟨trivial, ?_⟩
      simp only [ev_all, ls_all, Nat.reduceAdd, rowsH_snoc]
  · rintro L S' ⟨rfl, rfl⟩
    refine ⟨trivial, ?_⟩
    have hf := hfew ks [[]]
    have hp := hp46 ks.length hl
    have hrl := rowsH_len (st := st) (hi := hi) (ns := ks) (found := [[]]) (k := 0) (fun r hr => by rw [List.mem_singleton.mp hr]; rfl)
    have e9 := htold (some (.lst ((rowsH st hi ks [[]]).map dR)))
    have hcut := cut_id (d := .lst ((rowsK st hi bs ks).map dR)) hS (clRr (f := 9))
    simp only [ev_all, ls_all, Nat.reduceAdd, e9]
    refine en_lcM dR (fun row => (bs.map (·.1)).all fun w => decide (lowOf bs w ≤ row.count w)) dR (rowsH st hi ks [[]]) trivial (fun row hr => ?_) ?_
    · simp only [ev_all, ls_all, Nat.reduceAdd]
      refine en_lcA (ok := fun _ => True) (S := S') D.int (fun w => .bl (decide (lowOf bs w ≤ row.count w))) (List.map (fun x => x.1) bs) trivial (fun w _ => ?_) ?_
      · simp only [ev_all, ls_all, Nat.reduceAdd, cnt_R, hlow S' hS w, Int.ofNat_le]
      have em : (bs.map (·.1)).map (fun w => D.bl (decide (lowOf bs w ≤ row.count w))) = ((bs.map (·.1)).map fun w => decide (lowOf bs w ≤ row.count w)).map .bl := by simp only [List.map_map]; rfl
      have ga : gAll [.lst (((bs.map (·.1)).map fun w => decide (lowOf bs w ≤ row.count w)).map .bl)] S' = some (.bl ((bs.map (·.1)).all fun w => decide (lowOf bs w ≤ row.count w)), S') := by
        rw [gAll_l, List.all_map]
        rfl
      rw [em]
      simp only [ev_all, ls_all, Nat.reduceAdd, List.length_map, show Sz bs.length from sz_ok (by omega), ga]
    · have hfl := List.length_filter_le (fun row : List Int => (bs.map (·.1)).all fun w => decide (lowOf bs w ≤ row.count w)) (rowsH st hi ks [[]])
      simp only [List.length_singleton, Nat.one_mul] at hf
      rw [show (rowsH st hi ks [[]]).filter (fun row => (bs.map (·.1)).all fun w => decide (lowOf bs w ≤ row.count w)) = rowsK st hi bs ks from rfl] at hfl ⊢
      simp only [ev_all, ls_all, Nat.reduceAdd, List.length_map, show Sz (rowsK st hi bs ks).length from sz_ok (by omega), hcut]
end

section
variable {S : Sto} {ks : List Nat} {bs : List Bd}
noncomputable abbrev toldE : EF := eIf (bVal (eOp2 gEq (eOp2 gIx (eVar 1) (eC (.int 0))) (eC (.str "counts")))) (eFro (lcF [7] (iSeq (eOp2 gIx (eVar 1) (eC (.int 2)))) (gfName 7) (bYes) (eOp2 gIx (eVar 7) (eC (.int 0))))) (eLst (aNil))
theorem told_ruU (a0 a2 a3 a4 a5 a6 a7 a8 : Option D) : toldE [a0, some (ruU ks), a2, a3, a4, a5, a6, a7, a8] S = some (.lst ((([] : List Bd).map (·.1)).map .int), S) := by
  rw [en_val]
  simp only [toldE, ev_if, ev_all, ls_all, Nat.reduceAdd, w_uc]
theorem told_ruC (hb : bs.length ≤ 50) (a0 a2 a3 a4 a5 a6 a7 a8 : Option D) : toldE [a0, some (ruC ks bs), a2, a3, a4, a5, a6, a7, a8] S = some (.lst ((bs.map (·.1)).map .int), S) := by
  rw [en_val]
  simp only [toldE, ev_if, ev_all, ls_all, Nat.reduceAdd, w_cc]
  refine en_lcA (ok := fun _ => True) (S := S) dB (fun b => .int b.1) bs trivial (fun b _ => ?_) ?_
  · simp only [ev_all, ls_all, Nat.reduceAdd]
  · have em : bs.map (fun b => D.int b.1) = (bs.map (·.1)).map D.int := by rw [List.map_map]; rfl
    rw [em]
    simp only [ev_all, ls_all, Nat.reduceAdd, List.length_map, show Sz bs.length from sz_ok (by omega)]
variable {st : List (List Int)} {m : Nat}
theorem rowsU_eq (h : StW m st) (h4 : ∀ n, (st.getD n []).length ≤ 4) (hn : ∀ n, n ∈ ks → n < m) (hl : ks.length ≤ 6) (hS : ClS S) : F__law_rows [dS st, ruU ks] S = some (.lst ((rowsK st (fun _ => some 1) [] ks).map dR), S) :=
  law_rows_eq h h4 (fun S hS v => highL_U hS v) (fun S hS v => lowL_U hS v) (fun S => rfl) hn hl (by simp) hS fun a => told_ruU _ _ _ _ _ _ _ _
theorem rowsC_eq (hB : BsOk bs) (h : StW m st) (h4 : ∀ n, (st.getD n []).length ≤ 4) (hn : ∀ n, n ∈ ks → n < m) (hl : ks.length ≤ 6) (hS : ClS S) : F__law_rows [dS st, ruC ks bs] S = some (.lst ((rowsK st (hiC bs) bs ks).map dR), S) :=
  law_rows_eq h h4 (fun S hS v => highL_C hB hS v) (fun S hS v => lowL_C hB hS v) (fun S => rfl) hn hl hB.few hS fun a => told_ruC hB.few _ _ _ _ _ _ _ _
end

section
variable {bs : List Bd}
theorem hiC_mem {w h : Int} (q : hiC bs w = some h) : ∃ b, b ∈ bs ∧ b.1 = w ∧ b.2.2 = h := by
  unfold hiC at q
  obtain ⟨b, hb, rfl⟩ := Option.map_eq_some_iff.mp q
  have h2 := List.find?_some hb
  exact ⟨b, List.mem_of_find?_eq_some hb, by simpa using h2, rfl⟩
theorem hiC_nn (hB : BsOk bs) : ∀ w h, hiC bs w = some h → 0 ≤ h := fun w h q => by
  obtain ⟨b, hb, _, rfl⟩ := hiC_mem q
  have := hB.nn b hb
  omega
theorem hiC_low (hB : BsOk bs) : ∀ w h, hiC bs w = some h → (lowOf bs w : Int) ≤ h := fun w h q => by
  obtain ⟨b, hb, rfl, rfl⟩ := hiC_mem q
  have := hB.nn b hb
  rw [lowOf_mem hB.nd hb]
  omega
theorem hiU_low : ∀ w h, (fun _ : Int => some (1 : Int)) w = some h → (lowOf [] w : Int) ≤ h := fun w h q => by
  cases q
  show ((0 : Nat) : Int) ≤ 1
  omega
theorem hiU_nn : ∀ w h, (fun _ : Int => some (1 : Int)) w = some h → 0 ≤ h := fun w h q => by
  cases q
  decide
end

section
variable {X S : Sto}
/-! ### draws: stands, lots -/
theorem rs_top {X S : Sto} {o : Ob} (h : RS (X ++ [o]) S) : S[X.length + 2]? = some o := rs_at (k := 0) (Y := [o]) h
theorem rs_put {X S : Sto} {o o2 : Ob} (h : RS (X ++ [o]) S) : RS (X ++ [o2]) (S.set (X.length + 2) o2) := rs_set (k := 0) (Y := [o]) h
theorem clVs {n f : Nat} {st : List (List Int)} : ∀ x, x ∈ st.map (fun vs => dT vs) → Cl n (f + 3) x := fun x hx => by
  obtain ⟨vs, _, rfl⟩ := List.mem_map.mp hx
  exact clT (f := f + 1)
theorem any_ints {d : D} {xs : List Int} (hS : RS X S) (hX : ClX X) (hd : itemsD S d = some (xs.map .int)) (hl : xs.length < 1000000) : ∃ (ys : List Int) (S' : Sto), F__law_any_order [.ref 1, d] S = some (.lst (ys.map .int), S') ∧ RS X S' ∧ ys.Perm xs := by
  obtain ⟨ys, S', e, r, p⟩ := mixed_spec hS hX hd (by simpa using hl) (fun x hx => clI (f := 10) x hx)
  obtain ⟨zs, rfl, pz⟩ := map_of_perm p
  exact ⟨zs, S', e, r, pz⟩
theorem sl_take {xs : List Int} {k : Int} (h : 0 ≤ k) : DS.cutD (xs.map .int) none (some k) = (xs.take k.toNat).map .int := by
  rw [cut_take _ h, List.map_take]
theorem srt_ints {xs : List Int} (h : xs.length ≤ 1000000) : gSorted false [.lst (xs.map .int)] S = some (.lst ((srt xs).map .int), S) := gSorted_ints rfl (by rw [sizeLine_eq]; omega)
def vL : List Int := [0, 1, 2, 3, 5, 9, 40, 63]
theorem vL_ok : vL.Nodup ∧ (∀ v, v ∈ vL → 0 ≤ v ∧ v ≤ 63) ∧ (7 : Int) ∉ vL := by decide
/-- a drawn stand -/
structure StD (m : Nat) (st : List (List Int)) : Prop where
  len : st.length = m
  m1 : 1 ≤ m
  m8 : m ≤ 8
  srt : ∀ vs, vs ∈ st → vs.Pairwise (· < ·)
  few : ∀ vs, vs ∈ st → vs.length ≤ 4
  sub : ∀ vs, vs ∈ st → ∀ v, v ∈ vs → v ∈ vL
theorem draw_stand (hS : RS X S) (hX : ClX X) : En (F__law_draw_stand [.ref 1, .int 4] S) fun p => RS X p.2 ∧ ∃ st m, p.1 = dS st ∧ StD m st := by
  have hl2 := rs_len hS
  refine en_fn rfl ?_
  have r0 := rs_new (o := .lst []) hS
  have hX0 : ClX (X ++ [.lst []]) := clx_one hX (by intro x hx; cases hx)
  obtain ⟨ys, S1, e1, r1, p1⟩ := any_ints (d := .lst (vL.map .int)) (xs := vL) r0 hX0 rfl (by decide)
  obtain ⟨k1, S2, e2, r2, k1a, k1b⟩ := pick_spec r1 hX0 (many := 5) (by decide)
  have e1' : F__law_any_order [.ref 1, .lst [.int 0, .int 1, .int 2, .int 3, .int 5, .int 9, .int 40, .int 63]] (S ++ [.lst []]) = some (.lst (ys.map .int), S1) := e1
  have e3 := sl_take (xs := ys) (k := 2 + k1) (by omega)
  have hyl : ys.length = 8 := p1.length_eq
  have e4 := srt_ints (S := S2) (xs := ys.take (2 + k1).toNat) (by rw [List.length_take]; omega)
  obtain ⟨k2, S3, e5, r3, k2a, k2b⟩ := pick_spec r2 hX0 (many := 8) (by decide)
  have hlot : (srt (ys.take (2 + k1).toNat)).Nodup ∧ (∀ v, v ∈ srt (ys.take (2 + k1).toNat) → v ∈ vL) ∧ (srt (ys.take (2 + k1).toNat)).length ≤ 8 := by
    refine ⟨(srt_perm _).nodup_iff.mpr ((p1.nodup_iff.mpr vL_ok.1).sublist (List.take_sublist _ _)), fun v hv => p1.mem_iff.mp (List.mem_of_mem_take (srt_mem.mp hv)), by rw [srt_len, List.length_take]; omega⟩
  generalize srt (ys.take (2 + k1).toNat) = lot at e4 hlot
  obtain ⟨m, rfl, hm⟩ : ∃ m : Nat, k2 = (m : Int) ∧ m ≤ 7 := ⟨k2.toNat, by omega, by omega⟩
  have em : (1 : Int) + (m : Int) = ((m + 1 : Nat) : Int) := by omega
  simp only [B__law_draw_stand, ev_all, ls_all, Nat.reduceSub, Nat.reduceAdd, List.length_append, e1', e2, e3, e4, e5, em, List.reverse_cons, List.reverse_nil, Int.toNat_natCast, Int.sub_zero, rng_range]
  refine ⟨rgI_ok (by omega) (by omega), ?_⟩
  refine en_forT dN (fun pre L S' => L = [some (.ref 1), some (.int 4), none, some (.ref S.length), some (.lst (lot.map .int)), none] ∧ ∃ st : List (List Int), RS (X ++ [.lst (st.map fun vs => dT vs)]) S' ∧ st.length = pre.length ∧ (∀ us, us ∈ st → us.Pairwise (· < ·) ∧ us.length ≤ 4 ∧ ∀ v, v ∈ us → v ∈ vL)) (List.range (m + 1)) ⟨rfl, [], r3, rfl, by simp⟩ ?_ ?_
  · rintro pre x post L S' hsp ⟨rfl, st, r4, hl, hst⟩
    have hXb : ClX (X ++ [.lst (st.map fun vs => dT vs)]) := clx_one hX clVs
    have hpl : pre.length ≤ 8 := by
      have := congrArg List.length hsp
      simp at this
      omega
    refine ⟨trivial, ?_⟩
    simp only [ev_all, ls_all, Nat.reduceAdd]
    refine En.mono (Q := fun p => ∃ k : Int, p.1 = .int k ∧ 0 ≤ k ∧ k ≤ 4 ∧ RS (X ++ [.lst (st.map fun vs => dT vs)]) p.2) ?_ ?_
    · obtain ⟨q, S5, e6, r5, q0, _⟩ := pick_spec r4 hXb (many := 30) (by decide)
      obtain ⟨q2, S6, e7, r6, q20, q21⟩ := pick_spec r5 hXb (many := 4) (by decide)
      simp only [ev_if, ev_all, ls_all, Nat.reduceAdd, e6]
      by_cases h0 : 0 < q
      · simp only [h0, decide_true, ev_all, ls_all, e7]
        exact ⟨_, rfl, by omega, by omega, r6⟩
      · simp only [h0, decide_false, ev_all, ls_all]
        exact ⟨_, rfl, by omega, by omega, r5⟩
    · rintro ⟨_, S6⟩ ⟨k, rfl, hk0, hk4, r6⟩
      obtain ⟨zs, S7, e8, r7, p7⟩ := any_ints (d := .lst (lot.map .int)) (xs := lot) r6 hXb rfl (by omega)
      have e9 := sl_take (xs := zs) hk0
      have hzl := p7.length_eq
      have e10 := srt_ints (S := S7) (xs := zs.take k.toNat) (by rw [List.length_take]; omega)
      have a1 := asL_r (rs_top r7)
      have a2 := mAppend_ok (k := X.length + 2) (d := dT (srt (zs.take k.toNat))) (S := S7) (xs := st.map fun vs => dT vs) (by rw [List.length_map, sizeLine_eq]; omega)
      rw [← hl2] at a1 a2
      have a4 : gTuple [.lst ((srt (zs.take k.toNat)).map .int)] S7 = some (dT (srt (zs.take k.toNat)), S7) := rfl
      have a0 := asL_r (rs_top r6)
      rw [← hl2] at a0
      simp only [ev_all, ls_all, Nat.reduceAdd, a0, e8, e9, e10, a4, a1, a2]
      refine ⟨st ++ [srt (zs.take k.toNat)], by rw [hl2, List.map_append]; exact rs_put r7, by simp [hl], fun u hu => ?_⟩
      rcases List.mem_append.mp hu with h | h
      · exact hst u h
      · rw [List.mem_singleton.mp h]
        exact ⟨srt_lt ((p7.nodup_iff.mpr hlot.1).sublist (List.take_sublist _ _)), by rw [srt_len, List.length_take]; omega, fun v hv => hlot.2.1 v (p7.mem_iff.mp (List.mem_of_mem_take (srt_mem.mp hv)))⟩
  · rintro L S' ⟨rfl, st, r4, hl, hst⟩
    rw [List.length_range] at hl
    have k1 := gTup_r (rs_top r4)
    rw [← hl2] at k1
    obtain ⟨S9, e9, r9⟩ := rs_cutX (Y := [.lst (st.map fun vs => dT vs)]) (d := dS st) hS r4 hX clVs
    refine ⟨trivial, ?_⟩
    simp only [ev_all, ls_all, Nat.reduceAdd, k1, e9]
    exact ⟨r9, st, m + 1, rfl, hl, by omega, by omega, fun vs hv => (hst vs hv).1, fun vs hv => (hst vs hv).2.1, fun vs hv => (hst vs hv).2.2⟩
theorem draw_lot {st : List (List Int)} {m most : Nat} (hS : RS X S) (hX : ClX X) (hs : StD m st) (hm1 : 1 ≤ most) (hm2 : most ≤ 1000) :
    En (F__law_draw_lot [.ref 1, dS st, .int most] S) fun p => RS X p.2 ∧ ∃ ks : List Nat, p.1 = .tud (ks.map dN) ∧ ks.Pairwise (· < ·) ∧ 1 ≤ ks.length ∧ ks.length ≤ most ∧ ∀ n, n ∈ ks → n < m := by
  have hsl := hs.len
  have h1 := hs.m1
  have h8 := hs.m8
  have emin : gMin2 [.int (most : Int), .int (m : Int)] S = some (.int ((min most m : Nat) : Int), S) := by
    show some (D.int (min (most : Int) (m : Int)), S) = _
    congr 3
    omega
  obtain ⟨q, S1, e1, r1, q0, q1⟩ := pick_spec hS hX (many := ((min most m : Nat) : Int)) (by omega)
  have hrg : (List.range m).map dN = ((List.range m).map fun n : Nat => (n : Int)).map .int := by rw [List.map_map]; rfl
  obtain ⟨ys, S2, e2, r2, p2⟩ := any_ints (d := .lst ((List.range m).map dN)) (xs := (List.range m).map fun n : Nat => (n : Int)) r1 hX (by rw [← hrg]; rfl) (by simp; omega)
  have hyl := p2.length_eq
  rw [List.length_map, List.length_range] at hyl
  have e3 := sl_take (xs := ys) (k := 1 + q) (by omega)
  have e4 := srt_ints (S := S2) (xs := ys.take (1 + q).toNat) (by rw [List.length_take]; omega)
  have hnd : ((List.range m).map fun n : Nat => (n : Int)).Nodup := by
    unfold List.Nodup
    rw [List.pairwise_map]
    exact (List.nodup_range (n := m)).imp fun h e => h (by omega)
  have hlt := srt_lt ((p2.nodup_iff.mpr hnd).sublist (List.take_sublist (1 + q).toNat ys))
  obtain ⟨ks, hk⟩ : ∃ ks : List Nat, srt (ys.take (1 + q).toNat) = ks.map fun n : Nat => (n : Int) := by
    refine ⟨(srt (ys.take (1 + q).toNat)).map Int.toNat, ?_⟩
    rw [List.map_map]
    conv => lhs; rw [← List.map_id (srt (ys.take (1 + q).toNat))]
    apply List.map_congr_left
    intro z hz
    obtain ⟨n, _, rfl⟩ := List.mem_map.mp (p2.mem_iff.mp (List.mem_of_mem_take (srt_mem.mp hz)))
    rfl
  have hkl : ks.length = min (1 + q).toNat m := by
    have := congrArg List.length hk
    rw [srt_len, List.length_take, List.length_map] at this
    omega
  have hmem : ∀ n, n ∈ ks → n < m := fun n hn => by
    have h2 : (n : Int) ∈ srt (ys.take (1 + q).toNat) := by rw [hk]; exact List.mem_map.mpr ⟨n, hn, rfl⟩
    obtain ⟨j, hj, e⟩ := List.mem_map.mp (p2.mem_iff.mp (List.mem_of_mem_take (srt_mem.mp h2)))
    have := List.mem_range.mp hj
    omega
  have hasc : ks.Pairwise (· < ·) := by
    rw [hk, List.pairwise_map] at hlt
    exact hlt.imp fun h => by omega
  have e5 : (srt (ys.take (1 + q).toNat)).map D.int = ks.map dN := by rw [hk, List.map_map]; rfl
  rw [e5] at e4
  have a4 : gTupleD [.lst (ks.map dN)] S2 = some (.tud (ks.map dN), S2) := rfl
  have hcut := rs_cut (d := .tud (ks.map dN)) hS r2 hX (clN (f := 10))
  refine en_fn rfl ?_
  have hro : RgOk 0 (m : Int) := ⟨by decide, by decide, by omega, by omega, by omega⟩
  have mk : mkL false ((List.range m).map dN) S1 = (.lst ((List.range m).map dN), S1) := rfl
  simp only [B__law_draw_lot, ev_all, ls_all, Nat.reduceSub, Nat.reduceAdd, List.length_map, emin, e1, hsl, Int.sub_zero, Int.toNat_natCast, rng_range, mk, e2, e3, e4, a4, hcut]
  exact ⟨hro, r2, ks, rfl, hasc, by omega, by omega, hmem⟩
end

section
variable {X S : Sto} {st : List (List Int)} {m : Nat}
/-! ### draws: counts, rules -/
theorem StD.w (h : StD m st) : StW m st := ⟨h.len, h.srt, fun vs hv => Nat.le_trans (h.few vs hv) (by decide), h.m8⟩
theorem StD.vat (h : StD m st) (n : Nat) : (st.getD n []).Pairwise (· < ·) ∧ (st.getD n []).length ≤ 4 ∧ ∀ v, v ∈ st.getD n [] → v ∈ vL := by
  rw [List.getD_eq_getElem?_getD]
  cases q : st[n]? with
  | none => exact ⟨by simp, by simp, by simp⟩
  | some vs => exact ⟨h.srt vs (List.mem_of_getElem? q), h.few vs (List.mem_of_getElem? q), h.sub vs (List.mem_of_getElem? q)⟩
theorem ev_cntL {fo : EF} {fa : AF} {L : DS.Loc} {S : Sto} : eCntL fo fa L S = (fo L S).bind fun p => match p.1 with
  | .lst xs => (fa L p.2).bind fun q => (gCntT xs q.1).map fun d => (d, q.2)
  | _ => none := rfl
theorem at4 {q : Int} (h0 : 0 ≤ q) (h1 : q < 4) : ∃ z : Int, atI [D.int 0, D.int 0, D.int 1, D.int 9] q = some (.int z) ∧ 0 ≤ z := by
  rcases (by omega : q = 0 ∨ q = 1 ∨ q = 2 ∨ q = 3) with rfl | rfl | rfl | rfl <;> exact ⟨_, rfl, by decide⟩
theorem at5 {q : Int} (h0 : 0 ≤ q) (h1 : q < 5) : ∃ z : Int, atI [D.int 0, D.int 0, D.int 0, D.int 1, D.int 5] q = some (.int z) ∧ 0 ≤ z ∧ z ≤ 5 := by
  rcases (by omega : q = 0 ∨ q = 1 ∨ q = 2 ∨ q = 3 ∨ q = 4) with rfl | rfl | rfl | rfl | rfl <;> exact ⟨_, rfl, by decide, by decide⟩
theorem mul_if {d : D} {b : Bool} : gMul (.lst [d]) (.int (if b = true then 1 else 0)) S = some (.lst (if b then [d] else []), S) := by
  have e : ∀ k : Int, gMul (.lst [d]) (.int k) S = (asL S (.lst [d])).bind fun xs => chk (-(2 ^ 63) ≤ k ∧ k < 2 ^ 63 ∧ xs.length * k.toNat ≤ sizeLine) (some (.lst (List.replicate k.toNat xs).flatten, S)) := fun k => by
    unfold gMul; rfl
  have e2 : asL S (.lst [d]) = some [d] := rfl
  cases b
  · rw [if_neg (by decide), e, e2, Option.bind_some, chk_pos ⟨by decide, by decide, by simp⟩]
    rfl
  · rw [if_pos rfl, e, e2, Option.bind_some, chk_pos ⟨by decide, by decide, by simp [sizeLine_eq]⟩]
    rfl
theorem gNe_tnil {xs : List Int} : gNe (.tup (xs.map D.int)) (.tup []) S = some (.bl (!decide (xs = [])), S) := gNe2 (Eq2.tt Eq2.int) (by decide) xs []
theorem clB {n f : Nat} {bs : List Bd} : ∀ x, x ∈ bs.map dB → Cl n (f + 2) x := fun x hx => by
  obtain ⟨b, _, rfl⟩ := List.mem_map.mp hx
  intro y hy
  simp only [List.mem_cons, List.not_mem_nil, or_false] at hy
  rcases hy with rfl | rfl | rfl <;> trivial
/-- drawn bounds -/
structure BsD (bs : List Bd) : Prop where
  nd : (bs.map (·.1)).Nodup
  bd : ∀ b, b ∈ bs → 0 ≤ b.2.1 ∧ b.2.1 ≤ b.2.2 ∧ b.2.2 ≤ 1000 ∧ 0 ≤ b.1 ∧ b.1 ≤ 63
  few : bs.length ≤ 50
theorem BsD.ok {bs : List Bd} (h : BsD bs) : BsOk bs := ⟨h.nd, fun b hb => ⟨(h.bd b hb).1, (h.bd b hb).2.1, by have := h.bd b hb; omega⟩, h.few⟩
theorem draw_counts {ks : List Nat} (hS : RS X S) (hX : ClX X) (hs : StD m st) (hk : ∀ n, n ∈ ks → n < m) (hkl : ks.length ≤ 4 + 2) :
    En (F__law_draw_counts [.ref 1, dS st, .tud (ks.map dN)] S) fun p => RS X p.2 ∧ ∃ bs : List Bd, p.1 = .tup (bs.map dB) ∧ BsD bs := by
  have hl2 := rs_len hS
  have hw := hs.w
  refine en_fn rfl ?_
  simp only [B__law_draw_counts, ev_all, ls_all, Nat.reduceSub, Nat.reduceAdd]
  refine en_forT dN (fun pre L S' => L = [some (.ref 1), some (dS st), some (.tud (ks.map dN)), some (.lst ((valsF st pre).map .int)), none, none, none, none, none, none, none, none] ∧ S' = S) ks ⟨rfl, rfl⟩ ?_ ?_
  · rintro pre n post L S' hsp ⟨rfl, rfl⟩
    have hpl : pre.length ≤ 6 := by
      have := congrArg List.length hsp
      simp at this
      omega
    have hvl := (valsF_ok hw pre).2.1
    have hnl := (hw.nd n).2
    have hfl := List.length_filter_le (fun v => !decide (v ∈ valsF st pre)) (st.getD n [])
    refine ⟨trivial, ?_⟩
    simp only [ev_all, ls_all, Nat.reduceAdd, List.getElem?_map, hw.v.at (hk n (by rw [hsp]; simp))]
    refine en_lcM D.int (fun v => !decide (v ∈ valsF st pre)) D.int (st.getD n []) trivial (fun v _ => ?_) ?_
    · have ei := in_lE (neg := true) Eq2.int (show 1 ≤ 63 by decide) v (valsF st pre) (S := S')
      rw [Bool.true_xor] at ei
      simp only [ev_all, ls_all, Nat.reduceAdd, ei]
    have ga := gAdd_l (xs := (valsF st pre).map D.int) (ys := (newV (valsF st pre) (st.getD n [])).map D.int) (S := S') (by simp only [List.length_map, newV]; omega)
    rw [← List.map_append, ← valsF_snoc] at ga
    rw [show (st.getD n []).filter (fun v => !decide (v ∈ valsF st pre)) = newV (valsF st pre) (st.getD n []) from rfl]
    simp only [ev_all, ls_all, Nat.reduceAdd, List.length_map, show Sz (newV (valsF st pre) (st.getD n [])).length from sz_ok (by unfold newV; omega), ga]
  rintro L S' ⟨rfl, rfl⟩
  obtain ⟨hvn, hvl, hvm⟩ := valsF_ok hw ks
  have hsub : ∀ v, v ∈ valsF st ks → v ∈ vL := fun v hv => by
    obtain ⟨n, _, h⟩ := (hvm v).mp hv
    exact (hs.vat n).2.2 v h
  generalize valsF st ks = some0 at hvn hvl hsub
  refine ⟨trivial, ?_⟩
  simp only [ev_all, ls_all, Nat.reduceAdd]
  -- a drawn row
  refine en_lc (fun i acc S1 => RS X S1 ∧ ∃ ys : List Int, acc = ys.map .int ∧ ys.length ≤ i) (ks.map dN) ⟨hS, [], rfl, Nat.le_refl _⟩ ?_ ?_
  · rintro i d acc S1 hi ⟨r1, ys, rfl, hyl⟩
    rw [List.getElem?_map] at hi
    obtain ⟨n, hn, rfl⟩ := Option.map_eq_some_iff.mp hi
    have hnm := hk n (List.mem_of_getElem? hn)
    obtain ⟨zs, S2, e2, r2, p2⟩ := any_ints (d := .lst ((st.getD n []).map .int)) (xs := st.getD n []) r1 hX rfl (by have := (hw.nd n).2; omega)
    refine ⟨trivial, ?_⟩
    simp only [ev_all, ls_all, Nat.reduceAdd, List.getElem?_map, hw.v.at hnm, gNe_tnil]
    by_cases q : st.getD n [] = []
    · simp only [q, decide_true, Bool.not_true, Bool.false_eq_true, if_false]
      exact ⟨r1, ys, rfl, by omega⟩
    · have k1 : gList false [dT (st.getD n [])] S1 = some (.lst ((st.getD n []).map .int), S1) := rfl
      obtain ⟨z, zs', rfl⟩ : ∃ z zs', zs = z :: zs' := by
        cases zs with
        | nil => exact absurd (List.nil_perm.mp p2) q
        | cons z zs' => exact ⟨z, zs', rfl⟩
      simp only [List.map_cons] at e2
      simp only [q, decide_false, Bool.not_false, if_true, ev_all, ls_all, k1, e2]
      exact ⟨r2, ys ++ [z], by simp, by simp; omega⟩
  rintro acc S1 ⟨r1, row, rfl, hrl⟩
  rw [List.length_map] at hrl
  refine ⟨trivial, ?_⟩
  obtain ⟨q1, S2, e1, r2, _, _⟩ := pick_spec (rs_new (o := .lst []) r1) (clx_one hX (o := .lst []) (by intro x hx; cases hx)) (many := 2) (by decide)
  have hl3 := rs_len r1
  simp only [ev_all, ls_all, Nat.reduceAdd, List.length_map, show Sz row.length from sz_ok (by omega), e1, List.reverse_cons, List.reverse_nil]
  obtain ⟨q2, S3, e3, r3, _, _⟩ := pick_spec r2 (clx_one hX (o := .lst []) (by intro x hx; cases hx)) (many := 6) (by decide)
  have k1 : ∀ b : Bool, gInt [.bl b] S3 = some (.int (if b = true then 1 else 0), S3) := fun _ => rfl
  simp only [e3, k1, mul_if, ev_all, ls_all]
  have hb : ∃ more : List Int, (if decide (q2 = 0) = true then [D.int 7] else []) = more.map .int ∧ more.length ≤ 1 ∧ ∀ v, v ∈ more → v = 7 := by
    by_cases q : q2 = 0
    · exact ⟨[7], by simp [q], by simp, by simp⟩
    · exact ⟨[], by simp [q], by simp, by simp⟩
  obtain ⟨more, hmore, hml, hm7⟩ := hb
  have ga := gAdd_l (xs := some0.map D.int) (ys := more.map D.int) (S := S3) (by simp only [List.length_map]; omega)
  rw [← List.map_append] at ga
  have gs := srt_ints (S := S3) (xs := some0 ++ more) (by simp; omega)
  have hmnd : (some0 ++ more).Nodup := by
    rw [List.nodup_append]
    refine ⟨hvn, ?_, fun x hx y hy e => vL_ok.2.2 (hm7 y hy ▸ e ▸ hsub x hx)⟩
    match more, hml with
    | [], _ => simp
    | [a], _ => simp
  have hmb : ∀ v, v ∈ some0 ++ more → 0 ≤ v ∧ v ≤ 63 := fun v hv => by
    rcases List.mem_append.mp hv with h | h
    · exact vL_ok.2.1 v (hsub v h)
    · rw [hm7 v h]; decide
  have hsl : (srt (some0 ++ more)).length ≤ 70 := by rw [srt_len, List.length_append]; omega
  have hsn : (srt (some0 ++ more)).Nodup := (srt_perm _).nodup_iff.mpr hmnd
  have hsm : ∀ v, v ∈ srt (some0 ++ more) → v ∈ some0 ++ more := fun v hv => srt_mem.mp hv
  have hvL : (srt (some0 ++ more)).length ≤ 9 := by
    have h1 : (some0 ++ more).length ≤ (vL ++ [7]).length := nodup_le hmnd fun v hv => by
      rcases List.mem_append.mp hv with h | h
      · exact List.mem_append_left _ (hsub v h)
      · rw [hm7 v h]; simp
    rw [srt_len]
    exact h1
  simp only [hmore, ga, gs, ev_all, ls_all]
  generalize srt (some0 ++ more) = vals at hsl hsn hsm hvL
  refine en_forT D.int (fun pre L S' => L = [some (.ref 1), some (dS st), some (.tud (ks.map dN)), some (.lst (some0.map .int)), none, some (.lst (row.map .int)), none, some (.ref (X.length + 2)), some (.bl (decide (q1 = 0))), none, none, none] ∧ ∃ bs : List Bd, RS (X ++ [.lst (bs.map dB)]) S' ∧ (bs.map (·.1)).Sublist pre ∧ ∀ b, b ∈ bs → 0 ≤ b.2.1 ∧ b.2.1 ≤ b.2.2 ∧ b.2.2 ≤ 1000) vals ⟨by rw [hl3], [], r3, by simp, by simp⟩ ?_ ?_
  · rintro pre v post L S' hsp ⟨rfl, bs, r4, hsubl, hbs⟩
    have hXb : ClX (X ++ [.lst (bs.map dB)]) := clx_one hX (clB (f := 10))
    have hpl : pre.length ≤ 9 := by
      have := congrArg List.length hsp
      simp at this
      omega
    have hbl : bs.length ≤ 9 := by
      have := hsubl.length_le
      rw [List.length_map] at this
      omega
    have hcl : row.count v ≤ 6 := Nat.le_trans List.count_le_length (by omega)
    have kc : gCntT (row.map D.int) [.int v] = some (.int (row.count v : Nat)) := cnt_R
    generalize row.count v = c at kc hcl
    refine ⟨trivial, ?_⟩
    obtain ⟨q3, S4, e4, r5, q30, q31⟩ := pick_spec r4 hXb (many := 4) (by decide)
    obtain ⟨z3, hz3, hz30⟩ := at4 q30 (by omega)
    obtain ⟨q4, S5, e5, r6, _, _⟩ := pick_spec r5 hXb (many := 12) (by decide)
    have k2 : ∀ (b : Bool) S, gInt [.bl b] S = some (.int (if b = true then 1 else 0), S) := fun _ _ => rfl
    have k3 : ∀ (a b : Int) S, gMax2 [.int a, .int b] S = some (.int (max a b), S) := fun _ _ _ => rfl
    simp only [ev_cntL, ev_all, ls_all, Nat.reduceAdd, kc, e4, hz3, e5, k2, k3]
    have hlow : ∃ low : Int, max 0 ((c : Int) - z3 + if decide (q4 = 0) = true then 1 else 0) = low ∧ 0 ≤ low ∧ low ≤ 100 := ⟨_, rfl, by omega, by split <;> omega⟩
    obtain ⟨low, hlow, hlow0, hlow1⟩ := hlow
    rw [hlow]
    refine En.mono (Q := fun p => ∃ high : Int, p.1 = .int high ∧ low ≤ high ∧ high ≤ 1000 ∧ RS (X ++ [.lst (bs.map dB)]) p.2) ?_ ?_
    · have hA : ∀ S0, RS (X ++ [.lst (bs.map dB)]) S0 → En (eOp2 gAdd (eFun (gMax2) (aCons (eVar 10) (aCons (eVar 9) (aNil)))) (eOp2 gIx (eLst (aCons (eC (.int 0)) (aCons (eC (.int 0)) (aCons (eC (.int 0)) (aCons (eC (.int 1)) (aCons (eC (.int 5)) (aNil))))))) (eFun (F__law_pick) (aCons (eVar 0) (aCons (eC (.int 5)) (aNil))))) [some (.ref 1), some (dS st), some (.tud (ks.map dN)), some (.lst (some0.map .int)), none, some (.lst (row.map .int)), some (.int v), some (.ref (X.length + 2)), some (.bl (decide (q1 = 0))), some (.int c), some (.int low), none] S0) fun p => ∃ high : Int, p.1 = .int high ∧ low ≤ high ∧ high ≤ 1000 ∧ RS (X ++ [.lst (bs.map dB)]) p.2 := fun S0 r0 => by
        obtain ⟨q5, S6, e6, r7, q50, q51⟩ := pick_spec r0 hXb (many := 5) (by decide)
        obtain ⟨z5, hz5, hz50, hz51⟩ := at5 q50 (by omega)
        simp only [ev_all, ls_all, Nat.reduceAdd, k3, e6, hz5]
        exact ⟨_, rfl, by omega, by omega, r7⟩
      simp only [ev_if, en_bind]
      by_cases hq1 : q1 = 0
      · obtain ⟨q6, S7, e7, r8, _, _⟩ := pick_spec r6 hXb (many := 2) (by decide)
        simp only [ev_all, ls_all, Nat.reduceAdd, hq1, decide_true, e7]
        by_cases hq6 : q6 = 0
        · simp only [hq6, decide_true, ev_all, ls_all]
          exact ⟨low, rfl, Int.le_refl _, by omega, r8⟩
        · have := hA S7 r8
          rw [hq1] at this
          simp only [decide_true] at this
          simp only [hq6, decide_false, Bool.false_eq_true, if_false]
          exact this
      · have := hA S5 r6
        simp only [hq1, decide_false] at this
        simp only [ev_all, ls_all, hq1, decide_false]
        simp only [ev_all, ls_all] at this
        exact this
    · rintro ⟨_, S8⟩ ⟨high, rfl, hh1, hh2, r8⟩
      obtain ⟨q7, S9, e9, r9, _, _⟩ := pick_spec r8 hXb (many := 5) (by decide)
      have a1 := asL_r (rs_top r9)
      have a2 := mAppend_ok (k := X.length + 2) (d := dB (v, low, high)) (S := S9) (xs := bs.map dB) (by rw [List.length_map, sizeLine_eq]; omega)
      simp only [ev_all, ls_all, Nat.reduceAdd]
      rw [en_sif]
      simp only [ev_all, ls_all, Nat.reduceAdd, e9]
      by_cases hq7 : 0 < q7
      · simp only [hq7, decide_true, ev_all, ls_all, Nat.reduceAdd, a1, a2]
        refine ⟨bs ++ [(v, low, high)], by rw [List.map_append]; exact rs_put r9, ?_, fun b hb => ?_⟩
        · rw [List.map_append]
          exact hsubl.append (List.Sublist.refl _)
        · rcases List.mem_append.mp hb with h | h
          · exact hbs b h
          · rw [List.mem_singleton.mp h]; exact ⟨hlow0, hh1, hh2⟩
      · simp only [hq7, decide_false, ev_all, ls_all, Nat.reduceAdd]
        exact ⟨bs, r9, hsubl.trans (List.sublist_append_left _ _), hbs⟩
  · rintro L S' ⟨rfl, bs, r4, hsubl, hbs⟩
    have k5 := gTup_r (rs_top r4)
    obtain ⟨S9, e9, r9⟩ := rs_cutX (Y := [.lst (bs.map dB)]) (d := .tup (bs.map dB)) hS r4 hX (clB (f := 9))
    have hbl : bs.length ≤ 9 := by
      have := hsubl.length_le
      rw [List.length_map] at this
      omega
    refine ⟨trivial, ?_⟩
    simp only [ev_all, ls_all, Nat.reduceAdd, k5, e9]
    refine ⟨r9, bs, rfl, hsn.sublist hsubl, fun b hb => ?_, by omega⟩
    obtain ⟨h1, h2, h3⟩ := hbs b hb
    obtain ⟨h4, h5⟩ := hmb b.1 (hsm _ (hsubl.subset (List.mem_map_of_mem hb)))
    exact ⟨h1, h2, h3, h4, h5⟩
theorem draw_rule {most : Nat} (hS : RS X S) (hX : ClX X) (hs : StD m st) (hm1 : 1 ≤ most) (hm2 : most ≤ 6) :
    En (F__law_draw_rule [.ref 1, dS st, .int most] S) fun p => RS X p.2 ∧ ∃ ks : List Nat, (ks.Pairwise (· < ·) ∧ 1 ≤ ks.length ∧ ks.length ≤ 6 ∧ ∀ n, n ∈ ks → n < m) ∧ (p.1 = ruU ks ∨ ∃ bs, p.1 = ruC ks bs ∧ BsD bs) := by
  refine en_fn rfl ?_
  obtain ⟨⟨_, S1⟩, e1, r1, ks, rfl, h1, h2, h3, h4⟩ := draw_lot hS hX hs hm1 (by omega)
  simp only at r1 e1
  obtain ⟨q1, S2, e2, r2, _, _⟩ := pick_spec r1 hX (many := 2) (by decide)
  obtain ⟨⟨_, S3⟩, e3, r3, bs, rfl, hbs⟩ := draw_counts r2 hX hs h4 (by omega)
  simp only at r3 e3
  simp only [B__law_draw_rule, ev_all, ls_all, Nat.reduceSub, Nat.reduceAdd, e1]
  rw [en_sif]
  simp only [ev_all, ls_all, Nat.reduceAdd, e2]
  by_cases q : q1 = 0
  · have hcut := rs_cut (d := ruU ks) hS r2 hX (fun x hx => by
      simp only [List.mem_cons, List.not_mem_nil, or_false] at hx
      rcases hx with rfl | rfl
      · trivial
      · exact clN (f := 9))
    simp only [q, decide_true, ev_all, ls_all, hcut]
    exact ⟨r2, ks, ⟨h1, h2, by omega, h4⟩, .inl rfl⟩
  · have hcut := rs_cut (d := ruC ks bs) hS r3 hX (fun x hx => by
      simp only [List.mem_cons, List.not_mem_nil, or_false] at hx
      rcases hx with rfl | rfl | rfl
      · trivial
      · exact clN (f := 9)
      · exact clB (f := 8))
    simp only [q, decide_false, ev_all, ls_all, e3, hcut]
    exact ⟨r3, ks, ⟨h1, h2, by omega, h4⟩, .inr ⟨bs, rfl, hbs⟩⟩
end

section
variable {S : Sto} {ks : List Nat} {st : List (List Int)} {m : Nat} {R : D} {hi : Int → Option Int} {bs : List Bd}
/-! ### the first fault of what is told: none -/
theorem gNe_s {i j : Str} (hi : PyData.strOk i = true) (hj : PyData.strOk j = true) : gNe (.str i) (.str j) S = some (.bl (!decide (i = j)), S) := by
  rw [gNe_pn (f := 1) (pn_str.mpr hi) (pn_str.mpr hj) (by decide)]; simp
theorem w_rr : gEq (.str "row") (.str "row") S = some (.bl true, S) := by
  rw [gEq_s okw2.2.2.1 okw2.2.2.1, show decide (("row" : Str) = "row") = true by decide]
theorem w_cr : gEq (.str "crowd") (.str "row") S = some (.bl false, S) := by
  rw [gEq_s okw2.2.2.2.1 okw2.2.2.1, show decide (("crowd" : Str) = "row") = false by decide]
theorem w_wr : gEq (.str "want") (.str "row") S = some (.bl false, S) := by
  rw [gEq_s okw2.2.2.2.2 okw2.2.2.1, show decide (("want" : Str) = "row") = false by decide]
theorem w_crcr : gEq (.str "crowd") (.str "crowd") S = some (.bl true, S) := by
  rw [gEq_s okw2.2.2.2.1 okw2.2.2.2.1, show decide (("crowd" : Str) = "crowd") = true by decide]
theorem w_wcr : gEq (.str "want") (.str "crowd") S = some (.bl false, S) := by
  rw [gEq_s okw2.2.2.2.2 okw2.2.2.2.1, show decide (("want" : Str) = "crowd") = false by decide]
theorem n_ww : gNe (.str "want") (.str "want") S = some (.bl false, S) := by
  rw [gNe_s okw2.2.2.2.2 okw2.2.2.2.2, show decide (("want" : Str) = "want") = true by decide]; rfl
theorem n_rr : gNe (.str "row") (.str "row") S = some (.bl false, S) := by
  rw [gNe_s okw2.2.2.1 okw2.2.2.1, show decide (("row" : Str) = "row") = true by decide]; rfl
theorem n_cr : gNe (.str "crowd") (.str "row") S = some (.bl true, S) := by
  rw [gNe_s okw2.2.2.2.1 okw2.2.2.1, show decide (("crowd" : Str) = "row") = false by decide]; rfl
theorem n_wr : gNe (.str "want") (.str "row") S = some (.bl true, S) := by
  rw [gNe_s okw2.2.2.2.2 okw2.2.2.1, show decide (("want" : Str) = "row") = false by decide]; rfl
noncomputable abbrev toldG (i : Nat) : EF := eIf (bVal (eOp2 gEq (eOp2 gIx (eVar 1) (eC (.int 0))) (eC (.str "counts")))) (eFro (lcF [i] (iSeq (eOp2 gIx (eVar 1) (eC (.int 2)))) (gfName i) (bYes) (eOp2 gIx (eVar i) (eC (.int 0))))) (eLst (aNil))
theorem tg_ruU (a0 a2 a3 a4 a5 a6 a7 a8 a9 : Option D) : toldG 9 [a0, some (ruU ks), a2, a3, a4, a5, a6, a7, a8, a9] S = some (.lst ((([] : List Bd).map (·.1)).map .int), S) := by
  rw [en_val]
  simp only [toldG, ev_if, ev_all, ls_all, Nat.reduceAdd, w_uc]
theorem tg_ruC (hb : bs.length ≤ 50) (a0 a2 a3 a4 a5 a6 a7 a8 a9 : Option D) : toldG 9 [a0, some (ruC ks bs), a2, a3, a4, a5, a6, a7, a8, a9] S = some (.lst ((bs.map (·.1)).map .int), S) := by
  rw [en_val]
  simp only [toldG, ev_if, ev_all, ls_all, Nat.reduceAdd, w_cc]
  refine en_lcA (ok := fun _ => True) (S := S) dB (fun b => .int b.1) bs trivial (fun b _ => ?_) ?_
  · simp only [ev_all, ls_all, Nat.reduceAdd]
  · have em : bs.map (fun b => D.int b.1) = (bs.map (·.1)).map D.int := by rw [List.map_map]; rfl
    rw [em]
    simp only [ev_all, ls_all, Nat.reduceAdd, List.length_map, show Sz bs.length from sz_ok (by omega)]
/-- all that is known of a rule -/
structure Rul (st : List (List Int)) (m : Nat) (R : D) (hi : Int → Option Int) (bs : List Bd) (ks : List Nat) : Prop where
  asc : ks.Pairwise (· < ·)
  l1 : 1 ≤ ks.length
  l6 : ks.length ≤ 6
  inn : ∀ n, n ∈ ks → n < m
  lot : ∀ S, ClS S → F_lot_of [R] S = some (.tud (ks.map dN), S)
  hiOk : HiOk R hi
  bdOk : BdOk R bs
  hiL : ∀ S, ClS S → ∀ v, F__law_high [R, .int v] S = some (.int (highV hi v), S)
  loL : ∀ S, ClS S → ∀ v, F__law_low [R, .int v] S = some (.int (lowOf bs v : Nat), S)
  nm : ∀ S, gIx R (.int 1) S = some (.tud (ks.map dN), S)
  rows : ∀ S, ClS S → F__law_rows [dS st, R] S = some (.lst ((rowsK st hi bs ks).map dR), S)
  hi0 : ∀ v h, hi v = some h → 0 ≤ h
  hilo : ∀ w h, hi w = some h → (lowOf bs w : Int) ≤ h
  few : bs.length ≤ 50
  told : ∀ (S : Sto) (a0 a2 a3 a4 a5 a6 a7 a8 a9 : Option D), toldG 9 [a0, some R, a2, a3, a4, a5, a6, a7, a8, a9] S = some (.lst ((bs.map (·.1)).map .int), S)
theorem Rul.nd (h : Rul st m R hi bs ks) : ks.Nodup := h.asc.imp fun q e => by omega
def domO (st : List (List Int)) : Option (Nat × Int) → Nat → List Int
  | none => domS st
  | some p => domW st p.1 p.2
/-- a name of the rule with a value, or none -/
def InO (st : List (List Int)) (ks : List Nat) : Option (Nat × Int) → Prop
  | none => True
  | some p => p.1 ∈ ks ∧ p.2 ∈ st.getD p.1 []
theorem domO_sub {o : Option (Nat × Int)} (ho : InO st ks o) {n : Nat} {v : Int} (hv : v ∈ domO st o n) : v ∈ st.getD n [] := by
  cases o with
  | none => exact hv
  | some p =>
    unfold domO domW at hv
    dsimp only at hv
    split at hv
    · rename_i e
      rw [List.mem_singleton.mp hv, e]
      exact ho.2
    · exact hv
theorem isRow_sub {o : Option (Nat × Int)} (ho : InO st ks o) {row : List Int} (h : IsRow (domO st o) hi bs ks row) : IsRow (domS st) hi bs ks row := ⟨h.len, fun p hp => domO_sub ho (h.dm p hp), h.up, h.lo⟩
theorem idx_at {n0 : Nat} : ∀ {ks : List Nat}, n0 ∈ ks → ks[ks.idxOf n0]? = some n0 := fun h => by
  have hl := List.idxOf_lt_length_of_mem h
  rw [List.getElem?_eq_getElem hl, List.getElem_idxOf hl]
theorem isRow_val {n0 : Nat} {v0 : Int} {row : List Int} (h0 : n0 ∈ ks) (h : IsRow (domW st n0 v0) hi bs ks row) : row[ks.idxOf n0]? = some v0 := by
  have hl := List.idxOf_lt_length_of_mem h0
  have hr : ks.idxOf n0 < row.length := by rw [h.len]; exact hl
  have hz : (ks.zip row)[ks.idxOf n0]? = some (n0, row[ks.idxOf n0]) := by
    rw [List.getElem?_zip_eq_some]
    exact ⟨idx_at h0, List.getElem?_eq_getElem hr⟩
  have := h.dm _ (List.mem_of_getElem? hz)
  unfold domW at this
  rw [if_pos rfl, List.mem_singleton] at this
  rw [List.getElem?_eq_getElem hr]
  exact congrArg some this
theorem idxOf_num {n0 : Nat} : ∀ ks : List Nat, (numsI ks).idxOf (n0 : Int) = ks.idxOf n0
  | [] => rfl
  | k :: ks => by
    have ih := idxOf_num (n0 := n0) ks
    simp only [numsI] at ih ⊢
    rw [List.map_cons, List.idxOf_cons, List.idxOf_cons, ih]
    by_cases q : k = n0
    · rw [q]; simp
    · have h2 : ¬ (k : Int) = (n0 : Int) := by omega
      have e1 : (k == n0) = false := by simpa using q
      have e2 : ((k : Int) == (n0 : Int)) = false := by simpa using h2
      rw [e1, e2]
theorem gIdx_N {n0 : Nat} (h0 : n0 ∈ ks) : gIdxT (ks.map dN) [dN n0] = some (.int ((ks.idxOf n0 : Nat) : Int)) := by
  rw [dN_ints]
  show (intsD ((numsI ks).map D.int)).bind _ = _
  rw [intsD_map, Option.bind_some, if_pos (List.mem_map.mpr ⟨n0, h0, rfl⟩), idxOf_num]
theorem two2 : ((2 : Nat) : Int) = 2 := rfl
theorem isi_ss {s : Str} : isiD .str (.str s) = some true := rfl
theorem isRow_nn (hs : StD m st) {row : List Int} (h : IsRow (domS st) hi bs ks row) : ∀ v, v ∈ row → 0 ≤ v := fun v hv => by
  obtain ⟨z1, z2⟩ := zip_fst h.len
  rw [← z2] at hv
  obtain ⟨p, hp, rfl⟩ := List.mem_map.mp hv
  exact (vL_ok.2.1 _ ((hs.vat p.1).2.2 _ (h.dm p hp))).1
theorem fault_none (hs : StD m st) (h : Rul st m R hi bs ks) {o : Option (Nat × Int)} (ho : InO st ks o) {d : D} (hA : Ans (domO st o) hi bs ks (o.map (·.1)) d) (hS : ClS S) :
    F__law_paper_fault [dS st, R, nmD (o.map (·.1)), oI (o.map (·.2)), d] S = some (.non, S) := by
  have hw := hs.w
  have hcut := cut_id (d := .non) hS trivial
  have h6 := h.l6
  refine en_val.mpr (en_fn rfl ?_)
  cases hA with
  | row row hr =>
    have hr1 := row_is hr
    have hr2 := isRow_sub ho hr1
    have hlen := hr1.len
    have hin := (mem_rowsK h.hi0 (by omega)).mpr hr2
    simp only [B__law_paper_fault, ev_all, ls_all, Nat.reduceSub, Nat.reduceAdd]
    rw [en_sif]
    simp only [ev_all, ls_all, Nat.reduceAdd, ev_isi, isi_tt, isi_ss, two2]
    rw [en_sif]
    simp only [ev_all, ls_all, Nat.reduceAdd, ev_isi, isi_tt]
    rw [en_sif]
    simp only [ev_all, ls_all, Nat.reduceAdd, w_rr]
    rw [en_sif]
    simp only [ev_all, ls_all, Nat.reduceAdd, h.nm, List.length_map, hlen]
    refine en_lcA D.int (fun _ => .bl true) row trivial (fun x _ => ?_) ?_
    · simp only [ev_all, ls_all, Nat.reduceAdd, ev_isi, isi_ii, isi_bi]
    simp only [ev_all, ls_all, Nat.reduceAdd, List.length_map, show Sz row.length from sz_ok (by omega), gAll_true]
    rw [en_sif]
    simp only [ev_all, ls_all, Nat.reduceAdd]
    refine en_lcA D.int (fun _ => .bl true) row trivial (fun x hx => ?_) ?_
    · have := isRow_nn hs hr2 x hx
      simp only [ev_all, ls_all, Nat.reduceAdd, ge_iff_le, this]
    have ei := in_lE (neg := false) (Eq2.dt Eq2.int) (show 2 ≤ 63 by decide) row (rowsK st hi bs ks) (S := S)
    rw [Bool.false_xor] at ei
    simp only [hin, decide_true] at ei
    simp only [ev_all, ls_all, Nat.reduceAdd, List.length_map, show Sz row.length from sz_ok (by omega), gAll_true, h.rows S hS, ei]
    cases o with
    | none =>
      have k1 : gIsN .non .non S = some (.bl true, S) := rfl
      simp only [Option.map_none, nmD, oI, ev_if, ev_all, ls_all, Nat.reduceAdd, k1, hcut]
    | some p =>
      obtain ⟨n0, v0⟩ := p
      have k1 : gIsN (dN n0) .non S = some (.bl false, S) := rfl
      have k2 := gIdx_N ho.1
      have k3 := isRow_val ho.1 hr1
      simp only [Option.map_some, nmD, oI, ev_if, ev_all, ls_all, Nat.reduceAdd, k1, h.nm, k2, List.getElem?_map, k3, hcut]
  | crowd M hc =>
    simp only [B__law_paper_fault, ev_all, ls_all, Nat.reduceSub, Nat.reduceAdd]
    rw [en_sif]
    simp only [ev_all, ls_all, Nat.reduceAdd, ev_isi, isi_tt, isi_ss, two2]
    rw [en_sif]
    simp only [ev_all, ls_all, Nat.reduceAdd, ev_isi, isi_tt]
    rw [en_sif]
    simp only [ev_all, ls_all, Nat.reduceAdd, w_cr]
    rw [en_sif]
    simp only [ev_all, ls_all, Nat.reduceAdd, w_crcr]
    rw [en_sif]
    simp only [ev_all, ls_all, Nat.reduceAdd, h.nm]
    have hM : (M.filter fun n => !decide (some n = o.map (·.1))).Nodup := hc.nd.sublist List.filter_sublist
    have hMl : (M.filter fun n => !decide (some n = o.map (·.1))).length ≤ 6 := by
      have h1 := List.length_filter_le (fun n => !decide (some n = o.map (·.1))) M
      have h2 := nodup_le hc.nd hc.sub
      omega
    have hMs : ∀ n, n ∈ (M.filter fun n => !decide (some n = o.map (·.1))) → n ∈ ks.filter fun n => !decide (some n = o.map (·.1)) := fun n hn => by
      rw [List.mem_filter] at hn ⊢
      exact ⟨hc.sub n hn.1, hn.2⟩
    refine en_lcM dN (fun n => !decide (some n = o.map (·.1))) dN ks trivial (fun n _ => ?_) ?_
    · have := ne_nm (S := S) n (o.map (·.1))
      simp only [ev_all, ls_all, Nat.reduceAdd, this]
    have hkf := List.length_filter_le (fun n => !decide (some n = o.map (·.1))) ks
    have hup := is_up_true (S := S) (xs := srt (numsI (M.filter fun n => !decide (some n = o.map (·.1))))) (kn := numsI (ks.filter fun n => !decide (some n = o.map (·.1)))) (srt_lt (by
      unfold List.Nodup
      rw [List.pairwise_map]
      exact hM.imp fun q e => q (by omega))) (fun x hx => by
      obtain ⟨n, hn, rfl⟩ := List.mem_map.mp (srt_mem.mp hx)
      exact List.mem_map.mpr ⟨n, hMs n hn, rfl⟩) (by rw [srt_len, List.length_map]; omega) hS
    rw [← dN_ints] at hup
    simp only [ev_all, ls_all, Nat.reduceAdd, List.length_map, show Sz (ks.filter fun n => !decide (some n = o.map (·.1))).length from sz_ok (by omega), hup]
    obtain ⟨ns, hns, hp⟩ := srtNs (M.filter fun n => !decide (some n = o.map (·.1)))
    have hnm : ∀ n, n ∈ ns → n < m := fun n hn => h.inn n (hc.sub n (List.mem_filter.mp (hp.mem_iff.mp hn)).1)
    have hnl : ns.length ≤ 50 := by rw [hp.length_eq]; omega
    have hic := is_crowd_eq hw h.hiL hnm hnl hS (o.map (·.2))
    rw [hns, ← dN_ints]
    cases o with
    | none =>
      have hfm : (M.filter fun n => !decide (some n = (Option.map (·.1) (none : Option (Nat × Int))))) = M := List.filter_eq_self.mpr fun n _ => rfl
      rw [hfm] at hp
      have k1 : gIsN .non .non S = some (.bl true, S) := rfl
      have hne : ns ≠ [] := fun e => by
        subst e
        exact hc.ne (List.nil_perm.mp hp)
      have k2 : gEq (.tup (ns.map dN)) (.tup []) S = some (.bl (decide (ns = [])), S) := gEq2 (Eq2.tt Eq2.nat) (by decide) ns []
      simp only [hne, decide_false] at k2
      simp only [Option.map_none, nmD] at hic
      rw [crowd_right_none hw h.hi0 hc hp] at hic
      simp only [oI] at hic
      simp only [Option.map_none, nmD, oI, ev_if, ev_all, ls_all, Nat.reduceAdd, k1, k2, hic, hcut]
    | some p =>
      obtain ⟨n0, v0⟩ := p
      have k1 : gIsN (dN n0) .non S = some (.bl false, S) := rfl
      have := crowd_right_some hw h.hi0 (n0 := n0) (v0 := v0) hc hp
      simp only [Option.map_some, nmD] at hic
      rw [this] at hic
      simp only [oI] at hic
      simp only [Option.map_some, nmD, oI, ev_if, ev_all, ls_all, Nat.reduceAdd, k1, hic, hcut]
  | want W hc =>
    have hWl : W.length ≤ 50 := by
      have h1 : W.Nodup := hc.asc.imp fun q => Int.ne_of_lt q
      have h2 := nodup_le h1 hc.td
      rw [List.length_map] at h2
      have := h.few
      omega
    simp only [B__law_paper_fault, ev_all, ls_all, Nat.reduceSub, Nat.reduceAdd]
    rw [en_sif]
    simp only [ev_all, ls_all, Nat.reduceAdd, ev_isi, isi_tt, isi_ss, two2]
    rw [en_sif]
    simp only [ev_all, ls_all, Nat.reduceAdd, ev_isi, isi_tt]
    rw [en_sif]
    simp only [ev_all, ls_all, Nat.reduceAdd, w_wr]
    rw [en_sif]
    simp only [ev_all, ls_all, Nat.reduceAdd, w_wcr]
    have k9 := h.told S (some (dS st)) (some (nmD (o.map (·.1)))) (some (oI (o.map (·.2)))) (some (.tup [.str "want", .tup (W.map .int)])) (some (.str "want")) (some (.tup (W.map .int))) none none none
    simp only [toldG] at k9
    refine En.eq k9 ?_
    simp only [ev_all, ls_all, Nat.reduceAdd]
    rw [en_sif]
    have k2 : gEq (.tup (W.map D.int)) (.tup []) S = some (.bl (decide (W = [])), S) := gEq2 (Eq2.tt Eq2.int) (by decide) W []
    simp only [hc.ne, decide_false] at k2
    have hup := is_up_true (S := S) (xs := W) (kn := bs.map (·.1)) hc.asc hc.td (by omega) hS
    have hiw := is_want_eq (S := S) hw h.loL h.nm h.inn (by omega) (W := W) (by omega) hS (o.map (·.1)) (o.map (·.2)) (by cases o <;> rfl)
    have hb : decide (ownO W (o.map (·.2)) + (ks.filter (hitO st W (o.map (·.1)))).length < (W.map (lowOf bs)).sum) = true := by
      cases o with
      | none => exact want_right_none hc
      | some p => exact want_right_some h.nd ho.1 hc
    rw [hb] at hiw
    simp only [ev_if, ev_all, ls_all, Nat.reduceAdd, n_ww, k2, hup, hiw, hcut]
end

theorem wt_int {i : Int} : wt (.int i) = 40 := by unfold wt; rfl
theorem wt_str {i : Str} : wt (.str i) = 40 := by unfold wt; rfl
theorem wts_const {α : Type} {e : α → D} {k : Nat} : ∀ {xs : List α}, (∀ x, x ∈ xs → wt (e x) ≤ k) → wts (xs.map e) ≤ (k + 2) * xs.length
  | [], _ => by rw [List.map_nil, wts_nil]; exact Nat.zero_le _
  | x :: xs, h => by
    have ih := wts_const (xs := xs) fun y hy => h y (List.mem_cons_of_mem _ hy)
    have h1 := h x List.mem_cons_self
    rw [List.map_cons, wts_cons, List.length_cons, Nat.mul_add]
    omega
/-! ### texts: whether and how long -/
structure Rp (f n : Nat) (d : D) : Prop where
  od : Od true f d
  wt : wt d ≤ n
structure RpL (f n : Nat) (xs : List D) : Prop where
  od : ∀ x, x ∈ xs → Od true f x
  wt : wts xs ≤ n
section
variable {f g n k m : Nat} {d : D} {xs : List D} {S : Sto}
theorem Rp.int {i : Int} (h : i.natAbs ≤ 1000000000) : Rp 1 40 (.int i) := ⟨by show i.natAbs < 10 ^ 31; omega, by rw [wt_int]; omega⟩
theorem Rp.nat {i : Nat} (h : i ≤ 1000000000) : Rp 1 40 (.int (i : Int)) := Rp.int (by omega)
theorem wt_non : wt .non = 40 := by unfold wt; rfl
theorem Rp.non : Rp 1 40 .non := ⟨trivial, Nat.le_of_eq wt_non⟩
theorem Rp.str {s : Str} (h : PyData.strOk s = true ∧ (reprText s).length ≤ 20) : Rp 1 40 (.str s) := ⟨h, by rw [wt_str]; omega⟩
theorem RpL.nil : RpL 1 0 [] := ⟨by simp, by rw [wts_nil]; omega⟩
theorem RpL.cons (h : Rp f n d) (hs : RpL g m xs) : RpL (max f g) (n + 2 + m) (d :: xs) := ⟨fun x hx => by
  rcases List.mem_cons.mp hx with rfl | hx
  · exact od_up h.od (Nat.le_max_left _ _)
  · exact od_up (hs.od x hx) (Nat.le_max_right _ _), by have := h.wt; have := hs.wt; rw [wts_cons]; omega⟩
theorem RpL.tup (h : RpL f n xs) : Rp (f + 1) (3 + n) (.tup xs) := ⟨h.od, by rw [wt_tup]; have := h.wt; omega⟩
theorem RpL.tud (h : RpL f n xs) : Rp (f + 1) (3 + n) (.tud xs) := ⟨h.od, by rw [wt_tud]; have := h.wt; omega⟩
theorem RpL.lst (h : RpL f n xs) : Rp (f + 1) (3 + n) (.lst xs) := ⟨h.od, by rw [wt_lst]; have := h.wt; omega⟩
theorem RpL.map {α : Type} {e : α → D} {ys : List α} (h : ∀ y, y ∈ ys → Rp f n (e y)) (hl : ys.length ≤ k) : RpL f ((n + 2) * k) (ys.map e) := ⟨fun x hx => by
  obtain ⟨y, hy, rfl⟩ := List.mem_map.mp hx
  exact (h y hy).od, Nat.le_trans (wts_const fun y hy => (h y hy).wt) (Nat.mul_le_mul_left _ hl)⟩
theorem Rp.up (h : Rp f n d) (hf : f ≤ g) (hn : n ≤ m) : Rp g m d := ⟨od_up h.od hf, Nat.le_trans h.wt hn⟩
theorem RpL.up (h : RpL f n xs) (hf : f ≤ g) (hn : n ≤ m) : RpL g m xs := ⟨fun x hx => od_up (h.od x hx) hf, Nat.le_trans h.wt hn⟩
theorem Rp.repr (h : Rp f n d) (hf : f ≤ 60) (hn : n ≤ 16000000) : gReprN [d] S = some (.rep (toPy d).shown, S) := reprN_eq h.od hf (Nat.le_trans h.wt hn) rfl
end

section
variable {S : Sto} {ks : List Nat} {st : List (List Int)} {m : Nat} {R : D} {hi : Int → Option Int} {bs : List Bd}
/-! ### what is told, twice -/
theorem eqv_bl {a b : Bool} : PyData.eqv (.bool a) (.bool b) = decide (a = b) := by cases a <;> cases b <;> decide
theorem eqB : Eq2 1 D.bl D.bl := ⟨fun _ => pn_bl, fun _ => pn_bl, fun a b => by rw [toPy_bl, toPy_bl]; exact eqv_bl⟩
theorem rpw : (PyData.strOk ("unlike" : Str) = true ∧ (reprText "unlike").length ≤ 20) ∧ (PyData.strOk ("counts" : Str) = true ∧ (reprText "counts").length ≤ 20) ∧ (PyData.strOk ("row" : Str) = true ∧ (reprText "row").length ≤ 20) ∧ (PyData.strOk ("crowd" : Str) = true ∧ (reprText "crowd").length ≤ 20) ∧ (PyData.strOk ("want" : Str) = true ∧ (reprText "want").length ≤ 20) := by decide +kernel
theorem rp_ints {xs : List Int} {k : Nat} (h : ∀ x, x ∈ xs → x.natAbs ≤ 1000000000) (hl : xs.length ≤ k) : Rp 2 (3 + 42 * k) (.tup (xs.map D.int)) := (RpL.map (k := k) (fun x hx => Rp.int (h x hx)) hl).tup
theorem row_stand {o : Option (Nat × Int)} (hs : StD m st) (ho : InO st ks o) {row : List Int} (h : IsRow (domO st o) hi bs ks row) : ∀ v, v ∈ row → 0 ≤ v ∧ v ≤ 63 := fun v hv => by
  have h := isRow_sub ho h
  obtain ⟨z1, z2⟩ := zip_fst h.len
  rw [← z2] at hv
  obtain ⟨p, hp, rfl⟩ := List.mem_map.mp hv
  exact vL_ok.2.1 _ ((hs.vat p.1).2.2 _ (h.dm p hp))
theorem ans_rp (hs : StD m st) (h : Rul st m R hi bs ks) (hb : ∀ b, b ∈ bs → 0 ≤ b.1 ∧ b.1 ≤ 63) {o : Option (Nat × Int)} (ho : InO st ks o) {d : D} (hA : Ans (domO st o) hi bs ks (o.map (·.1)) d) : Rp 4 4000 d := by
  have h6 := h.l6
  have h8 := hs.m8
  cases hA with
  | row row hr =>
    have hr1 := row_is hr
    have hv := row_stand hs ho hr1
    exact (RpL.cons (Rp.str rpw.2.2.1) (RpL.cons (rp_ints (k := 6) (fun x hx => by have := hv x hx; omega) (by rw [hr1.len]; omega)) RpL.nil)).tup.up (by decide) (by decide)
  | crowd M hc =>
    have hl : (srt (numsI (M.filter fun n => !decide (some n = o.map (·.1))))).length ≤ 6 := by
      have h1 := List.length_filter_le (fun n => !decide (some n = o.map (·.1))) M
      have h2 := nodup_le hc.nd hc.sub
      rw [srt_len, List.length_map]
      omega
    exact (RpL.cons (Rp.str rpw.2.2.2.1) (RpL.cons (rp_ints (k := 6) (fun x hx => by
      obtain ⟨n, hn, rfl⟩ := List.mem_map.mp (srt_mem.mp hx)
      have := h.inn n (hc.sub n (List.mem_filter.mp hn).1)
      omega) hl) RpL.nil)).tup.up (by decide) (by decide)
  | want W hc =>
    have hl : W.length ≤ 50 := by
      have h1 : W.Nodup := hc.asc.imp fun q => Int.ne_of_lt q
      have h2 := nodup_le h1 hc.td
      rw [List.length_map] at h2
      have := h.few
      omega
    exact (RpL.cons (Rp.str rpw.2.2.2.2) (RpL.cons (rp_ints (k := 50) (fun x hx => by
      obtain ⟨b, hb', rfl⟩ := List.mem_map.mp (hc.td x hx)
      have := hb b hb'
      omega) hl) RpL.nil)).tup.up (by decide) (by decide)
/-- the word that an answer has -/
def wordOf : D → D
  | .tup (w :: _) => w
  | _ => .non
theorem ans_row {o : Option (Nat × Int)} (h0 : ∀ v h, hi v = some h → 0 ≤ h) (hks : ks.Nodup) (hkl : ks.length ≤ 6) {d : D} (hA : Ans (domO st o) hi bs ks (o.map (·.1)) d) :
    ∃ w rest, d = .tup [.str w, rest] ∧ ((w = "row" ∧ ∃ row, IsRow (domO st o) hi bs ks row) ∨ ((w = "crowd" ∨ w = "want") ∧ ∀ row, ¬ IsRow (domO st o) hi bs ks row)) := by
  cases hA with
  | row row hr => exact ⟨_, _, rfl, .inl ⟨rfl, row, row_is hr⟩⟩
  | crowd M hc => exact ⟨_, _, rfl, .inr ⟨.inl rfl, fun row => crowd_no hc hks⟩⟩
  | want W hc => exact ⟨_, _, rfl, .inr ⟨.inr rfl, fun row => want_no hc hks⟩⟩
theorem eq_word {w : Str} {p : Prop} [Decidable p] (h : (w = "row" ∧ p) ∨ ((w = "crowd" ∨ w = "want") ∧ ¬ p)) : gEq (.str w) (.str "row") S = some (.bl (decide p), S) ∧ gNe (.str w) (.str "row") S = some (.bl (!decide p), S) := by
  rcases h with ⟨rfl, hp⟩ | ⟨rfl | rfl, hp⟩
  · simp only [hp, decide_true]
    exact ⟨w_rr, n_rr⟩
  · simp only [hp, decide_false]
    exact ⟨w_cr, n_cr⟩
  · simp only [hp, decide_false]
    exact ⟨w_wr, n_wr⟩
/-- whether a value has a row -/
def seenB (st : List (List Int)) (hi : Int → Option Int) (bs : List Bd) (ks : List Nat) (n : Nat) (v : Int) : Bool := (rowsK st hi bs ks).any fun row => decide (row[ks.idxOf n]? = some v)
theorem domW_row {n0 : Nat} {v0 : Int} {row : List Int} (hks : ks.Nodup) (h0 : n0 ∈ ks) (h : IsRow (domS st) hi bs ks row) (hv : row[ks.idxOf n0]? = some v0) : IsRow (domW st n0 v0) hi bs ks row := ⟨h.len, fun p hp => by
  unfold domW
  split
  · rename_i e
    obtain ⟨i, hi⟩ := List.getElem?_of_mem hp
    obtain ⟨a, b⟩ := List.getElem?_zip_eq_some.mp hi
    have hi2 : ks.idxOf n0 = i := by
      obtain ⟨hl, e2⟩ := List.getElem?_eq_some_iff.mp a
      rw [← e, ← e2]
      exact hks.idxOf_getElem i hl
    rw [hi2, b] at hv
    rw [Option.some.inj hv]
    exact List.mem_singleton.mpr rfl
  · exact h.dm p hp, h.up, h.lo⟩
theorem seen_iff (h : Rul st m R hi bs ks) {n : Nat} {v : Int} (hn : n ∈ ks) (hv : v ∈ st.getD n []) : seenB st hi bs ks n v = true ↔ ∃ row, IsRow (domW st n v) hi bs ks row := by
  unfold seenB
  rw [List.any_eq_true]
  have h6 := h.l6
  constructor
  · rintro ⟨row, hr, q⟩
    exact ⟨row, domW_row h.nd hn ((mem_rowsK h.hi0 (by omega)).mp hr) (by simpa using q)⟩
  · rintro ⟨row, hr⟩
    exact ⟨row, (mem_rowsK h.hi0 (by omega)).mpr (isRow_sub (o := some (n, v)) ⟨hn, hv⟩ hr), by simpa using isRow_val hn hr⟩
theorem vL_len : vL.length ≤ 1000 := by decide
/-- what crowd_paper tells -/
theorem paper_is (hs : StD m st) (h : Rul st m R hi bs ks) {n : Nat} {v : Int} (hn : n ∈ ks) (hv : v ∈ st.getD n []) (hS : ClS S) : ∃ w rest, F_crowd_paper [dS st, R, .int (n : Int), .int v] S = some (.tup [.str w, rest], S) ∧ Ans (domO st (some (n, v))) hi bs ks ((some (n, v) : Option (Nat × Int)).map (·.1)) (.tup [.str w, rest]) ∧ ((w = "row" ∧ seenB st hi bs ks n v = true) ∨ ((w = "crowd" ∨ w = "want") ∧ ¬ seenB st hi bs ks n v = true)) := by
  have h6 := h.l6
  obtain ⟨⟨d, S'⟩, e, hS', hA⟩ := crowd_paper_eq h.lot hs.w.v h.inn h.hiOk h.hi0 h.bdOk h.hilo hS h.nd (by omega) (n0 := n) (v := v) (V := vL) (fun k hk w hw => (hs.vat k).2.2 w (domO_sub (o := some (n, v)) (ks := ks) ⟨hn, hv⟩ hw)) vL_len
  simp only at hS' hA
  subst hS'
  obtain ⟨w, rest, rfl, hw⟩ := ans_row (o := some (n, v)) (st := st) h.hi0 h.nd h6 hA
  refine ⟨w, rest, e, hA, ?_⟩
  rw [seen_iff h hn hv]
  rcases hw with ⟨h1, h2⟩ | ⟨h1, h2⟩
  · exact .inl ⟨h1, h2⟩
  · exact .inr ⟨h1, fun ⟨row, q⟩ => h2 row q⟩
/-- what crowd_none tells -/
theorem none_is (hs : StD m st) (h : Rul st m R hi bs ks) (hS : ClS S) : ∃ w rest, F_crowd_none [dS st, R] S = some (.tup [.str w, rest], S) ∧ Ans (domO st none) hi bs ks ((none : Option (Nat × Int)).map (·.1)) (.tup [.str w, rest]) ∧ ((w = "row" ∧ rowsK st hi bs ks ≠ []) ∨ ((w = "crowd" ∨ w = "want") ∧ ¬ rowsK st hi bs ks ≠ [])) := by
  have h6 := h.l6
  obtain ⟨⟨d, S'⟩, e, hS', hA⟩ := crowd_none_eq h.lot hs.w.v h.inn h.hiOk h.hi0 h.bdOk h.hilo hS h.nd (by omega) (V := vL) (fun k hk w hw => (hs.vat k).2.2 w hw) vL_len
  simp only at hS' hA
  subst hS'
  obtain ⟨w, rest, rfl, hw⟩ := ans_row (o := none) (st := st) h.hi0 h.nd h6 hA
  refine ⟨w, rest, e, hA, ?_⟩
  rcases hw with ⟨h1, row, h2⟩ | ⟨h1, h2⟩
  · exact .inl ⟨h1, fun q => by have := (mem_rowsK h.hi0 (by omega)).mpr h2; rw [q] at this; cases this⟩
  · refine .inr ⟨h1, fun q => ?_⟩
    obtain ⟨row, hr⟩ := List.exists_mem_of_ne_nil _ q
    exact h2 row ((mem_rowsK h.hi0 (by omega)).mp hr)
theorem rows_few (hs : StD m st) (h : Rul st m R hi bs ks) : (rowsK st hi bs ks).length ≤ 4096 ∧ ∀ row, row ∈ rowsK st hi bs ks → row.length = ks.length := by
  have h6 := h.l6
  refine ⟨?_, fun row hr => ((mem_rowsK h.hi0 (by omega)).mp hr).len⟩
  have h1 := rowsH_few (hi := hi) (fun n => (hs.vat n).2.1) ks [[]]
  have h2 : 4 ^ ks.length ≤ 4096 := Nat.le_trans (Nat.pow_le_pow_right (by decide) h6) (by decide)
  have h3 := List.length_filter_le (fun row : List Int => (bs.map (·.1)).all fun w => decide (lowOf bs w ≤ row.count w)) (rowsH st hi ks [[]])
  unfold rowsK
  simp only [List.length_singleton, Nat.one_mul] at h1
  omega
theorem seen_filter (h : Rul st m R hi bs ks) {n : Nat} {v : Int} : (!decide (((rowsK st hi bs ks).filter fun row => decide (row[ks.idxOf n]? = some v)) = [])) = seenB st hi bs ks n v := by
  unfold seenB
  cases q : (rowsK st hi bs ks).filter fun row => decide (row[ks.idxOf n]? = some v) with
  | nil =>
    have := List.filter_eq_nil_iff.mp q
    symm
    rw [List.any_eq_false.mpr fun x hx => this x hx]
    simp
  | cons a b =>
    have ha : a ∈ (rowsK st hi bs ks).filter fun row => decide (row[ks.idxOf n]? = some v) := by rw [q]; exact List.mem_cons_self
    rw [List.mem_filter] at ha
    symm
    rw [List.any_eq_true.mpr ⟨a, ha⟩]
    simp
theorem told_right_eq (hs : StD m st) (h : Rul st m R hi bs ks) (hb : ∀ b, b ∈ bs → 0 ≤ b.1 ∧ b.1 ≤ 63) {n : Nat} {v : Int} (hn : n ∈ ks) (hv : v ∈ st.getD n []) (hS : ClS S) :
    F__law_told_right [dS st, R, .lst ((rowsK st hi bs ks).map dR), .int (n : Int), .int v] S = some (.bl true, S) := by
  obtain ⟨w, rest, e1, hA, hw⟩ := paper_is (S := S) hs h hn hv hS
  have ho : InO st ks (some (n, v)) := ⟨hn, hv⟩
  have hcut := cut_id (d := .bl true) hS trivial
  have e2 := fault_none hs h ho hA hS
  simp only [Option.map_some, nmD, oI] at e2
  have e3 := (ans_rp hs h hb ho hA).repr (S := S) (by decide) (by decide)
  obtain ⟨e4, _⟩ := eq_word (S := S) hw
  obtain ⟨hfew, hrl⟩ := rows_few hs h
  have hk := List.idxOf_lt_length_of_mem hn
  have e5 := gIdx_N hn
  refine en_val.mpr (en_fn rfl ?_)
  have hr2 : rngD 0 2 = (List.range 2).map dN := rng_range 2
  simp only [B__law_told_right, ev_all, ls_all, Nat.reduceSub, Nat.reduceAdd, Int.sub_zero, Int.reduceToNat, hr2]
  refine ⟨rgI_ok (by decide) (by decide), ?_⟩
  refine en_lcA (ok := fun _ => True) (S := S) dN (fun _ => .tup [.str w, rest]) (List.range 2) trivial (fun _ _ => ?_) ?_
  · simp only [ev_all, ls_all, Nat.reduceAdd, e1]
  have hm2 : (List.range 2).map (fun _ => D.tup [.str w, rest]) = [.tup [.str w, rest], .tup [.str w, rest]] := rfl
  rw [hm2]
  simp only [ev_all, ls_all, Nat.reduceAdd, h.nm, e5]
  refine en_lcM dR (fun row => decide (row[ks.idxOf n]? = some v)) dR (rowsK st hi bs ks) trivial (fun row hr => ?_) ?_
  · have hl : ks.idxOf n < row.length := by rw [hrl row hr]; exact hk
    simp only [ev_all, ls_all, Nat.reduceAdd, List.getElem?_map, List.getElem?_eq_getElem hl, Option.some.injEq]
  have hfl := List.length_filter_le (fun row : List Int => decide (row[ks.idxOf n]? = some v)) (rowsK st hi bs ks)
  have e6 := gNeL (S := S) (Eq2.dd Eq2.int) (by decide) ((rowsK st hi bs ks).filter fun row => decide (row[ks.idxOf n]? = some v)) []
  rw [List.map_nil, seen_filter h] at e6
  simp only [ev_all, ls_all, Nat.reduceAdd, List.length_map, show Sz ((rowsK st hi bs ks).filter fun row => decide (row[ks.idxOf n]? = some v)).length from sz_ok (by omega), e6]
  rw [en_sif]
  have k1 : gNotN .non .non S = some (.bl false, S) := rfl
  have e7 := gEq2 (S := S) eqB (by decide) (seenB st hi bs ks n v) (seenB st hi bs ks n v)
  rw [decide_eq_true rfl] at e7
  simp only [Bool.decide_eq_true] at e4
  simp only [ev_all, ls_all, Nat.reduceAdd, e3, e2, k1, e4, e7, hcut]
end

section
variable {S : Sto} {ks : List Nat} {st : List (List Int)} {m : Nat} {R : D} {hi : Int → Option Int} {bs : List Bd}
/-! ### what is struck -/
abbrev dPN (p : Nat × Int) : D := .tup [dN p.1, .int p.2]
def lossP (st : List (List Int)) (hi : Int → Option Int) (bs : List Bd) (ks : List Nat) (n : Nat) (vs : List Int) : List (Nat × Int) := (vs.filter fun v => !seenB st hi bs ks n v).map fun v => (n, v)
def strP (st : List (List Int)) (hi : Int → Option Int) (bs : List Bd) (ks : List Nat) (ns : List Nat) : List (Nat × Int) := ns.flatMap fun n => lossP st hi bs ks n (st.getD n [])
theorem lossP_snoc {n : Nat} {vs : List Int} {v : Int} : lossP st hi bs ks n (vs ++ [v]) = lossP st hi bs ks n vs ++ if seenB st hi bs ks n v then [] else [(n, v)] := by
  unfold lossP
  rw [List.filter_append, List.map_append]
  cases h : seenB st hi bs ks n v <;> simp [h]
theorem strP_snoc {ns : List Nat} {n : Nat} : strP st hi bs ks (ns ++ [n]) = strP st hi bs ks ns ++ lossP st hi bs ks n (st.getD n []) := by
  unfold strP
  rw [List.flatMap_append]
  simp
theorem lossP_len {n : Nat} {vs : List Int} : (lossP st hi bs ks n vs).length ≤ vs.length := by
  unfold lossP
  rw [List.length_map]
  exact List.length_filter_le _ _
theorem strP_len (hs : StD m st) : ∀ ns : List Nat, (strP st hi bs ks ns).length ≤ 4 * ns.length
  | [] => by simp [strP]
  | n :: ns => by
    have ih := strP_len hs ns
    have h1 := lossP_len (st := st) (hi := hi) (bs := bs) (ks := ks) (n := n) (vs := st.getD n [])
    have h2 := (hs.vat n).2.1
    unfold strP at ih ⊢
    rw [List.flatMap_cons, List.length_append, List.length_cons]
    omega
theorem clPN {n f : Nat} {ps : List (Nat × Int)} : ∀ x, x ∈ ps.map dPN → Cl n (f + 2) x := fun x hx => by
  obtain ⟨p, _, rfl⟩ := List.mem_map.mp hx
  intro y hy
  simp only [List.mem_cons, List.not_mem_nil, or_false] at hy
  rcases hy with rfl | rfl <;> trivial
theorem struck_eq (hs : StD m st) (h : Rul st m R hi bs ks) (hS : ClS S) : F_struck_crowds [dS st, R] S = some (.tup ((strP st hi bs ks ks).map dPN), S) := by
  have h6 := h.l6
  have hw := hs.w
  have hcl : ∀ ps : List (Nat × Int), ClS (S ++ [.lst (ps.map dPN)]) := fun ps => clS_app hS (jk_one (clPN (f := 10)))
  have hlot := h.lot _ (hcl [])
  simp only [List.map_nil] at hlot
  have hcut := cut_app (X := [.lst ((strP st hi bs ks ks).map dPN)]) (d := .tup ((strP st hi bs ks ks).map dPN)) hS (clPN (f := 9))
  refine en_val.mpr (en_fn rfl ?_)
  simp only [B_struck_crowds, ev_all, ls_all, Nat.reduceSub, Nat.reduceAdd, hlot]
  refine en_forT dN (fun pre L S' => L = [some (dS st), some R, some (.ref S.length), none, none] ∧ S' = S ++ [.lst ((strP st hi bs ks pre).map dPN)]) ks ⟨rfl, rfl⟩ ?_ ?_
  · rintro pre n post L S' hsp ⟨rfl, rfl⟩
    have hnk : n ∈ ks := by rw [hsp]; simp
    have hpl : pre.length ≤ 6 := by
      have := congrArg List.length hsp
      simp at this
      omega
    have hsl := strP_len (hi := hi) (bs := bs) (ks := ks) hs pre
    have hvn := (hs.vat n).2.1
    refine ⟨trivial, ?_⟩
    simp only [ev_all, ls_all, Nat.reduceAdd, List.getElem?_map, hw.v.at (h.inn n hnk)]
    refine en_forT D.int (fun pre2 L S' => L = [some (dS st), some R, some (.ref S.length), some (dN n), none] ∧ S' = S ++ [.lst ((strP st hi bs ks pre ++ lossP st hi bs ks n pre2).map dPN)]) (st.getD n []) ⟨rfl, by simp [lossP]⟩ ?_ ?_
    · rintro pre2 v post2 L S' hsp2 ⟨rfl, rfl⟩
      have hvv : v ∈ st.getD n [] := by rw [hsp2]; simp
      have hpl2 : pre2.length ≤ 4 := by
        have := congrArg List.length hsp2
        simp at this
        simp at hvn
        omega
      have hll := lossP_len (st := st) (hi := hi) (bs := bs) (ks := ks) (n := n) (vs := pre2)
      obtain ⟨w, rest, e1, _, hw'⟩ := paper_is (S := S ++ [.lst ((strP st hi bs ks pre ++ lossP st hi bs ks n pre2).map dPN)]) hs h hnk hvv (hcl _)
      obtain ⟨_, e2⟩ := eq_word (S := S ++ [.lst ((strP st hi bs ks pre ++ lossP st hi bs ks n pre2).map dPN)]) hw'
      simp only [Bool.decide_eq_true] at e2
      have a1 : asL (S ++ [.lst ((strP st hi bs ks pre ++ lossP st hi bs ks n pre2).map dPN)]) (.ref S.length) = some ((strP st hi bs ks pre ++ lossP st hi bs ks n pre2).map dPN) := asL_r (by simp)
      have a2 := mAppend_ok (k := S.length) (d := dPN (n, v)) (S := S ++ [.lst ((strP st hi bs ks pre ++ lossP st hi bs ks n pre2).map dPN)]) (xs := (strP st hi bs ks pre ++ lossP st hi bs ks n pre2).map dPN) (by rw [List.length_map, List.length_append, sizeLine_eq]; omega)
      refine ⟨trivial, ?_⟩
      simp only [ev_all, ls_all, Nat.reduceAdd]
      rw [en_sif]
      simp only [ev_all, ls_all, Nat.reduceAdd, e1, e2]
      cases hsn : seenB st hi bs ks n v with
      | true =>
        simp only [ev_all, ls_all, Nat.reduceAdd, lossP_snoc, hsn, List.append_nil]
      | false =>
        simp only [ev_all, ls_all, Nat.reduceAdd, a1, a2, lossP_snoc, hsn]
        simp
    · rintro L S' ⟨rfl, rfl⟩
      refine ⟨trivial, ?_⟩
      simp only [ev_all, ls_all, Nat.reduceAdd, strP_snoc]
  · rintro L S' ⟨rfl, rfl⟩
    have k1 : gTuple [.ref S.length] (S ++ [.lst ((strP st hi bs ks ks).map dPN)]) = some (.tup ((strP st hi bs ks ks).map dPN), S ++ [.lst ((strP st hi bs ks ks).map dPN)]) := gTup_r (by simp)
    refine ⟨trivial, ?_⟩
    simp only [ev_all, ls_all, Nat.reduceAdd, k1, hcut]
/-! ### the rules that are drawn -/
theorem rulU (hs : StD m st) (ha : ks.Pairwise (· < ·)) (h1 : 1 ≤ ks.length) (h6 : ks.length ≤ 6) (hn : ∀ n, n ∈ ks → n < m) : Rul st m (ruU ks) (fun _ => some 1) [] ks :=
  ⟨ha, h1, h6, hn, fun S hS => lot_any ha (by omega) hS, hiU, bdU, fun S hS v => highL_U hS v, fun S hS v => lowL_U hS v, fun S => rfl, fun S hS => rowsU_eq hs.w (fun n => (hs.vat n).2.1) hn h6 hS, hiU_nn, hiU_low, by simp, fun S => tg_ruU⟩
theorem rulC (hB : BsD bs) (hs : StD m st) (ha : ks.Pairwise (· < ·)) (h1 : 1 ≤ ks.length) (h6 : ks.length ≤ 6) (hn : ∀ n, n ∈ ks → n < m) : Rul st m (ruC ks bs) (hiC bs) bs ks :=
  ⟨ha, h1, h6, hn, fun S hS => lot_any ha (by omega) hS, hiC_ok hB.ok, bdC hB.ok, fun S hS v => highL_C hB.ok hS v, fun S hS v => lowL_C hB.ok hS v, fun S => rfl, fun S hS => rowsC_eq hB.ok hs.w (fun n => (hs.vat n).2.1) hn h6 hS, hiC_nn hB.ok, hiC_low hB.ok, hB.few, fun S => tg_ruC hB.few⟩
theorem rp_names (hn : ∀ n, n ∈ ks → n < m) (h8 : m ≤ 8) (h6 : ks.length ≤ 6) : Rp 2 (3 + 42 * 6) (.tud (ks.map dN)) := (RpL.map (k := 6) (fun x hx => Rp.nat (by have := hn x hx; omega)) h6).tud
theorem rp_st (hs : StD m st) : Rp 3 (3 + (3 + 42 * 4 + 2) * 8) (dS st) := (RpL.map (k := 8) (fun vs hv => rp_ints (k := 4) (fun x hx => by have := vL_ok.2.1 x (hs.sub vs hv x hx); omega) (hs.few vs hv)) (by rw [hs.len]; exact hs.m8)).tup
theorem rp_ruU (hn : ∀ n, n ∈ ks → n < m) (h8 : m ≤ 8) (h6 : ks.length ≤ 6) : Rp 4 20000 (ruU ks) := (RpL.cons (Rp.str rpw.1) (RpL.cons (rp_names hn h8 h6) RpL.nil)).tup.up (by decide) (by decide)
theorem rp_ruC (hB : BsD bs) (hn : ∀ n, n ∈ ks → n < m) (h8 : m ≤ 8) (h6 : ks.length ≤ 6) : Rp 4 20000 (ruC ks bs) :=
  (RpL.cons (Rp.str rpw.2.1) (RpL.cons (rp_names hn h8 h6) (RpL.cons (RpL.map (e := dB) (k := 50) (fun b hb => by
    have := hB.bd b hb
    exact (RpL.cons (Rp.int (i := b.1) (by omega)) (RpL.cons (Rp.int (i := b.2.1) (by omega)) (RpL.cons (Rp.int (i := b.2.2) (by omega)) RpL.nil))).tup) hB.few).tup RpL.nil))).tup.up (by decide) (by decide)
theorem rp_str (hs : StD m st) (hn : ∀ n, n ∈ ks → n < m) (h6 : ks.length ≤ 6) : Rp 3 3000 (.tup ((strP st hi bs ks ks).map dPN)) :=
  (RpL.map (e := dPN) (k := 24) (fun p hp => by
    obtain ⟨n, hn', hp2⟩ := List.mem_flatMap.mp hp
    unfold lossP at hp2
    obtain ⟨v, hv, rfl⟩ := List.mem_map.mp hp2
    have h1 := vL_ok.2.1 v ((hs.vat n).2.2 v (List.mem_filter.mp hv).1)
    have h2 := hn n hn'
    have h8 := hs.m8
    exact (RpL.cons (Rp.nat (i := n) (by omega)) (RpL.cons (Rp.int (i := v) (by omega)) RpL.nil)).tup) (by have := strP_len (hi := hi) (bs := bs) (ks := ks) hs ks; omega)).tup.up (by decide) (by decide)
end

section
variable {st : List (List Int)} {m : Nat} {R : D} {hi : Int → Option Int} {bs : List Bd} {ks : List Nat}
/-! ### the law -/
theorem rows_again (n : Nat) (hk : n < 4) : ∃ k : Nat, atI [D.int 3, D.int 4, D.int 5, D.int 6] ((n : Nat) : Int) = some (.int (k : Int)) ∧ 1 ≤ k ∧ k ≤ 6 := by
  rcases (by omega : n = 0 ∨ n = 1 ∨ n = 2 ∨ n = 3) with rfl | rfl | rfl | rfl
  · exact ⟨3, rfl, by decide, by decide⟩
  · exact ⟨4, rfl, by decide, by decide⟩
  · exact ⟨5, rfl, by decide, by decide⟩
  · exact ⟨6, rfl, by decide, by decide⟩
theorem rule_all {most : Nat} {X S : Sto} (hS : RS X S) (hX : ClX X) (hs : StD m st) (hm1 : 1 ≤ most) (hm2 : most ≤ 6) :
    ∃ R S' hi bs ks, F__law_draw_rule [.ref 1, dS st, .int most] S = some (R, S') ∧ RS X S' ∧ Rul st m R hi bs ks ∧ (∀ b, b ∈ bs → 0 ≤ b.1 ∧ b.1 ≤ 63) ∧ Rp 4 20000 R := by
  obtain ⟨⟨R, S'⟩, e, r, ks, ⟨h1, h2, h3, h4⟩, h5⟩ := draw_rule hS hX hs hm1 hm2
  simp only at r h5
  rcases h5 with rfl | ⟨bs, rfl, hB⟩
  · exact ⟨_, S', _, [], ks, e, r, rulU hs h1 h2 h3 h4, by simp, rp_ruU h4 hs.m8 h3⟩
  · exact ⟨_, S', _, bs, ks, e, r, rulC hB hs h1 h2 h3 h4, fun b hb => ⟨(hB.bd b hb).2.2.2.1, (hB.bd b hb).2.2.2.2⟩, rp_ruC hB h4 hs.m8 h3⟩
theorem truth (ns : List Int) (hn : ns.length ≤ 63) : IsTrueF F_law ns := by
  obtain ⟨S0, e0, r0⟩ := source_spec ns hn
  have hr4 : rngD 0 4 = (List.range 4).map dN := rng_range 4
  have hr2 : rngD 0 2 = (List.range 2).map dN := rng_range 2
  suffices h : En (F_law [.arg (ns.map .int)] []) fun p => p.1 = .bl true by
    obtain ⟨⟨d, S'⟩, e, hd⟩ := h
    simp only at hd
    subst hd
    exact ⟨S', e⟩
  refine en_fn rfl ?_
  simp only [B_law, ev_all, ls_all, Nat.reduceSub, Nat.reduceAdd, e0, Int.sub_zero, Int.reduceToNat, hr4]
  refine ⟨rgI_ok (by decide) (by decide), ?_⟩
  refine en_forT dN (fun _ L S => L = [some (.arg (ns.map .int)), some (.ref 1), none, none, none, none, none, none, none, none, none, none, none, none] ∧ RS [] S) (List.range 4) ⟨rfl, r0⟩ ?_ ?_
  · rintro pre lap post L S hsp ⟨rfl, rs⟩
    have hlap : lap < 4 := by
      have : lap ∈ List.range 4 := by rw [hsp]; simp
      exact List.mem_range.mp this
    obtain ⟨⟨_, S1⟩, e1, r1, st, m, rfl, hs⟩ := draw_stand rs clx_nil
    simp only at r1 e1
    obtain ⟨most, hmost, hm1, hm6⟩ := rows_again lap hlap
    obtain ⟨R, S2, hi, bs, ks, e2, r2, h, hb, hrp⟩ := rule_all r1 clx_nil hs hm1 hm6
    have hcl := rs_cl r2 clx_nil
    have hw := hs.w
    have h6 := h.l6
    have hrR : ∀ S, gReprN [.lst [dS st, R]] S = some (.rep (toPy (.lst [dS st, R])).shown, S) := fun S => (RpL.cons (rp_st hs) (RpL.cons hrp RpL.nil)).lst.repr (by decide) (by decide)
    have e3 := h.rows S2 hcl
    obtain ⟨hfew, hrl⟩ := rows_few hs h
    refine ⟨trivial, ?_⟩
    simp only [ev_all, ls_all, Nat.reduceAdd, e1, hmost, e2, hrR, e3, h.nm, List.reverse_cons, List.reverse_nil]
    refine en_for (fun i L S => L = [some (.arg (ns.map .int)), some (.ref 1), some (dN lap), some (dS st), some R, none, some (.rep (toPy (.lst [dS st, R])).shown), some (.lst ((rowsK st hi bs ks).map dR)), some (.lst ((strP st hi bs ks (ks.take i)).map dPN)), none, none, none, none, none] ∧ S = S2) (enumD 0 (ks.map dN)) 0 ⟨by simp [strP], rfl⟩ ?_ ?_
    · rintro i d L S hi' ⟨rfl, rfl⟩
      rw [enumD_get, List.getElem?_map] at hi'
      obtain ⟨_, h1, rfl⟩ := Option.map_eq_some_iff.mp hi'
      obtain ⟨n, hnk, rfl⟩ := Option.map_eq_some_iff.mp h1
      have hnm := List.mem_of_getElem? hnk
      have hidx : ks.idxOf n = i := by
        obtain ⟨hl, e⟩ := List.getElem?_eq_some_iff.mp hnk
        rw [← e]
        exact h.nd.idxOf_getElem i hl
      have hik : i < ks.length := (List.getElem?_eq_some_iff.mp hnk).1
      have hvn := (hs.vat n).2.1
      have hsl := strP_len (hi := hi) (bs := bs) (ks := ks) hs (ks.take i)
      have htl : (ks.take i).length ≤ 6 := by rw [List.length_take]; omega
      simp only [Nat.zero_add]
      refine ⟨trivial, ?_⟩
      simp only [ev_all, ls_all, Nat.reduceAdd, List.getElem?_map, hw.v.at (h.inn n hnm)]
      refine en_forT D.int (fun pre2 L S' => L = [some (.arg (ns.map .int)), some (.ref 1), some (dN lap), some (dS st), some R, none, some (.rep (toPy (.lst [dS st, R])).shown), some (.lst ((rowsK st hi bs ks).map dR)), some (.lst ((strP st hi bs ks (ks.take i) ++ lossP st hi bs ks n pre2).map dPN)), some (.int (i : Int)), some (dN n), none, none, none] ∧ S' = S) (st.getD n []) ⟨by simp [lossP], rfl⟩ ?_ ?_
      · rintro pre2 v post2 L S' hsp2 ⟨rfl, rfl⟩
        have hvv : v ∈ st.getD n [] := by rw [hsp2]; simp
        have hpl2 : pre2.length ≤ 4 := by
          have := congrArg List.length hsp2
          simp at this
          simp at hvn
          omega
        have hll := lossP_len (st := st) (hi := hi) (bs := bs) (ks := ks) (n := n) (vs := pre2)
        have e4 := told_right_eq (S := S') hs h hb hnm hvv hcl
        refine ⟨trivial, ?_⟩
        simp only [ev_all, ls_all, Nat.reduceAdd]
        rw [en_sif]
        simp only [ev_all, ls_all, Nat.reduceAdd, e4]
        refine en_lcM dR (fun row => decide (row[ks.idxOf n]? = some v)) dR (rowsK st hi bs ks) trivial (fun row hr => ?_) ?_
        · have hl : i < row.length := by rw [hrl row hr]; exact hik
          simp only [ev_all, ls_all, Nat.reduceAdd, List.getElem?_map, hidx, List.getElem?_eq_getElem hl, Option.some.injEq]
        have hfl := List.length_filter_le (fun row : List Int => decide (row[ks.idxOf n]? = some v)) (rowsK st hi bs ks)
        have e6 := gEqL (S := S') (Eq2.dd Eq2.int) (by decide) ((rowsK st hi bs ks).filter fun row => decide (row[ks.idxOf n]? = some v)) []
        have e7 : decide (((rowsK st hi bs ks).filter fun row => decide (row[ks.idxOf n]? = some v)) = []) = !seenB st hi bs ks n v := by rw [← seen_filter h, Bool.not_not]
        rw [List.map_nil, e7] at e6
        have e8 : gInt [.bl (!seenB st hi bs ks n v)] S' = some (.int (if (!seenB st hi bs ks n v) = true then 1 else 0), S') := rfl
        have e9 : (if (!seenB st hi bs ks n v) = true then [D.tup [dN n, .int v]] else []) = (if seenB st hi bs ks n v then [] else [(n, v)]).map dPN := by
          cases seenB st hi bs ks n v <;> rfl
        have ga := gAdd_l (S := S') (xs := (strP st hi bs ks (ks.take i) ++ lossP st hi bs ks n pre2).map dPN) (ys := (if seenB st hi bs ks n v then [] else [(n, v)]).map dPN) (by
          have : ((if seenB st hi bs ks n v then [] else [(n, v)]) : List (Nat × Int)).length ≤ 1 := by split <;> simp
          simp only [List.length_map, List.length_append]; omega)
        rw [← List.map_append, List.append_assoc, ← lossP_snoc] at ga
        simp only [ev_all, ls_all, Nat.reduceAdd, List.length_map, show Sz ((rowsK st hi bs ks).filter fun row => decide (row[ks.idxOf n]? = some v)).length from sz_ok (by omega), e6, e8, mul_if, e9, ga]
      · rintro L S' ⟨rfl, rfl⟩
        have et : ks.take (i + 1) = ks.take i ++ [n] := by rw [List.take_add_one, hnk]; rfl
        refine ⟨trivial, ?_⟩
        simp only [ev_all, ls_all, Nat.reduceAdd, et, strP_snoc]
    · rintro L S ⟨rfl, rfl⟩
      have hel : (enumD 0 (ks.map dN)).length = ks.length := by rw [enumD_len, List.length_map]
      have htk : ks.take (0 + (enumD 0 (ks.map dN)).length) = ks := by rw [hel, Nat.zero_add, List.take_length]
      rw [htk]
      have e4 := struck_eq (S := S) hs h hcl
      have e5 := (rp_str (hi := hi) (bs := bs) hs h.inn h6).repr (S := S) (by decide) (by decide)
      have e6 : gTuple [.lst ((strP st hi bs ks ks).map dPN)] S = some (.tup ((strP st hi bs ks ks).map dPN), S) := rfl
      obtain ⟨w, rest, e7, hA, hw'⟩ := none_is (S := S) hs h hcl
      have e8 := fault_none (o := none) hs h trivial hA hcl
      simp only [Option.map_none, nmD, oI] at e8
      have e9 := (ans_rp (o := none) hs h hb trivial hA).repr (S := S) (by decide) (by decide)
      obtain ⟨e10, _⟩ := eq_word (S := S) hw'
      have e11 := gNeL (S := S) (Eq2.dd Eq2.int) (by decide) (rowsK st hi bs ks) []
      rw [List.map_nil] at e11
      have e12 := gNe2 (S := S) eqB (by decide) (decide (rowsK st hi bs ks ≠ [])) (!decide (rowsK st hi bs ks = []))
      rw [show (!decide (decide (rowsK st hi bs ks ≠ []) = !decide (rowsK st hi bs ks = []))) = false by simp] at e12
      have k1 : gNotN .non .non S = some (.bl false, S) := rfl
      refine ⟨trivial, ?_⟩
      simp only [ev_all, ls_all, Nat.reduceAdd]
      rw [en_sif]
      simp only [ev_all, ls_all, Nat.reduceAdd, e4, e5, e6, Int.sub_zero, Int.reduceToNat, hr2]
      refine ⟨rgI_ok (by decide) (by decide), ?_⟩
      refine en_lcA (ok := fun _ => True) (S := S) dN (fun _ => .tup [.str w, rest]) (List.range 2) trivial (fun _ _ => ?_) ?_
      · simp only [ev_all, ls_all, Nat.reduceAdd, e7]
      have hm2 : (List.range 2).map (fun _ => D.tup [.str w, rest]) = [.tup [.str w, rest], .tup [.str w, rest]] := rfl
      rw [hm2]
      simp only [ev_all, ls_all, Nat.reduceAdd]
      rw [en_sif]
      simp only [ev_all, ls_all, Nat.reduceAdd, e9, e8, k1]
      rw [en_sif]
      simp only [ev_all, ls_all, Nat.reduceAdd, e10, e11, e12, hrR]
      exact r2
  · rintro L S ⟨rfl, rs⟩
    refine ⟨trivial, ?_⟩
    simp only [ev_all, ls_all, Nat.reduceAdd]
    refine ⟨(.bl true, []), ?_, rfl⟩
    unfold cutR
    rfl
end

end K07
open PySem PySem.W PyProof.Rows
set_option maxRecDepth 100000 in
set_option maxHeartbeats 0 in
theorem PySem.Challenge.cw_seenorstruck_k07_rows_or_crowds_holds : PySem.Challenge.rw_seenorstruck_k07_rows_or_crowds.Holds := by
  w_on; o_law; k_head; (case hw => w_witness2)
  k_fill
  refine DS.walk_ofD (l := PySem.Challenge.rw_seenorstruck_k07_rows_or_crowds) (n := 63) (k := 9) (x := "script") (F := K07.F_law) rfl (by decide) rfl ⟨⟨rfl, by decide, by decide⟩, rfl⟩ (fun w h Y => PySem.W.kIn_of Y) ?F K07.truth
  case F =>
    intro w mg fa h KX G hmg
    refine' K07.all_mk KX G hmg ?a_0 ?l_0 ?c_0 ?k_0 ?a_1 ?l_1 ?c_1 ?k_1 ?a_2 ?l_2 ?c_2 ?k_2 ?a_3 ?l_3 ?c_3 ?k_3 ?a_4 ?l_4 ?c_4 ?k_4 ?a_5 ?l_5 ?c_5 ?k_5 ?a_6 ?l_6 ?c_6 ?k_6 ?a_7 ?l_7 ?c_7 ?k_7 ?a_8 ?l_8 ?c_8 ?k_8 ?a_9 ?l_9 ?c_9 ?k_9 ?a_10 ?l_10 ?c_10 ?k_10 ?a_11 ?l_11 ?c_11 ?k_11 ?a_12 ?l_12 ?c_12 ?k_12 ?a_13 ?l_13 ?c_13 ?k_13 ?a_14 ?l_14 ?c_14 ?k_14 ?a_15 ?l_15 ?c_15 ?k_15 ?a_16 ?l_16 ?c_16 ?k_16 ?a_17 ?l_17 ?c_17 ?k_17 ?a_18 ?l_18 ?c_18 ?k_18 ?a_19 ?l_19 ?c_19 ?k_19 ?a_20 ?l_20 ?c_20 ?k_20 ?a_21 ?l_21 ?c_21 ?k_21 ?a_22 ?l_22 ?c_22 ?k_22 ?a_23 ?l_23 ?c_23 ?k_23 ?a_24 ?l_24 ?c_24 ?k_24 ?a_25 ?l_25 ?c_25 ?k_25 ?a_26 ?l_26 ?c_26 ?k_26 ?a_27 ?l_27 ?c_27 ?k_27 ?a_28 ?l_28 ?c_28 ?k_28 ?a_29 ?l_29 ?c_29 ?k_29 ?a_30 ?l_30 ?c_30 ?k_30 ?a_31 ?l_31 ?c_31 ?k_31 ?z_abs ?z_all ?z_bool ?z_dict ?z_enumerate ?z_int ?z_isinstance ?z_len ?z_list ?z_max ?z_min ?z_range ?z_repr ?z_sorted ?z_str ?z_sum ?z_tuple
    (case a_0 => k_is)
    (case l_0 => k_is)
    (case c_0 => k_is)
    (case k_0 => k_is)
    (case a_1 => k_is)
    (case l_1 => k_is)
    (case c_1 => k_is)
    (case k_1 => k_is)
    (case a_2 => k_is)
    (case l_2 => k_is)
    (case c_2 => k_is)
    (case k_2 => k_is)
    (case a_3 => k_is)
    (case l_3 => k_is)
    (case c_3 => k_is)
    (case k_3 => k_is)
    (case a_4 => k_is)
    (case l_4 => k_is)
    (case c_4 => k_is)
    (case k_4 => k_is)
    (case a_5 => k_is)
    (case l_5 => k_is)
    (case c_5 => k_is)
    (case k_5 => k_is)
    (case a_6 => k_is)
    (case l_6 => k_is)
    (case c_6 => k_is)
    (case k_6 => k_is)
    (case a_7 => k_is)
    (case l_7 => k_is)
    (case c_7 => k_is)
    (case k_7 => k_is)
    (case a_8 => k_is)
    (case l_8 => k_is)
    (case c_8 => k_is)
    (case k_8 => k_is)
    (case a_9 => k_is)
    (case l_9 => k_is)
    (case c_9 => k_is)
    (case k_9 => k_is)
    (case a_10 => k_is)
    (case l_10 => k_is)
    (case c_10 => k_is)
    (case k_10 => k_is)
    (case a_11 => k_is)
    (case l_11 => k_is)
    (case c_11 => k_is)
    (case k_11 => k_is)
    (case a_12 => k_is)
    (case l_12 => k_is)
    (case c_12 => k_is)
    (case k_12 => k_is)
    (case a_13 => k_is)
    (case l_13 => k_is)
    (case c_13 => k_is)
    (case k_13 => k_is)
    (case a_14 => k_is)
    (case l_14 => k_is)
    (case c_14 => k_is)
    (case k_14 => k_is)
    (case a_15 => k_is)
    (case l_15 => k_is)
    (case c_15 => k_is)
    (case k_15 => k_is)
    (case a_16 => k_is)
    (case l_16 => k_is)
    (case c_16 => k_is)
    (case k_16 => k_is)
    (case a_17 => k_is)
    (case l_17 => k_is)
    (case c_17 => k_is)
    (case k_17 => k_is)
    (case a_18 => k_is)
    (case l_18 => k_is)
    (case c_18 => k_is)
    (case k_18 => k_is)
    (case a_19 => k_is)
    (case l_19 => k_is)
    (case c_19 => k_is)
    (case k_19 => k_is)
    (case a_20 => k_is)
    (case l_20 => k_is)
    (case c_20 => k_is)
    (case k_20 => k_is)
    (case a_21 => k_is)
    (case l_21 => k_is)
    (case c_21 => k_is)
    (case k_21 => k_is)
    (case a_22 => k_is)
    (case l_22 => k_is)
    (case c_22 => k_is)
    (case k_22 => k_is)
    (case a_23 => k_is)
    (case l_23 => k_is)
    (case c_23 => k_is)
    (case k_23 => k_is)
    (case a_24 => k_is)
    (case l_24 => k_is)
    (case c_24 => k_is)
    (case k_24 => k_is)
    (case a_25 => k_is)
    (case l_25 => k_is)
    (case c_25 => k_is)
    (case k_25 => k_is)
    (case a_26 => k_is)
    (case l_26 => k_is)
    (case c_26 => k_is)
    (case k_26 => k_is)
    (case a_27 => k_is)
    (case l_27 => k_is)
    (case c_27 => k_is)
    (case k_27 => k_is)
    (case a_28 => k_is)
    (case l_28 => k_is)
    (case c_28 => k_is)
    (case k_28 => k_is)
    (case a_29 => k_is)
    (case l_29 => k_is)
    (case c_29 => k_is)
    (case k_29 => k_is)
    (case a_30 => k_is)
    (case l_30 => k_is)
    (case c_30 => k_is)
    (case k_30 => k_is)
    (case a_31 => k_is)
    (case l_31 => k_is)
    (case c_31 => k_is)
    (case k_31 => k_is)
    (case z_abs => k_is)
    (case z_all => k_is)
    (case z_bool => k_is)
    (case z_dict => k_is)
    (case z_enumerate => k_is)
    (case z_int => k_is)
    (case z_isinstance => k_is)
    (case z_len => k_is)
    (case z_list => k_is)
    (case z_max => k_is)
    (case z_min => k_is)
    (case z_range => k_is)
    (case z_repr => k_is)
    (case z_sorted => k_is)
    (case z_str => k_is)
    (case z_sum => k_is)
    (case z_tuple => k_is)
#print axioms PySem.Challenge.cw_seenorstruck_k07_rows_or_crowds_holds
