import PyProof.Rows.All
import Wide.All
import OpenK.AllK
import Wide.FinOn
import HandS.Base
import HandS.Call
import HandS.List
import HandS.Comp
import HandS.Ends
import HandS.Dict
import HandS.Iter
import HandS.More
import HandS.Words
import HandS.WordsList
import HandS.Defaults
import HandS.IsInst
import HandS.Style
import HandS.TupAny
import HandS.SortInts
import HandS.SetFor
import HandS.Conv
import PySem.Challenge.RW_nearmerge_k52_whole_never_both
import KE.KStateDown
import Lean
import HandS.WordsExc
import HandS.Head0
import HandS.Head1
import HandS.Head2
import HandS.HeadEnd
import HandS.HeadHook1
import HandS.HeadHook2
set_option Elab.async false
set_option linter.all false
set_option maxRecDepth 100000
set_option maxHeartbeats 4000000
/-! DL0: data, environments, what a state is worth -/
namespace DL
open PySem PySem.Spec PyProof.Rows L2
abbrev D := PyData
abbrev St := L2.St
/-- what a slot holds: data that nobody changes; a list, a dict that this def alone holds -/
inductive Cell where
  | dat (d : D)
  | own (xs : List D)
  | dic (kvs : List (Int × D))
abbrev Rho := List (Option Cell)
def Cell.ow : Cell → Bool
  | .dat _ => false
  | _ => true

section
variable {K : PySem.W.Frag} {F H F' H' F1 H1 F2 H2 E B : Hp} {p : Addr} {o : HO} {v : V} {d : D}
theorem sameT (s : Same H H') {a : Addr} {xs : List V} (h : SqT K H a xs) : SqT K H' a xs := by
  rcases h with (h | ⟨o, h⟩) | h
  · exact .inl (.inl (s _ _ h))
  · exact .inl (.inr ⟨o, s _ _ h⟩)
  · exact .inr h
mutual
theorem dp_mono (s : Same H H') : ∀ (d : D) (v : V), Dp K H v d → Dp K H' v d
  | .none, _, h => by cases h; exact .non
  | .bool b, _, h => by cases h; exact .bl b
  | .int i, _, h => by cases h; exact .int i
  | .str x, _, h => by cases h; exact .str x
  | .list ds, _, h => by
    cases h with
    | lst hs ha => exact .lst (s.seq hs) (dpAll_mono s ds _ ha)
  | .tuple ds, _, h => by
    cases h with
    | tup hs ha => exact .tup (sameT s hs) (dpAll_mono s ds _ ha)
  | .dict _, _, h => by cases h
theorem dpAll_mono (s : Same H H') : ∀ (ds : List D) (vs : List V), DpAll K H vs ds → DpAll K H' vs ds
  | [], _, h => by cases h; exact .nil
  | d :: ds, _, h => by
    cases h with
    | cons h1 h2 => exact .cons (dp_mono s d _ h1) (dpAll_mono s ds _ h2)
end
theorem Dp.up (s : Same H H') (h : Dp K H v d) : Dp K H' v d := dp_mono s d v h
theorem DpAll.up (s : Same H H') {vs : List V} {ds : List D} (h : DpAll K H vs ds) : DpAll K H' vs ds := dpAll_mono s ds vs h
theorem DpAll.len : ∀ {vs : List V} {ds : List D}, DpAll K H vs ds → vs.length = ds.length
  | _, _, .nil => rfl
  | _, _, .cons _ t => congrArg Nat.succ (DpAll.len t)
theorem DpAll.get : ∀ {vs : List V} {ds : List D} {i : Nat} {v : V} {d : D}, DpAll K H vs ds → vs[i]? = some v → ds[i]? = some d → Dp K H v d
  | _, _, _, _, _, .nil, h, _ => by simp at h
  | _, _, 0, _, _, .cons a _, h, h2 => by
    simp at h h2
    subst h; subst h2
    exact a
  | _, _, i + 1, v, d, .cons _ t, h, h2 => DpAll.get (i := i) t (by simpa using h) (by simpa using h2)
theorem DpAll.append : ∀ {vs ws : List V} {ds es : List D}, DpAll K H vs ds → DpAll K H ws es → DpAll K H (vs ++ ws) (ds ++ es)
  | _, _, _, _, .nil, s => s
  | _, _, _, _, .cons a t, s => .cons a (DpAll.append t s)
theorem DpAll.take : ∀ (n : Nat) {vs : List V} {ds : List D}, DpAll K H vs ds → DpAll K H (vs.take n) (ds.take n)
  | 0, _, _, _ => .nil
  | _ + 1, _, _, .nil => .nil
  | n + 1, _, _, .cons a t => .cons a (DpAll.take n t)
theorem DpAll.drop : ∀ (n : Nat) {vs : List V} {ds : List D}, DpAll K H vs ds → DpAll K H (vs.drop n) (ds.drop n)
  | 0, _, _, r => r
  | _ + 1, _, _, .nil => .nil
  | n + 1, _, _, .cons _ t => DpAll.drop n t
theorem DpAll.rev {vs : List V} {ds : List D} (h : DpAll K H vs ds) : DpAll K H vs.reverse ds.reverse := by
  induction vs generalizing ds with
  | nil => cases h; exact .nil
  | cons v vs ih =>
    cases h with
    | cons a t =>
      rw [List.reverse_cons, List.reverse_cons]
      exact DpAll.append (ih t) (.cons a .nil)
theorem DpAll.set (i : Nat) {v : V} {d : D} (r : Dp K H v d) : ∀ {vs : List V} {ds : List D}, DpAll K H vs ds → DpAll K H (vs.set i v) (ds.set i d) := by
  induction i with
  | zero =>
    intro vs ds h
    cases h with
    | nil => exact .nil
    | cons a t => exact .cons r t
  | succ i ih =>
    intro vs ds h
    cases h with
    | nil => exact .nil
    | cons a t => exact .cons a (ih t)
theorem DpAll.rep (n : Nat) {vs : List V} {ds : List D} (h : DpAll K H vs ds) : DpAll K H (List.replicate n vs).flatten (List.replicate n ds).flatten := by
  induction n with
  | zero => exact .nil
  | succ n ih =>
    rw [List.replicate_succ, List.replicate_succ, List.flatten_cons, List.flatten_cons]
    exact DpAll.append h ih
/-! flat lists -/
theorem DpAll.ints : ∀ {vs : List V} {ns : List Int}, DpAll K H vs (ns.map PyData.int) → vs = ns.map V.int := by
  intro vs ns
  induction ns generalizing vs with
  | nil => intro h; cases h; rfl
  | cons n ns ih =>
    intro h
    cases h with
    | cons a t =>
      cases a
      rw [ih t, List.map_cons]
theorem DpAll.ofInts : ∀ (ns : List Int), DpAll K H (ns.map V.int) (ns.map PyData.int)
  | [] => .nil
  | n :: ns => .cons (.int n) (DpAll.ofInts ns)
theorem DpAll.bls : ∀ {vs : List V} {bs : List Bool}, DpAll K H vs (bs.map PyData.bool) → vs = bs.map V.bl := by
  intro vs bs
  induction bs generalizing vs with
  | nil => intro h; cases h; rfl
  | cons n ns ih =>
    intro h
    cases h with
    | cons a t =>
      cases a
      rw [ih t, List.map_cons]

/-! ### how a state grows: F what is frozen, H all that is tracked -/
structure Ext (F H F' H' : Hp) : Prop where
  ff : Same F F'
  hh : Same H H'
  fh : Same F' H'
  out : ∀ p o, H p = some o → F p = none → F' p = none
theorem Ext.refl (h : Same F H) : Ext F H F H := ⟨Same.refl _, Same.refl _, h, fun _ _ _ q => q⟩
theorem Ext.trans (a : Ext F H F1 H1) (b : Ext F1 H1 F2 H2) : Ext F H F2 H2 :=
  ⟨a.ff.trans b.ff, a.hh.trans b.hh, b.fh, fun p o q n => b.out p o (a.hh p o q) (a.out p o q n)⟩
theorem same_upd (n : H p = none) : Same H (upd H p o) := fun b u e => by
  rw [upd_ne (ne_of_none e n)]
  exact e
theorem none_of (s : Same F H) (n : H p = none) : F p = none := s.free n
/-- a new object that stays as it is -/
theorem Ext.new (h : Same F H) (n : H p = none) : Ext F H (upd F p o) (upd H p o) where
  ff := same_upd (none_of h n)
  hh := same_upd n
  fh := fun b u e => by
    by_cases q : b = p
    · subst q
      rw [upd_same] at e ⊢
      exact e
    · rw [upd_ne q] at e ⊢
      exact h b u e
  out := fun b u e q => by
    rw [upd_ne (ne_of_none e n)]
    exact q
/-- a new object that is not frozen -/
theorem Ext.junk (h : Same F H) (n : H p = none) : Ext F H F (upd H p o) where
  ff := Same.refl _
  hh := same_upd n
  fh := h.trans (same_upd n)
  out := fun _ _ _ q => q
/-- freeze an object that came since -/
theorem Ext.freeze (a : Ext F H F1 H1) (n : H p = none) (n1 : F1 p = none) (e : H1 p = some o) : Ext F H (upd F1 p o) H1 where
  ff := a.ff.trans (same_upd n1)
  hh := a.hh
  fh := fun b u q => by
    by_cases z : b = p
    · subst z
      rw [upd_same] at q
      rw [← q]
      exact e
    · rw [upd_ne z] at q
      exact a.fh b u q
  out := fun b u q z => by
    have ne : b ≠ p := ne_of_none q n
    rw [upd_ne ne]
    exact a.out b u q z

/-! ### what may be read: data, or a list whose items are data -/
def RepS (K : PySem.W.Frag) (F H : Hp) (v : V) (d : D) : Prop :=
  Dp K F v d ∨ ∃ p vs xs, v = .ref p ∧ d = .list xs ∧ SqL K H p vs ∧ DpAll K F vs xs
theorem RepS.up (e : Ext F H F' H') (h : RepS K F H v d) : RepS K F' H' v d := by
  rcases h with h | ⟨p, vs, xs, e1, e2, s, a⟩
  · exact .inl (Dp.up e.ff h)
  · exact .inr ⟨p, vs, xs, e1, e2, e.hh.seq s, DpAll.up e.ff a⟩
theorem RepS.dp (s : Same F H) (h : RepS K F H v d) : Dp K H v d := by
  rcases h with h | ⟨p, vs, xs, rfl, rfl, q, a⟩
  · exact Dp.up s h
  · exact .lst q (DpAll.up s a)
theorem RepS.list {xs : List D} (s : Same F H) (h : RepS K F H v (.list xs)) : ∃ p vs, v = .ref p ∧ SqL K H p vs ∧ DpAll K F vs xs := by
  rcases h with h | ⟨p, vs, ys, rfl, e, q, a⟩
  · cases h with
    | lst hs ha => exact ⟨_, _, rfl, s.seq hs, ha⟩
  · cases e
    exact ⟨p, vs, rfl, q, a⟩
theorem RepS.tup {xs : List D} (h : RepS K F H v (.tuple xs)) : ∃ p vs, v = .ref p ∧ SqT K F p vs ∧ DpAll K F vs xs := by
  rcases h with h | ⟨p, vs, ys, rfl, e, q, a⟩
  · cases h with
    | tup hs ha => exact ⟨_, _, rfl, hs, ha⟩
  · cases e
theorem RepS.int {i : Int} (h : RepS K F H v (.int i)) : v = .int i := by
  rcases h with h | ⟨p, vs, ys, rfl, e, q, a⟩
  · cases h; rfl
  · cases e
theorem RepS.str {x : Str} (h : RepS K F H v (.str x)) : v = .str x := by
  rcases h with h | ⟨p, vs, ys, rfl, e, q, a⟩
  · cases h; rfl
  · cases e
theorem RepS.bl {b : Bool} (h : RepS K F H v (.bool b)) : v = .bl b := by
  rcases h with h | ⟨p, vs, ys, rfl, e, q, a⟩
  · cases h; rfl
  · cases e
theorem RepS.non (h : RepS K F H v .none) : v = .non := by
  rcases h with h | ⟨p, vs, ys, rfl, e, q, a⟩
  · cases h; rfl
  · cases e
theorem RepS.nodict {kvs : List (D × D)} (h : RepS K F H v (.dict kvs)) : False := by
  rcases h with h | ⟨p, vs, ys, rfl, e, q, a⟩
  · cases h
  · cases e
/-- two frozen lists, two of a value -/
theorem Dp.list {xs : List D} (h : Dp K F v (.list xs)) : ∃ p vs, v = .ref p ∧ SqL K F p vs ∧ DpAll K F vs xs := by
  cases h with
  | lst hs ha => exact ⟨_, _, rfl, hs, ha⟩
theorem Dp.tuple {xs : List D} (h : Dp K F v (.tuple xs)) : ∃ p vs, v = .ref p ∧ SqT K F p vs ∧ DpAll K F vs xs := by
  cases h with
  | tup hs ha => exact ⟨_, _, rfl, hs, ha⟩
theorem Dp.int' {i : Int} (h : Dp K F v (.int i)) : v = .int i := by cases h; rfl
theorem Dp.bl' {i : Bool} (h : Dp K F v (.bool i)) : v = .bl i := by cases h; rfl
theorem Dp.str' {i : Str} (h : Dp K F v (.str i)) : v = .str i := by cases h; rfl
theorem Dp.non' (h : Dp K F v .none) : v = .non := by cases h; rfl

/-! ### what a slot's cell says -/
def KvR (K : PySem.W.Frag) (F : Hp) (us : List (Key × V)) (kvs : List (Int × D)) : Prop :=
  us.map (·.1) = kvs.map (fun q => (Sum.inl q.1 : Key)) ∧ DpAll K F (us.map (·.2)) (kvs.map (·.2))
/-- B: all that stood at the def's entry -/
def CellRep (K : PySem.W.Frag) (B F H : Hp) (v : V) : Cell → Prop
  | .dat d => Dp K F v d
  | .own xs => ∃ p vs, v = .ref p ∧ B p = none ∧ F p = none ∧ H p = some (.lst vs) ∧ DpAll K F vs xs
  | .dic kvs => ∃ p us, v = .ref p ∧ B p = none ∧ F p = none ∧ H p = some (.dK us) ∧ KvR K F us kvs
theorem KvR.up (s : Same F F') {us : List (Key × V)} {kvs : List (Int × D)} (h : KvR K F us kvs) : KvR K F' us kvs := ⟨h.1, DpAll.up s h.2⟩
theorem CellRep.up {c : Cell} (e : Ext F H F' H') (h : CellRep K B F H v c) : CellRep K B F' H' v c := by
  cases c with
  | dat d => exact Dp.up e.ff h
  | own xs =>
    obtain ⟨p, vs, e1, b, n, q, a⟩ := h
    exact ⟨p, vs, e1, b, e.out _ _ q n, e.hh _ _ q, DpAll.up e.ff a⟩
  | dic kvs =>
    obtain ⟨p, vs, e1, b, n, q, a⟩ := h
    exact ⟨p, vs, e1, b, e.out _ _ q n, e.hh _ _ q, a.up e.ff⟩
/-- an owned cell stands at an address that is tracked, not frozen, younger than the entry -/
theorem CellRep.at {c : Cell} (h : CellRep K B F H v c) (o : c.ow = true) : ∃ p u, v = .ref p ∧ B p = none ∧ F p = none ∧ H p = some u := by
  cases c with
  | dat d => cases o
  | own xs =>
    obtain ⟨p, vs, e1, b, n, q, _⟩ := h
    exact ⟨p, _, e1, b, n, q⟩
  | dic kvs =>
    obtain ⟨p, vs, e1, b, n, q, _⟩ := h
    exact ⟨p, _, e1, b, n, q⟩
/-- the state: E, B the frozen part and the heap at the entry -/
structure SR (K : PySem.W.Frag) (E B F H : Hp) (σ : St) (ρ : Rho) : Prop where
  len : σ.length = ρ.length
  ext : Ext E B F H
  cel : ∀ (i : Nat) (c : Cell), ρ[i]? = some (some c) → ∃ v, σ[i]? = some (some v) ∧ CellRep K B F H v c
  sep : ∀ (i j : Nat) (c c' : Cell) (p : Addr), i ≠ j → ρ[i]? = some (some c) → ρ[j]? = some (some c') → c.ow = true → c'.ow = true → σ[i]? = some (some (.ref p)) → σ[j]? = some (some (.ref p)) → False
variable {σ : St} {ρ : Rho} {c : Cell} {i : Nat}
theorem SR.fh (R : SR K E B F H σ ρ) : Same F H := R.ext.fh
theorem SR.up (R : SR K E B F H σ ρ) (e : Ext F H F' H') : SR K E B F' H' σ ρ where
  len := R.len
  ext := R.ext.trans e
  cel := fun i c h => by
    obtain ⟨v, h1, h2⟩ := R.cel i c h
    exact ⟨v, h1, h2.up e⟩
  sep := R.sep
theorem SR.dat {d : D} (R : SR K E B F H σ ρ) (h : ρ[i]? = some (some (.dat d))) : ∃ v, σ[i]? = some (some v) ∧ Dp K F v d := R.cel i _ h
/-- a slot is stored: data, or a new object that no other slot holds -/
theorem SR.set (R : SR K E B F H σ ρ) (h : CellRep K B F H v c)
    (n : c.ow = true → ∀ (j : Nat) (c' : Cell) (p : Addr), j ≠ i → ρ[j]? = some (some c') → c'.ow = true → σ[j]? = some (some (.ref p)) → v ≠ .ref p) : SR K E B F H (σ.set i (some v)) (ρ.set i (some c)) where
  len := by rw [List.length_set, List.length_set, R.len]
  ext := R.ext
  cel := fun j c' q => by
    by_cases z : i = j
    · subst z
      rw [List.getElem?_set] at q
      by_cases hl : i < ρ.length
      · simp [hl] at q
        subst q
        exact ⟨v, by rw [List.getElem?_set_self (by rw [R.len]; exact hl)], h⟩
      · simp [hl] at q
    · rw [List.getElem?_set_ne z] at q
      rw [List.getElem?_set_ne z]
      exact R.cel j c' q
  sep := fun j k c1 c2 p jk h1 h2 o1 o2 s1 s2 => by
    by_cases zj : i = j
    · subst zj
      rw [List.getElem?_set_ne jk] at h2 s2
      rw [List.getElem?_set] at h1 s1
      by_cases hl : i < ρ.length
      · have hl' : i < σ.length := by rw [R.len]; exact hl
        simp [hl] at h1
        simp [hl'] at s1
        subst h1
        exact n o1 k c2 p (Ne.symm jk) h2 o2 s2 s1
      · simp [hl] at h1
    · by_cases zk : i = k
      · subst zk
        rw [List.getElem?_set_ne zj] at h1 s1
        rw [List.getElem?_set] at h2 s2
        by_cases hl : i < ρ.length
        · have hl' : i < σ.length := by rw [R.len]; exact hl
          simp [hl] at h2
          simp [hl'] at s2
          subst h2
          exact n o2 j c1 p jk h1 o1 s1 s2
        · simp [hl] at h2
      · rw [List.getElem?_set_ne zj] at h1 s1
        rw [List.getElem?_set_ne zk] at h2 s2
        exact R.sep j k c1 c2 p jk h1 h2 o1 o2 s1 s2
theorem SR.setDat {d : D} (R : SR K E B F H σ ρ) (h : Dp K F v d) : SR K E B F H (σ.set i (some v)) (ρ.set i (some (.dat d))) :=
  R.set (c := .dat d) h fun z => by cases z
/-- a slot forgotten -/
theorem SR.unset (R : SR K E B F H σ ρ) (i : Nat) : SR K E B F H (σ.set i none) (ρ.set i none) where
  len := by rw [List.length_set, List.length_set, R.len]
  ext := R.ext
  cel := fun j c' q => by
    by_cases z : i = j
    · subst z
      rw [List.getElem?_set] at q
      by_cases hl : i < ρ.length
      · simp [hl] at q
      · simp [hl] at q
    · rw [List.getElem?_set_ne z] at q
      rw [List.getElem?_set_ne z]
      exact R.cel j c' q
  sep := fun j k c1 c2 p jk h1 h2 o1 o2 s1 s2 => by
    have zj : i ≠ j := fun z => by
      subst z
      rw [List.getElem?_set] at h1
      by_cases hl : i < ρ.length
      · simp [hl] at h1
      · simp [hl] at h1
    have zk : i ≠ k := fun z => by
      subst z
      rw [List.getElem?_set] at h2
      by_cases hl : i < ρ.length
      · simp [hl] at h2
      · simp [hl] at h2
    rw [List.getElem?_set_ne zj] at h1 s1
    rw [List.getElem?_set_ne zk] at h2 s2
    exact R.sep j k c1 c2 p jk h1 h2 o1 o2 s1 s2
def wipeR (ρ : Rho) : List Nat → Rho
  | [] => ρ
  | v :: vs => (wipeR ρ vs).set v none
theorem SR.wipe (R : SR K E B F H σ ρ) : ∀ vs : List Nat, SR K E B F H (wipe σ vs) (wipeR ρ vs)
  | [] => R
  | v :: vs => (SR.wipe R vs).unset v
/-- the content of an owned slot is changed -/
theorem SR.write {u : HO} (R : SR K E B F H σ ρ) {c0 : Cell} (h : ρ[i]? = some (some c0)) (o0 : c0.ow = true) (hs : σ[i]? = some (some (.ref p))) (nb : B p = none) (nf : F p = none)
    (hc : CellRep K B F (upd H p u) (.ref p) c) : SR K E B F (upd H p u) σ (ρ.set i (some c)) where
  len := by rw [List.length_set, R.len]
  ext := ⟨R.ext.ff, fun b z q => by rw [upd_ne (ne_of_none q nb)]; exact R.ext.hh b z q, fun b z q => by rw [upd_ne (ne_of_none q nf)]; exact R.ext.fh b z q, R.ext.out⟩
  cel := fun j c' q => by
    by_cases z : i = j
    · subst z
      rw [List.getElem?_set] at q
      by_cases hl : i < ρ.length
      · simp [hl] at q
        subst q
        exact ⟨_, hs, hc⟩
      · simp [hl] at q
    · rw [List.getElem?_set_ne z] at q
      obtain ⟨v, h1, h2⟩ := R.cel j c' q
      refine ⟨v, h1, ?_⟩
      cases c' with
      | dat d => exact h2
      | own xs =>
        obtain ⟨p', vs, rfl, b, n, q', a⟩ := h2
        have ne : p' ≠ p := fun z' => by subst z'; exact R.sep i j c0 _ p' z h q o0 rfl hs h1
        exact ⟨p', vs, rfl, b, n, by rw [upd_ne ne]; exact q', a⟩
      | dic kvs =>
        obtain ⟨p', vs, rfl, b, n, q', a⟩ := h2
        have ne : p' ≠ p := fun z' => by subst z'; exact R.sep i j c0 _ p' z h q o0 rfl hs h1
        exact ⟨p', vs, rfl, b, n, by rw [upd_ne ne]; exact q', a⟩
  sep := fun j k c1 c2 q jk h1 h2 o1 o2 s1 s2 => by
    have g : ∀ (j : Nat) (c1 : Cell), (ρ.set i (some c))[j]? = some (some c1) → c1.ow = true → ∃ c1' : Cell, ρ[j]? = some (some c1') ∧ c1'.ow = true := fun j c1 h1 o1 => by
      by_cases z : i = j
      · subst z
        exact ⟨c0, h, o0⟩
      · rw [List.getElem?_set_ne z] at h1
        exact ⟨c1, h1, o1⟩
    obtain ⟨c1', h1', o1'⟩ := g j c1 h1 o1
    obtain ⟨c2', h2', o2'⟩ := g k c2 h2 o2
    exact R.sep j k c1' c2' q jk h1' h2' o1' o2' s1 s2
end
end DL
/-! DL1: expressions -/
namespace DL
open PySem PySem.Spec PyProof.Rows L2
/-! ### list + list, whatever lists -/
section
variable {X : Cx}
def rCatL (K : PySem.W.Frag) : R2 := fun x y H Q => ∃ l b xs zs, x = .ref l ∧ y = .ref b ∧ SqL K H l xs ∧ SqL K H b zs ∧ xs.length + zs.length ≤ sizeLine ∧ ∀ p, H p = none → Q (.ref p) (upd H p (.lst (xs ++ zs)))
theorem op_catL : OpR X (binaryOp .Add) (rCatL X.K) := by
  intro pins s σ H x y v u Q I rx ry h
  obtain ⟨l, b, xs, zs, rfl, rfl, hH, hB, hz, q⟩ := h
  cases rx
  cases ry
  obtain ⟨its, r, hl, _⟩ := I.list hH
  obtain ⟨its2, r2, hl2, _⟩ := I.list hB
  have e1 := r.length
  have e2 := r2.length
  obtain ⟨⟨cls, dd, data, sl⟩, ho, hc, n, hd⟩ := id hl.isList
  obtain ⟨⟨cls2, dd2, data2, sl2⟩, ho2, hc2, n2, hd2⟩ := id hl2.isList
  simp only at hc hd hc2 hd2
  subst hc hd hc2 hd2
  have ea : its.toArray ++ its2.toArray = (its ++ its2).toArray := by simp
  refine concat_meets ⟨_, ho, rfl⟩ ⟨_, ho2, rfl⟩ noFill_list_add seq_list_add PySem.F.slot_list_add PySem.F.entry_list_add (PySem.F.args_list_add_2 _ _) (list_addW l b its.toArray its2.toArray n n2 dd dd2 sl sl2 (by rw [List.size_toArray, List.size_toArray]; omega)) ⟨ho, ho2, ?_⟩
  rw [ea]
  exact ⟨.ref _, _, I.lnew (t' := s.toks) (r.append r2) (by rw [List.length_append]; omega), rfl, q _ I.fresh⟩
end

/-! ### consequence -/
section
variable {X : Cx} {e : Expr}
theorem pe_cons {t t' : TE} (h : PE X e t) (k : ∀ σ H Q, t' σ H Q → t σ H Q) : PE X e t' := ⟨fun pins s σ H Q I q => h.run pins s σ H Q I (k σ H Q q)⟩
theorem pt_cons {t t' : TT} (h : PT X e t) (k : ∀ σ H Q, t' σ H Q → t σ H Q) : PT X e t' := ⟨fun pins s σ H Q I q => h.run pins s σ H Q I (k σ H Q q)⟩
theorem pw_cons {t t' : TT} (h : PW X e t) (k : ∀ σ H Q, t' σ H Q → t σ H Q) : PW X e t' := ⟨fun w pins s σ H Q I q => h.run w pins s σ H Q I (k σ H Q q)⟩
theorem pa_conseq {es : List Expr} {t t' : TA} (h : PA X es t) (k : ∀ σ H Q, t' σ H Q → t σ H Q) : PA X es t' := ⟨fun pos pins s σ H Q I q => h.run pos pins s σ H Q I (k σ H Q q)⟩
end
/-! ### readings of data -/
def tD (K : PySem.W.Frag) (f : Rho → Option D) : TE := fun σ H Q => ∃ (E B F : Hp) (ρ : Rho) (d : D), SR K E B F H σ ρ ∧ f ρ = some d ∧ ∀ v F' H', Ext F H F' H' → Dp K F' v d → Q v H'
def tR (K : PySem.W.Frag) (f : Rho → Option D) : TE := fun σ H Q => ∃ (E B F : Hp) (ρ : Rho) (d : D), SR K E B F H σ ρ ∧ f ρ = some d ∧ ∀ v F' H', Ext F H F' H' → RepS K F' H' v d → Q v H'
def tF (K : PySem.W.Frag) (f : Rho → Option (List D)) : TE := fun σ H Q => ∃ (E B F : Hp) (ρ : Rho) (xs : List D), SR K E B F H σ ρ ∧ f ρ = some xs ∧
  ∀ p vs F' H', Ext F H F' H' → H p = none → F' p = none → H' p = some (.lst vs) → DpAll K F' vs xs → Q (.ref p) H'
def tTs (K : PySem.W.Frag) (f : Rho → Option Bool) : TT := fun σ H Q => ∃ (E B F : Hp) (ρ : Rho) (b : Bool), SR K E B F H σ ρ ∧ f ρ = some b ∧ ∀ F' H', Ext F H F' H' → Q b H'
def tAs (K : PySem.W.Frag) (f : Rho → Option (List D)) : TA := fun σ H Q => ∃ (E B F : Hp) (ρ : Rho) (ds : List D), SR K E B F H σ ρ ∧ f ρ = some ds ∧ ∀ vs F' H', Ext F H F' H' → DpAll K F' vs ds → Q vs H'
abbrev DE (X : Cx) (e : Expr) (f : Rho → Option D) : Prop := PE X e (tD X.K f)
abbrev DR (X : Cx) (e : Expr) (f : Rho → Option D) : Prop := PE X e (tR X.K f)
abbrev DF (X : Cx) (e : Expr) (f : Rho → Option (List D)) : Prop := PE X e (tF X.K f)
abbrev DT (X : Cx) (e : Expr) (f : Rho → Option Bool) : Prop := PT X e (tTs X.K f)
abbrev DW (X : Cx) (e : Expr) (f : Rho → Option Bool) : Prop := PW X e (tTs X.K f)
abbrev DA (X : Cx) (es : List Expr) (f : Rho → Option (List D)) : Prop := PA X es (tAs X.K f)

theorem bnd {α β : Type} {o : Option α} {f : α → Option β} {b : β} (h : o.bind f = some b) : ∃ a, o = some a ∧ f a = some b := Option.bind_eq_some_iff.mp h

/-! the functions -/
def fV (i : Nat) : Rho → Option D := fun ρ => match ρ[i]? with
  | some (some (.dat d)) => some d
  | _ => none
def fR (i : Nat) : Rho → Option D := fun ρ => match ρ[i]? with
  | some (some (.dat d)) => some d
  | some (some (.own xs)) => some (.list xs)
  | _ => none
def fC (d : D) : Rho → Option D := fun _ => some d
def fL (f : Rho → Option (List D)) : Rho → Option D := fun ρ => (f ρ).map PyData.list
def f1 (g : D → Option D) (f : Rho → Option D) : Rho → Option D := fun ρ => (f ρ).bind g
def f2 (g : D → D → Option D) (f f' : Rho → Option D) : Rho → Option D := fun ρ => (f ρ).bind fun a => (f' ρ).bind fun b => g a b
def asB : D → Option Bool
  | .bool b => some b
  | _ => none
def fB (f : Rho → Option D) : Rho → Option Bool := fun ρ => (f ρ).bind asB
def fCh (g g' : D → D → Option D) (f f' f'' : Rho → Option D) : Rho → Option D := fun ρ => (f ρ).bind fun a => (f' ρ).bind fun b => (g a b).bind fun r => match r with
  | .bool true => (f'' ρ).bind fun c => g' b c
  | .bool false => some (.bool false)
  | _ => none
def fAnd (f f' : Rho → Option D) : Rho → Option D := fun ρ => (f ρ).bind fun a => match a with
  | .bool true => f' ρ
  | .bool false => some (.bool false)
  | _ => none
def fOr (f f' : Rho → Option D) : Rho → Option D := fun ρ => (f ρ).bind fun a => match a with
  | .bool true => some (.bool true)
  | .bool false => f' ρ
  | _ => none
def gNot : D → Option D
  | .bool b => some (.bool (!b))
  | _ => none
def tAndF (f f' : Rho → Option Bool) : Rho → Option Bool := fun ρ => (f ρ).bind fun a => if a then f' ρ else some false
def tOrF (f f' : Rho → Option Bool) : Rho → Option Bool := fun ρ => (f ρ).bind fun a => if a then some true else f' ρ
def tNotF (f : Rho → Option Bool) : Rho → Option Bool := fun ρ => (f ρ).map (!·)
def fCons (f : Rho → Option D) (g : Rho → Option (List D)) : Rho → Option (List D) := fun ρ => (f ρ).bind fun d => (g ρ).bind fun ds => some (d :: ds)
def fNil : Rho → Option (List D) := fun _ => some []
def lim {α : Type} (n : Nat) (a : α) : Option α := if n ≤ 100000 then some a else none
def fTup (f : Rho → Option (List D)) : Rho → Option D := fun ρ => (f ρ).bind fun ds => lim ds.length (.tuple ds)
def fLst (f : Rho → Option (List D)) : Rho → Option (List D) := fun ρ => (f ρ).bind fun ds => lim ds.length ds
def fCall (F : List D → Option D) (f : Rho → Option (List D)) : Rho → Option D := fun ρ => (f ρ).bind F
theorem lim_some {α : Type} {n : Nat} {a b : α} (h : lim n a = some b) : n ≤ 100000 ∧ a = b := by
  unfold lim at h
  split at h
  · exact ⟨by assumption, Option.some.inj h⟩
  · cases h
theorem line_of {n : Nat} (h : n ≤ 100000) : n ≤ sizeLine := by rw [sizeLine_eq]; omega
theorem line_lt {n : Nat} (h : n ≤ 100000) : n < sizeLine := by rw [sizeLine_eq]; omega

section
variable {X : Cx} {a b c e : Expr} {es : List Expr} {pos : Pos} {f f' f'' : Rho → Option D}
theorem dr_of (h : DE X e f) : DR X e f := pe_cons h fun σ H Q ⟨E, B, F, ρ, d, R, hd, k⟩ => ⟨E, B, F, ρ, d, R, hd, fun v F' H' x q => k v F' H' x (.inl q)⟩
theorem de_fresh {f : Rho → Option (List D)} (h : DF X e f) : DE X e (fL f) := pe_cons h fun σ H Q ⟨E, B, F, ρ, d, R, hd, k⟩ => by
  obtain ⟨xs, h1, h2⟩ := Option.map_eq_some_iff.mp hd
  subst h2
  exact ⟨E, B, F, ρ, xs, R, h1, fun p vs F' H' x n nf q ha => k _ _ H' (x.freeze n nf q) (.lst (SqL.of upd_same) (DpAll.up (same_upd nf) ha))⟩
theorem fV_some {i : Nat} {ρ : Rho} {d : D} (h : fV i ρ = some d) : ρ[i]? = some (some (.dat d)) := by
  unfold fV at h
  split at h
  · rename_i d' e'
    cases h
    exact e'
  · cases h
theorem fR_some {i : Nat} {ρ : Rho} {d : D} (h : fR i ρ = some d) : ρ[i]? = some (some (.dat d)) ∨ ∃ xs, d = .list xs ∧ ρ[i]? = some (some (.own xs)) := by
  unfold fR at h
  split at h
  · rename_i d' e'
    cases h
    exact .inl e'
  · rename_i xs e'
    cases h
    exact .inr ⟨xs, rfl, e'⟩
  · cases h
theorem de_var (i : Nat) {x : Str} {pos : Pos} (hN : X.N[i]? = some x := by rfl) (hv : Vis X.env.scope x := by first | exact Or.inl rfl | exact Or.inr (Or.inl rfl) | exact Or.inr (Or.inr rfl)) (hd : (x == ("__debug__" : Str)) = false := by decide)
    (hcd : (x == ("__classdict__" : Str)) = false := by decide) : DE X (.Name x pos) (fV i) := pe_cons (pe_var hN hv hd hcd) fun σ H Q ⟨E, B, F, ρ, d, R, h, k⟩ => by
  obtain ⟨v, h1, h2⟩ := R.dat (fV_some h)
  exact ⟨v, h1, k v F H (Ext.refl R.fh) h2⟩
theorem dr_var (i : Nat) {x : Str} {pos : Pos} (hN : X.N[i]? = some x := by rfl) (hv : Vis X.env.scope x := by first | exact Or.inl rfl | exact Or.inr (Or.inl rfl) | exact Or.inr (Or.inr rfl)) (hd : (x == ("__debug__" : Str)) = false := by decide)
    (hcd : (x == ("__classdict__" : Str)) = false := by decide) : DR X (.Name x pos) (fR i) := pe_cons (pe_var hN hv hd hcd) fun σ H Q ⟨E, B, F, ρ, d, R, h, k⟩ => by
  rcases fR_some h with h0 | ⟨xs, rfl, h0⟩
  · obtain ⟨v, h1, h2⟩ := R.dat h0
    exact ⟨v, h1, k v F H (Ext.refl R.fh) (.inl h2)⟩
  · obtain ⟨v, h1, p, vs, rfl, _, _, q, ha⟩ := R.cel i _ h0
    exact ⟨_, h1, k _ F H (Ext.refl R.fh) (.inr ⟨p, vs, xs, rfl, rfl, SqL.of q, ha⟩)⟩
theorem de_const {v : V} {d : D} (p : PE X e (tC v)) (h : ∀ F, Dp X.K F v d) : DE X e (fC d) := pe_cons p fun σ H Q ⟨E, B, F, ρ, d', R, hd, k⟩ => by
  cases hd
  exact k v F H (Ext.refl R.fh) (h F)
theorem de_int {i j pos} : DE X (.Constant (.int i) j pos) (fC (.int i)) := de_const pe_int fun _ => .int i
theorem de_bl {b j pos} : DE X (.Constant (.bool b) j pos) (fC (.bool b)) := de_const pe_bl fun _ => .bl b
theorem de_non {j pos} : DE X (.Constant .none j pos) (fC .none) := de_const pe_non fun _ => .non
theorem de_str {x j pos} : DE X (.Constant (.str x) j pos) (fC (.str x)) := de_const pe_str fun _ => .str x
theorem de_globI {x : Str} {i : Int} {pos : Pos} (hm : ∃ t, X.mg x = some (.int i t)) (hg : Gl X x := by rfl) (hd : (x == ("__debug__" : Str)) = false := by decide) : DE X (.Name x pos) (fC (.int i)) := by
  obtain ⟨t, h⟩ := hm
  exact de_const (pe_glob hg h (v := .int i) ⟨t, rfl⟩ hd) fun _ => .int i
theorem de_globS {x : Str} {z : Str} {pos : Pos} (hm : ∃ t, X.mg x = some (.str z t)) (hg : Gl X x := by rfl) (hd : (x == ("__debug__" : Str)) = false := by decide) : DE X (.Name x pos) (fC (.str z)) := by
  obtain ⟨t, h⟩ := hm
  exact de_const (pe_glob hg h (v := .str z) ⟨t, rfl⟩ hd) fun _ => .str z
/-- code that is not come to -/
theorem pe_no {t : TE} (h : ∀ σ H Q, ¬ t σ H Q) : PE X e t := ⟨fun _ _ σ H Q _ q => absurd q (h σ H Q)⟩
def fNo {α : Type} : Rho → Option α := fun _ => none
theorem de_no : DE X e fNo := pe_no fun σ H Q ⟨E, B, F, ρ, d, R, hd, k⟩ => by cases hd
theorem dr_no : DR X e fNo := pe_no fun σ H Q ⟨E, B, F, ρ, d, R, hd, k⟩ => by cases hd

/-! ### operators by values -/
structure G2 (K : PySem.W.Frag) (r : R2) (g : D → D → Option D) : Prop where
  ok : ∀ (F H : Hp) (x y : V) (a b c : D) (Q : VK), Same F H → RepS K F H x a → RepS K F H y b → g a b = some c → (∀ v F' H', Ext F H F' H' → Dp K F' v c → Q v H') → r x y H Q
structure G1 (K : PySem.W.Frag) (r : V → Hp → VK → Prop) (g : D → Option D) : Prop where
  ok : ∀ (F H : Hp) (x : V) (a c : D) (Q : VK), Same F H → RepS K F H x a → g a = some c → (∀ v F' H', Ext F H F' H' → Dp K F' v c → Q v H') → r x H Q
theorem run2 {σ : St} {H : Hp} {Q : VK} {r : R2} {g : D → D → Option D} (hg : G2 X.K r g) (h : tD X.K (f2 g f f') σ H Q) : tOp r (tR X.K f) (tR X.K f') σ H Q := by
  obtain ⟨E, B, F, ρ, d, R, hd, k⟩ := h
  obtain ⟨da, h1, hd⟩ := bnd hd
  obtain ⟨db, h2, h3⟩ := bnd hd
  refine ⟨E, B, F, ρ, da, R, h1, fun x F1 H1 e1 ra => ⟨E, B, F1, ρ, db, R.up e1, h2, fun y F2 H2 e2 rb => ?_⟩⟩
  exact hg.ok F2 H2 x y da db d Q e2.fh (ra.up e2) rb h3 fun v F3 H3 e3 q => k v F3 H3 (e1.trans (e2.trans e3)) q
theorem de_bin {op : Operator} {r : R2} {g : D → D → Option D} (ho : OpR X (binaryOp op) r) (hg : G2 X.K r g) (ha : DR X a f) (hb : DR X b f') : DE X (.BinOp a op b pos) (f2 g f f') :=
  pe_cons (pe_op ho ha hb) fun σ H Q h => run2 hg h
theorem de_cmp {op : CmpOp} {r : R2} {g : D → D → Option D} (ho : OpR X (compareOp op) r) (hg : G2 X.K r g) (ha : DR X a f) (hb : DR X b f') (hm : behindInMarks op b = false) : DE X (.Compare a [op] [b] pos) (f2 g f f') :=
  pe_cons (pe_cmpR ho ha hb hm) fun σ H Q h => run2 hg h
theorem tB_of {σ : St} {H : Hp} {Q : Bool → Hp → Prop} (h : tTs X.K (fB f) σ H Q) : tD X.K f σ H (fun x H' => ∃ k, x = .bl k ∧ Q k H') := by
  obtain ⟨E, B, F, ρ, b, R, hd, k⟩ := h
  obtain ⟨d, h1, h2⟩ := bnd hd
  refine ⟨E, B, F, ρ, d, R, h1, fun v F' H' x q => ?_⟩
  cases d <;> simp [asB] at h2
  subst h2
  cases q
  exact ⟨_, rfl, k F' H' x⟩
theorem dt_cmp {op : CmpOp} {r : R2} {g : D → D → Option D} (ho : OpR X (compareOp op) r) (hg : G2 X.K r g) (ha : DR X a f) (hb : DR X b f') (hm : behindInMarks op b = false) : DT X (.Compare a [op] [b] pos) (fB (f2 g f f')) :=
  pt_cons (pt_cmpR ho ha hb hm) fun σ H Q h => run2 hg (tB_of h)
theorem dt_val {e : Expr} (h : DE X e f) (he : ∀ whole, isTrue e X.env whole = (do let v ← whole; standAt e.pos; holding [v] (truthy v)) := by intro _; rfl) : DT X e (fB f) :=
  pt_cons (pt_val h he) fun σ H Q q => tB_of q
theorem run3 {σ : St} {H : Hp} {Q : VK} {r r' : R2} {g g' : D → D → Option D} (hg : G2 X.K r g) (hg' : G2 X.K r' g') (h : tD X.K (fCh g g' f f' f'') σ H Q) : tChain r r' (tR X.K f) (tR X.K f') (tR X.K f'') σ H Q := by
  obtain ⟨E, B, F, ρ, d, R, hd, k⟩ := h
  obtain ⟨da, h1, hd⟩ := bnd hd
  obtain ⟨db, h2, hd⟩ := bnd hd
  obtain ⟨dr, h3, hd⟩ := bnd hd
  refine ⟨E, B, F, ρ, da, R, h1, fun x F1 H1 e1 ra => ⟨E, B, F1, ρ, db, R.up e1, h2, fun y F2 H2 e2 rb => ?_⟩⟩
  refine hg.ok F2 H2 x y da db dr _ e2.fh (ra.up e2) rb h3 fun z F3 H3 e3 q => ?_
  have e23 := e1.trans (e2.trans e3)
  cases dr with
  | bool bb =>
    cases q
    refine ⟨bb, rfl, ?_⟩
    cases bb with
    | false =>
      cases hd
      exact iteF (k _ F3 H3 e23 (.bl false))
    | true =>
      refine iteT ?_
      obtain ⟨dc, h4, h5⟩ := bnd hd
      refine ⟨E, B, F3, ρ, dc, R.up e23, h4, fun w F4 H4 e4 rc => ?_⟩
      exact hg'.ok F4 H4 y w db dc d Q e4.fh ((rb.up e3).up e4) rc h5 fun v F5 H5 e5 q5 => k v F5 H5 (e23.trans (e4.trans e5)) q5
  | _ => cases hd
theorem de_chain {op op' : CmpOp} {r r' : R2} {g g' : D → D → Option D} (ho : OpR X (compareOp op) r) (hg : G2 X.K r g) (ho' : OpR X (compareOp op') r') (hg' : G2 X.K r' g') (ha : DR X a f) (hb : DR X b f') (hc : DR X c f'')
    (hm : lastMarks [op, op'] [b, c] = false := by with_unfolding_all rfl) : DE X (.Compare a [op, op'] [b, c] pos) (fCh g g' f f' f'') :=
  pe_cons (pe_chain ho ho' ha hb hc hm) fun σ H Q h => run3 hg hg' h
theorem dt_chain {op op' : CmpOp} {r r' : R2} {g g' : D → D → Option D} (ho : OpR X (compareOp op) r) (hg : G2 X.K r g) (ho' : OpR X (compareOp op') r') (hg' : G2 X.K r' g') (ha : DR X a f) (hb : DR X b f') (hc : DR X c f'')
    (hm : lastMarks [op, op'] [b, c] = false := by with_unfolding_all rfl) : DT X (.Compare a [op, op'] [b, c] pos) (fB (fCh g g' f f' f'')) :=
  pt_cons (pt_chain ho ho' ha hb hc hm) fun σ H Q h => run3 hg hg' (tB_of h)
theorem de_un {op : UnaryOp} {r : V → Hp → VK → Prop} {g : D → Option D} (ho : UnR X (unaryOp op) r) (hg : G1 X.K r g) (ha : DR X a f) : DE X (.UnaryOp op a pos) (f1 g f) := by
  refine pe_cons (pe_un ho ha) fun σ H Q ⟨E, B, F, ρ, d, R, hd, k⟩ => ?_
  obtain ⟨da, h1, h2⟩ := bnd hd
  exact ⟨E, B, F, ρ, da, R, h1, fun x F1 H1 e1 ra => hg.ok F1 H1 x da d Q e1.fh ra h2 fun v F2 H2 e2 q => k v F2 H2 (e1.trans e2) q⟩
/-! and, or, not as values -/
theorem de_and {rest : List Expr} (ha : DE X a f) (hb : DE X (.BoolOp .And (b :: rest) pos) f') : DE X (.BoolOp .And (a :: b :: rest) pos) (fAnd f f') := by
  refine pe_cons (L2.pe_and ha hb) fun σ H Q ⟨E, B, F, ρ, d, R, hd, k⟩ => ?_
  obtain ⟨da, h1, h2⟩ := bnd hd
  refine ⟨E, B, F, ρ, da, R, h1, fun x F1 H1 e1 ra => ?_⟩
  cases da with
  | bool bb =>
    cases ra
    refine ⟨bb, rfl, ?_⟩
    cases bb with
    | true => exact iteT ⟨E, B, F1, ρ, d, R.up e1, h2, fun v F2 H2 e2 q => k v F2 H2 (e1.trans e2) q⟩
    | false =>
      cases h2
      exact iteF (k _ F1 H1 e1 (.bl false))
  | _ => cases h2
theorem de_or {rest : List Expr} (ha : DE X a f) (hb : DE X (.BoolOp .Or (b :: rest) pos) f') : DE X (.BoolOp .Or (a :: b :: rest) pos) (fOr f f') := by
  refine pe_cons (L2.pe_or ha hb) fun σ H Q ⟨E, B, F, ρ, d, R, hd, k⟩ => ?_
  obtain ⟨da, h1, h2⟩ := bnd hd
  refine ⟨E, B, F, ρ, da, R, h1, fun x F1 H1 e1 ra => ?_⟩
  cases da with
  | bool bb =>
    cases ra
    refine ⟨bb, rfl, ?_⟩
    cases bb with
    | false => exact iteF ⟨E, B, F1, ρ, d, R.up e1, h2, fun v F2 H2 e2 q => k v F2 H2 (e1.trans e2) q⟩
    | true =>
      cases h2
      exact iteT (k _ F1 H1 e1 (.bl true))
  | _ => cases h2
theorem de_one {op : BoolOp} (h : DE X a f) : DE X (.BoolOp op [a] pos) f := pe_one h
theorem de_not (ha : DE X a f) : DE X (.UnaryOp .Not a pos) (f1 gNot f) := by
  refine pe_cons (L2.pe_not ha) fun σ H Q ⟨E, B, F, ρ, d, R, hd, k⟩ => ?_
  obtain ⟨da, h1, h2⟩ := bnd hd
  refine ⟨E, B, F, ρ, da, R, h1, fun x F1 H1 e1 ra => ?_⟩
  cases da with
  | bool bb =>
    cases ra
    cases h2
    exact ⟨bb, rfl, k _ F1 H1 e1 (.bl _)⟩
  | _ => cases h2
/-! tests -/
variable {t t' : Rho → Option Bool}
theorem dt_not (ha : DT X a t) : DT X (.UnaryOp .Not a pos) (tNotF t) := by
  refine pt_cons (L2.pt_not ha) fun σ H Q ⟨E, B, F, ρ, d, R, hd, k⟩ => ?_
  obtain ⟨b, h1, h2⟩ := Option.map_eq_some_iff.mp hd
  subst h2
  exact ⟨E, B, F, ρ, b, R, h1, k⟩
theorem dw_and1 (ha : DT X a t) : DW X (.BoolOp .And [a] pos) t := pw_and1 ha
theorem dw_or1 (ha : DT X a t) : DW X (.BoolOp .Or [a] pos) t := pw_or1 ha
theorem dw_and {rest : List Expr} (ha : DT X a t) (hb : DW X (.BoolOp .And (b :: rest) pos) t') : DW X (.BoolOp .And (a :: b :: rest) pos) (tAndF t t') := by
  refine pw_cons (pw_and ha hb) fun σ H Q ⟨E, B, F, ρ, d, R, hd, k⟩ => ?_
  obtain ⟨ba, h1, h2⟩ := bnd hd
  refine ⟨E, B, F, ρ, ba, R, h1, fun F1 H1 e1 => ?_⟩
  cases ba with
  | true => exact iteT ⟨E, B, F1, ρ, d, R.up e1, h2, fun F2 H2 e2 => k F2 H2 (e1.trans e2)⟩
  | false =>
    cases h2
    exact iteF (k F1 H1 e1)
theorem dw_or {rest : List Expr} (ha : DT X a t) (hb : DW X (.BoolOp .Or (b :: rest) pos) t') : DW X (.BoolOp .Or (a :: b :: rest) pos) (tOrF t t') := by
  refine pw_cons (pw_or ha hb) fun σ H Q ⟨E, B, F, ρ, d, R, hd, k⟩ => ?_
  obtain ⟨ba, h1, h2⟩ := bnd hd
  refine ⟨E, B, F, ρ, ba, R, h1, fun F1 H1 e1 => ?_⟩
  cases ba with
  | false => exact iteF ⟨E, B, F1, ρ, d, R.up e1, h2, fun F2 H2 e2 => k F2 H2 (e1.trans e2)⟩
  | true =>
    cases h2
    exact iteT (k F1 H1 e1)
theorem dt_w (h : DW X e t) : DT X e t := h.pt
/-! argument lists, displays -/
variable {h h' : Rho → Option (List D)}
theorem da_nil : DA X [] fNil := pa_conseq pa_nil fun σ H Q ⟨E, B, F, ρ, d, R, hd, k⟩ => by
  cases hd
  exact k [] F H (Ext.refl R.fh) .nil
theorem da_cons (ha : DE X e f) (hr : DA X es h) (hs : starEach (e :: es) X.env = (false, eval e X.env) :: starEach es X.env := by rfl) : DA X (e :: es) (fCons f h) := by
  refine pa_conseq (pa_cons ha hr hs) fun σ H Q ⟨E, B, F, ρ, d, R, hd, k⟩ => ?_
  obtain ⟨da, h1, hd⟩ := bnd hd
  obtain ⟨ds, h2, h3⟩ := bnd hd
  cases h3
  exact ⟨E, B, F, ρ, da, R, h1, fun x F1 H1 e1 ra => ⟨E, B, F1, ρ, ds, R.up e1, h2, fun vs F2 H2 e2 q => k _ F2 H2 (e1.trans e2) (.cons (Dp.up e2.ff ra) q)⟩⟩
theorem de_tup {x1} (ha : DA X es h) : DE X (.Tuple es x1 pos) (fTup h) := by
  refine pe_cons (pe_tup ha) fun σ H Q ⟨E, B, F, ρ, d, R, hd, k⟩ => ?_
  obtain ⟨ds, h1, h2⟩ := bnd hd
  obtain ⟨hz, rfl⟩ := lim_some h2
  refine ⟨E, B, F, ρ, ds, R, h1, fun vs F1 H1 e1 q => ⟨line_of (by rw [DpAll.len q]; exact hz), fun p n => ?_⟩⟩
  exact k _ _ _ (e1.trans (Ext.new e1.fh n)) (.tup (SqT.of upd_same) (DpAll.up (same_upd (none_of e1.fh n)) q))
theorem df_lst (ha : DA X es h) : DF X (.List es pos) (fLst h) := by
  refine pe_cons (pe_lst ha) fun σ H Q ⟨E, B, F, ρ, d, R, hd, k⟩ => ?_
  obtain ⟨ds, h1, h2⟩ := bnd hd
  obtain ⟨hz, rfl⟩ := lim_some h2
  refine ⟨E, B, F, ρ, ds, R, h1, fun vs F1 H1 e1 q => ⟨line_of (by rw [DpAll.len q]; exact hz), fun p n => ?_⟩⟩
  exact k p vs F1 _ (e1.trans (Ext.junk e1.fh n)) (e1.hh.free n) (none_of e1.fh n) upd_same q
end
end DL
/-! DL2: what the layer lacks: slices of tuples with a step, sorted of a tuple, len(set(tuple)), a comparison of four -/
namespace DL
open PySem PySem.Spec PyProof.Rows L2 HT
/-! ### a < b < c < d -/
section
variable {X : Cx} {a b c d : Expr} {ta tb tc td : TE} {pos : Pos}
def tChain3 (r r' r'' : R2) (ta tb tc td : TE) : TE := fun σ H Q => ta σ H fun x H1 => tb σ H1 fun y H2 => r x y H2 fun z H3 => ∃ k, z = .bl k ∧
  (if k = true then tc σ H3 fun w' H4 => r' y w' H4 fun z' H5 => ∃ k', z' = .bl k' ∧ (if k' = true then td σ H5 fun u H6 => r'' w' u H6 Q else Q (.bl false) H5) else Q (.bl false) H3)
theorem pe_chain3 {op op' op'' : CmpOp} {r r' r'' : R2} (ho : OpR X (compareOp op) r) (ho' : OpR X (compareOp op') r') (ho'' : OpR X (compareOp op'') r'') (ha : PE X a ta) (hb : PE X b tb) (hc : PE X c tc) (hd : PE X d td)
    (hm : lastMarks [op, op', op''] [b, c, d] = false := by with_unfolding_all rfl) : PE X (.Compare a [op, op', op''] [b, c, d] pos) (tChain3 r r' r'' ta tb tc td) := by
  refine ⟨fun pins s σ H Q I h => ?_⟩
  refine Compare_chain (thn (ha.run pins s σ H _ I h) fun v s1 ⟨x, H1, I1, r1, q1⟩ => chain_link (thn (hb.run pins s1 σ H1 _ I1 q1) fun u s2 ⟨y, H2, I2, r2, q2⟩ =>
    thn (ho pins s2 σ H2 x y v u _ I2 r1 r2 q2) fun e s3 ⟨z, H3, I3, r3, k, ek, q3⟩ => ?_)) hm
  subst ek
  cases r3
  refine wpAny_truthy_bool ?_
  cases k with
  | false => exact ite_ff ⟨.bl false, H3, I3, rfl, q3⟩
  | true =>
    refine ite_tt (chain_link (thn (hc.run pins s3 σ H3 _ I3 q3) fun w' s4 ⟨z', H4, I4, r4, q4⟩ => thn (ho' pins s4 σ H4 y z' u w' _ I4 r2 r4 q4) fun e' s5 ⟨z5, H5, I5, r5, k', ek', q5⟩ => ?_))
    subst ek'
    cases r5
    refine wpAny_truthy_bool ?_
    cases k' with
    | false => exact ite_ff ⟨.bl false, H5, I5, rfl, q5⟩
    | true => exact ite_tt (chain_last (thn (hd.run pins s5 σ H5 _ I5 q5) fun t' s6 ⟨z6, H6, I6, r6, q6⟩ => ho'' pins s6 σ H6 z' z6 w' t' Q I6 r4 r6 q6))
end

/-! ### t[::k] of a tuple -/
section
variable {prog : Program} {w : World} {A : Around} {E : Value → Shared → Prop} {s : Shared}
def picks {α : Type} (xs : List α) (lo step : Int) (n : Nat) : List α := (List.range n).filterMap fun (k : Nat) => xs[(lo + (k : Int) * step).toNat]?
theorem getItem_tuple_step {t sl : Addr} {items : Array Value} {vl vu vs : Value} {st lo hi : Int} {n : Nat} {Q : Value → Shared → Prop} (ht : IsTup s.heap t items) (hs : s.heap.IsSliceOf sl vl vu vs) (pl : IsPart vl none) (pu : IsPart vu none) (ps : IsPart vs (some st))
    (h0 : st ≠ 0) (h1 : st ≠ 1) (ha : Builtin.Slice.sliceAdjust none none st items.size = (lo, hi)) (hp : Builtin.Slice.slicePlaces lo hi st = n) (hn : n ≤ sizeLine)
    (h : Q (.ref s.heap.objs.size) { s with heap := s.heap.push { cls := .type "tuple", data := .seq (picks items.toList lo st n).toArray } }) : wpAny (model prog w) A (getItem (.ref t) (.ref sl)) Q E s := by
  have htake : sizeOk (.seq (picks items.toList lo st n).toArray) := by
    show (picks items.toList lo st n).toArray.size ≤ sizeLine
    rw [List.size_toArray]
    refine Nat.le_trans (List.length_filterMap_le _ _) ?_
    rw [List.length_range]
    exact hn
  obtain ⟨os, hos, hcs, hds⟩ := id hs
  have hTs : s.TypeIs (.ref sl) "slice" := ⟨os, hos, hcs⟩
  unfold getItem
  try with_reducible refine wpAny_holding ?_
  first | refine wpAny_bind (wpAny_pure ?_) | skip
  refine wpAny_bind (wpAny_sequenceKey ht.typeIs (by decide) ?_)
  refine wpAny_bind (wpAny_callSpecial?_slot (name := Str.ofString "__getitem__") ht.typeIs PyProof.Rows.slot_tuple_getitem
    (wpAny_call_entry PyProof.Rows.slot_tuple_getitem ht.typeIs entry_tuple_getitem ?_ (args_tuple_getitem _ _)))
  show wpAny _ _ (Builtin.Tuple.tupleItemsOf (.ref t) >>= _) _ _ s
  refine wpAny_bind (tupleItemsOf_ ht ?_)
  refine wpAny_bind (wpAny_typeOf hTs ?_)
  rw [if_pos (by decide)]
  have key : wpAny (model prog w) (A.under (.builtin "tuple.__getitem__" ⟨[.ref t, .ref sl], []⟩)) (Builtin.Slice.sliceApplied (.ref sl) (pure (items.size : Int))) (fun r s' => r = (lo, st, n) ∧ s' = s) E s := by
    unfold Builtin.Slice.sliceApplied Builtin.Slice.sliceFields
    refine wpAny_bind (wpAny_bind (wpAny_field hos hds (x := vl) rfl (wpAny_bind (wpAny_field hos hds (x := vu) rfl (wpAny_bind (wpAny_field hos hds (x := vs) rfl (wpAny_pure ?_)))))))
    refine wpAny_bind (slicePart_ ps ?_)
    show wpAny _ _ (if (st == 0) = true then _ else _) _ _ s
    rw [if_neg (by simpa using h0)]
    refine wpAny_bind (slicePart_ pl (wpAny_bind (slicePart_ pu (wpAny_bind (wpAny_pure ?_)))))
    show wpAny _ _ (match Builtin.Slice.sliceAdjust none none st (items.size : Int) with | (lo, hi) => pure (lo, st, Builtin.Slice.slicePlaces lo hi st)) _ _ s
    rw [ha]
    show wpAny _ _ (pure (lo, st, Builtin.Slice.slicePlaces lo hi st)) _ _ s
    rw [hp]
    exact wpAny_pure ⟨rfl, rfl⟩
  refine wpAny_bind (wpAny_mono key (fun r s' hr => ?_) fun _ _ z => z)
  obtain ⟨rfl, rfl⟩ := hr
  have hno : ¬ ((lo == 0 && st == 1 && n == items.size) = true) := by
    intro q
    rw [Bool.and_eq_true, Bool.and_eq_true] at q
    exact h1 (eq_of_beq q.1.2)
  show wpAny _ _ (if (lo == 0 && st == 1 && n == items.size) = true then _ else _) _ _ _
  rw [if_neg hno]
  have epick : ((List.range n).filterMap fun (k : Nat) => items[(lo + (k : Int) * st).toNat]?).toArray = (picks items.toList lo st n).toArray := by
    unfold picks
    congr 2
    funext k
    rw [Array.getElem?_toList]
  rw [epick]
  first
    | exact wpAny_bind (m := Builtin.Tuple.tupleExact _) (wpAny_newObj_type (wpAny_pure ⟨_, rfl, wpAny_pure h⟩) htake)
    | exact wpAny_bind (m := Builtin.Tuple.tupleExact _) (wpAny_newObj_type (wpAny_bind (wpAny_pure (wpAny_pure ⟨_, rfl, wpAny_pure h⟩))) htake)
    | exact wpAny_bind (wpAny_bind (m := Builtin.Tuple.tupleExact _) (wpAny_newObj_type (wpAny_pure (wpAny_pure ⟨_, rfl, wpAny_pure h⟩)) htake))
    | exact wpAny_bind (wpAny_bind (m := Builtin.Tuple.tupleExact _) (wpAny_newObj_type (wpAny_pure ⟨_, rfl, wpAny_pure h⟩) htake))
end
section
variable {X : Cx}
def tStep (K : PySem.W.Frag) (te : TE) (st : Int) (lo : Nat → Int) (n : Nat → Nat) : TE := fun σ H Q => te σ H fun x H1 => ∃ a xs, x = .ref a ∧ SqT K H1 a xs ∧ ∀ p, H1 p = none → Q (.ref p) (upd H1 p (.tup (picks xs (lo xs.length) st (n xs.length))))
theorem picks_vals {xs : List V} {us : List Value} (r : Vals xs us) (lo st : Int) (n : Nat) : Vals (picks xs lo st n) (picks us lo st n) := by
  unfold picks
  generalize List.range n = ks
  induction ks with
  | nil => exact .nil
  | cons k ks ih =>
    rw [List.filterMap_cons, List.filterMap_cons]
    cases h : xs[(lo + (k : Int) * st).toNat]? with
    | none =>
      rw [r.none_of h]
      exact ih
    | some v =>
      obtain ⟨u, h1, h2⟩ := r.get h
      rw [h1]
      exact .cons h2 ih
theorem pe_step {e se : Expr} {te : TE} {st : Int} {lo : Nat → Int} {n : Nat → Nat} {p3 pos : Pos} (he : PE X e te) (hse : ∀ pins s σ H, Inv X pins σ H s → wpAny (model X.prog X.w) X.A (evalPart (some se) X.env) (fun u s' => Inv X pins σ H s' ∧ IsPart u (some st)) X.xe s)
    (h0 : st ≠ 0) (h1 : st ≠ 1) (ha : ∀ k : Nat, ∃ hi, Builtin.Slice.sliceAdjust none none st (k : Int) = (lo k, hi) ∧ Builtin.Slice.slicePlaces (lo k) hi st = n k) (hn : ∀ k, n k ≤ k)
    (hsub : ∀ o i, subscripted (.Slice none none (some se) p3) false o i = operate [o, i] (getItem o i) := by intros; with_unfolding_all rfl)
    (htl : ∀ v i, subscriptTail e (.Slice none none (some se) p3) v i = subscriptTail e (.Slice none none (some se) p3) v i := by intros; rfl) :
    PE X (.Subscript e (.Slice none none (some se) p3) pos) (tStep X.K te st lo n) := by
  refine ⟨fun pins s σ H Q I h => ?_⟩
  refine Subscript_ (thn (he.run pins s σ H _ I h) fun v s1 ⟨x, H1, I1, r1, q1⟩ => ?_)
  obtain ⟨a, xs, ex, hx, q⟩ := q1
  subst ex
  cases r1
  refine wpAny_Slice (thn (po_none.run pins s1 σ H1 (fun o H2 => o = none ∧ H2 = H1) I1 ⟨rfl, rfl⟩) fun vl s2 ⟨l, H2, I2, pl, el, e2⟩ => ?_)
  subst el e2
  refine thn (po_none.run pins s2 σ H2 (fun o H3 => o = none ∧ H3 = H2) I2 ⟨rfl, rfl⟩) fun vu s3 ⟨u, H3, I3, pu, eu, e3⟩ => ?_
  subst eu e3
  refine thn (hse pins s3 σ H3 I3) fun vs s4 ⟨I4, ps⟩ => ?_
  have I5 : Inv X pins σ H3 { s4 with heap := s4.heap.push { cls := .type "slice", data := .fields #[vl, vu, vs] } } := I4.kept (t' := s4.toks) fun b ob q => Heap.get?_push_of_some _ q
  obtain ⟨its, r, ht, hz⟩ := I5.tuple hx
  have hlen := r.length
  show wpAny (model X.prog X.w) X.A (subscriptTail e (.Slice none none (some se) p3) (.ref a) (.ref s4.heap.objs.size)) (EP X pins σ Q) X.xe { s4 with heap := s4.heap.push { cls := .type "slice", data := .fields #[vl, vu, vs] } }
  refine tail_any (ops := [.ref a, .ref s4.heap.objs.size]) ht.typeIs (PyProof.Rows.slot_tuple_getitem.lookup) ?_ (hsub _ _)
  obtain ⟨hi, ha1, ha2⟩ := ha its.toArray.size
  have hsz : its.toArray.size = xs.length := by rw [List.size_toArray, hlen]
  refine getItem_tuple_step ht (Heap.IsSliceOf.new _ vl vu vs) pl pu ps h0 h1 ha1 ha2 (Nat.le_trans (hn _) (by rw [hsz]; exact hz)) ?_
  rw [hsz]
  refine ⟨.ref _, _, I5.laid (t' := s4.toks) (o := .tup (picks xs (lo xs.length) st (n xs.length))) (fun b ob q => Heap.get?_push_of_some _ q) (Nat.le_refl _) ?_, rfl, q _ (I5.hok.fresh (Nat.le_refl _))⟩
  refine ⟨?_, _, picks_vals r _ _ _, IsTup.new _ _⟩
  refine Nat.le_trans (List.length_filterMap_le _ _) ?_
  rw [List.length_range]
  exact Nat.le_trans (hn _) hz
end
end DL
/-! DL3: sorted of a tuple of ints, len(set(a tuple of ints)) -/
namespace DL
open PySem PySem.Spec PyProof.Rows L2 SrtO
section
variable {prog : Program} {w : World} {A : Around} {E : Value → Shared → Prop} {s : Shared}
theorem collect_tup {Q : List Value → Shared → Prop} (it : Addr) {o : Obj} {items : Array Value} {n : Nat}
    (ho : s.heap.get? it = some o) (hc : o.cls = .type "tuple") (hd : o.data = .seq items n)
    (hQ : Q items.toList { s with heap := (s.heap.push { cls := .type "list", data := .seq ([] : List Value).toArray }).update s.heap.objs.size (Obj.mapSeq (· ++ items)) }) (hsz : items.size ≤ sizeLine) :
    wpAny (model prog w) A (collect (.ref it)) Q E s := by
  unfold collect
  refine wpAny_bind (wpAny_runValue (codeAny_builtin PySem.F.entry_proto_collect ?_))
  rw [Around.under_plainId PySem.F.plain_proto_collect _]
  show wpAny _ A.in1 (newList [] >>= fun l => again (.builtin "list.__iadd__" ⟨[l, .ref it], []⟩)) _ _ s
  refine wpAny_bind (wpAny_newObj_type ?_)
  refine wpAny_pure ⟨plainId_quiet PySem.F.plain_list_iadd _, codeAny_builtin PySem.F.entry_list_iadd ?_⟩
  rw [Around.under_plainId PySem.F.plain_list_iadd _]
  show wpAny _ A.in1 (Builtin.List.listExtendWith (.ref s.heap.objs.size) (.ref it) (.ref s.heap.objs.size)) _ _ _
  have hS : (s.heap.push { cls := .type "list", data := .seq ([] : List Value).toArray }).get? s.heap.objs.size = some { cls := .type "list", data := .seq #[] 0 } := Heap.get?_push_size _ rfl
  have hS₂ := Heap.get?_update_self (Obj.mapSeq (· ++ items)) hS rfl
  have fin' : wpAny (model prog w) A (match Value.ref s.heap.objs.size with
      | Value.ref a => do
        match (← load a).data with
          | Data.seq xs _ => pure xs.toList
          | _ => unsupported "internal:collect"
      | _ => unsupported "internal:collect") Q E { s with heap := (s.heap.push { cls := .type "list", data := .seq ([] : List Value).toArray }).update s.heap.objs.size (Obj.mapSeq (· ++ items)) } := by
    show wpAny _ A (load s.heap.objs.size >>= _) _ _ _
    refine wpAny_bind (wpAny_load hS₂ ?_)
    refine wpAny_pure ?_
    have e : ((#[] : Array Value) ++ items).toList = items.toList := by simp
    show Q ((#[] : Array Value) ++ items).toList _
    rw [e]
    exact hQ
  refine wpAny_mono (wpAny_extend_seq (hsz := hsz) (A := A) (R := fun r s' => r = .ok (.ret (.ref s.heap.objs.size)) ∧ s' = { s with heap := (s.heap.push { cls := .type "list", data := .seq ([] : List Value).toArray }).update s.heap.objs.size (Obj.mapSeq (· ++ items)) })
    (s := { s with heap := s.heap.push { cls := .type "list", data := .seq ([] : List Value).toArray } }) _ it _ 0 (.inr rfl) hS (Heap.get?_push_of_some _ ho) hc hd ⟨rfl, rfl⟩) (fun fin s' h => ?_) (fun e s' h => ?_)
  · cases fin with
    | done f =>
      obtain ⟨e, rfl⟩ := h
      cases e
      exact fin'
    | again c' => exact ⟨h.1, codeAny_mono h.2 fun r s'' hr => by obtain ⟨rfl, rfl⟩ := hr; exact fin'⟩
  · exact absurd h.1 (by simp)
theorem sorted_tup {l : Addr} {vs : List Value} {ltv : Value → Value → Bool} {Q : Value → Shared → Prop} (O : Swo ltv) (hl : s.heap.IsTuple l vs.toArray) (hz : vs.length ≤ sizeLine)
    (hS : 2 ≤ vs.length → ∀ (h₁ : Heap) (a : Addr), h₁.get? a = some (seqObj "list" vs.toArray 0) → (∀ b o, s.heap.get? b = some o → b ≠ a ∧ h₁.get? b = some o) → SortableO prog w A.in1.in1 { s with heap := h₁ } a vs ltv)
    (h : ∀ out : List Value, Srtd ltv out → Stb ltv out vs → Q (.ref (s.heap.objs.size + 1)) { s with heap := PyProof.Rows.sortedAll s.heap vs out.toArray }) :
    wpAny (model prog w) A (call (.builtin "sorted") [.ref l]) Q E s := by
  refine Calls.call_function_entry kind_sorted plain_sorted entry_sorted (args_sorted1 _) ?_
  unfold Builtin.«sorted»
  refine wpAny_bind (m := checkCount "sorted" 1 1 _) (wpAny_pure ?_)
  obtain ⟨o, ho, hc, n, hd⟩ := id hl
  refine wpAny_bind (collect_tup l ho hc hd ?_ (by rw [List.size_toArray]; exact hz))
  refine wpAny_bind (wpAny_newList ?_ hz)
  have hsz : ((s.heap.push (seqObj "list" #[] 0)).update s.heap.objs.size (Obj.mapSeq (· ++ vs.toArray))).objs.size = s.heap.objs.size + 1 := by
    rw [Heap.size_update, size_push']
  have hoL : (((s.heap.push (seqObj "list" #[] 0)).update s.heap.objs.size (Obj.mapSeq (· ++ vs.toArray))).push (seqObj "list" vs.toArray 0)).get? (s.heap.objs.size + 1) = some (seqObj "list" vs.toArray 0) := by
    rw [← hsz]; exact Heap.get?_push_size _ rfl
  have keep : ∀ b o, s.heap.get? b = some o → b ≠ s.heap.objs.size + 1 ∧ (((s.heap.push (seqObj "list" #[] 0)).update s.heap.objs.size (Obj.mapSeq (· ++ vs.toArray))).push (seqObj "list" vs.toArray 0)).get? b = some o := fun b o q => by
    have hlt : b < s.heap.objs.size := Heap.lt_size q
    refine ⟨Nat.ne_of_lt (Nat.lt_succ_of_lt hlt), Heap.get?_push_of_some _ ?_⟩
    rw [Heap.get?_update_ne _ _ _ _ (Nat.ne_of_lt hlt)]
    exact Heap.get?_push_of_some _ q
  show wpAny _ _ _ _ _ { s with heap := ((s.heap.push (seqObj "list" #[] 0)).update s.heap.objs.size (Obj.mapSeq (· ++ vs.toArray))).push (seqObj "list" vs.toArray 0) }
  rw [show ((s.heap.push { cls := .type "list", data := .seq ([] : List Value).toArray }).update s.heap.objs.size (Obj.mapSeq (· ++ vs.toArray))).objs.size = s.heap.objs.size + 1 from hsz]
  refine wpAny_bind (wpAny_holding (wpAny_call_entry slot_list_sort ⟨_, hoL, rfl⟩ entry_list_sort (list_sort_ord O hoL hz (fun h2 => hS h2 _ _ hoL keep) fun out hs hb => ⟨_, rfl, ?_⟩) (args_list_sort _)))
  exact wpAny_pure ⟨_, rfl, h out hs hb⟩
end
section
variable {X : Cx}
def rSortedIT (K : PySem.W.Frag) : List V → Hp → VK → Prop := fun vs H Q => ∃ (a : Addr) (ns : List Int), vs = [V.ref a] ∧ SqT K H a (ns.map V.int) ∧
  ∀ (ns' : List Int) (p : Addr), ns'.Perm ns → ns'.Pairwise (· ≤ ·) → H p = none → Q (.ref p) (upd H p (.lst (ns'.map V.int)))
theorem cr_sortedIT : CallR X (.builtin "sorted") (rSortedIT X.K) := by
  intro pins s σ H vs us Q I r h
  obtain ⟨a, ns, rfl, hs, q⟩ := h
  obtain ⟨its, rv, hl, hz⟩ := I.tuple hs
  rw [Vals.ref1 r]
  have hi := rv.ints
  refine sorted_tup SrtO.swo_int hl (by rw [← rv.length]; exact hz) (fun h2 h₁ a' _ _ => SrtO.ints_sortable hi h2) fun out h1 h2 => ?_
  obtain ⟨k1, k2, k3⟩ := SrtO.ints_out hi h1 h2
  obtain ⟨ep, he'⟩ := PyProof.Rows.sortedAll_at s.heap its out.toArray
  have hlen : ((out.map SrtO.iv).map V.int).length ≤ sizeLine := by
    rw [List.length_map, k2.length_eq]
    rw [List.length_map] at hz
    exact hz
  exact ⟨.ref _, upd H (s.heap.objs.size + 1) (.lst ((out.map SrtO.iv).map V.int)), I.laid (t' := s.toks) (fun _ _ => PyProof.Rows.sortedAll_old) (Nat.le_succ _) ⟨hlen, out, ep, vals_of_ints k1, he'⟩, rfl, q _ _ k2 k3 (I.hok.fresh (Nat.le_succ _))⟩
/-! ### len(set(t)) -/
/-- each once -/
def dedup : List Int → List Int
  | [] => []
  | x :: r => if x ∈ dedup r then dedup r else x :: dedup r
theorem mem_dedup {x : Int} : ∀ {xs : List Int}, x ∈ dedup xs ↔ x ∈ xs
  | [] => Iff.rfl
  | y :: r => by
    have ih := mem_dedup (x := x) (xs := r)
    unfold dedup
    split
    · rename_i h
      rw [ih, List.mem_cons]
      constructor
      · exact .inr
      · rintro (rfl | h2)
        · exact mem_dedup.mp h
        · exact h2
    · rw [List.mem_cons, List.mem_cons, ih]
theorem nodup_dedup : ∀ xs : List Int, (dedup xs).Nodup
  | [] => List.nodup_nil
  | y :: r => by
    have ih := nodup_dedup r
    unfold dedup
    split
    · exact ih
    · rename_i h
      exact List.nodup_cons.mpr ⟨h, ih⟩
theorem nodup_len_le : ∀ {xs ys : List Int}, xs.Nodup → (∀ x ∈ xs, x ∈ ys) → xs.length ≤ ys.length
  | [], _, _, _ => Nat.zero_le _
  | x :: r, ys, nd, h => by
    obtain ⟨h1, h2⟩ := List.nodup_cons.mp nd
    have hx : x ∈ ys := h x (List.mem_cons_self ..)
    have ih := nodup_len_le (xs := r) (ys := ys.erase x) h2 fun y hy => (List.mem_erase_of_ne (fun e => h1 (by rw [← e]; exact hy))).mpr (h y (List.mem_cons_of_mem _ hy))
    rw [List.length_erase_of_mem hx] at ih
    have hp : 0 < ys.length := List.length_pos_of_mem hx
    rw [List.length_cons]
    omega
def tLenSetT (K : PySem.W.Frag) (ta : TE) : TE := fun σ H Q => ta σ H fun x H1 => ∃ (l : Addr) (ns : List Int), x = .ref l ∧ SqT K H1 l (ns.map V.int) ∧ ns.length ≤ 4000 ∧ Q (.int ((dedup ns).length : Nat)) H1
theorem pe_lenSetT {a : Expr} {ta : TE} {p p2 q pos : Pos} (hg : Gl X "len") (hm : X.mg "len" = none) (hg2 : Gl X "set") (hm2 : X.mg "set" = none) (ha : PE X a ta) (hc : X.calm = true := by rfl)
    (na : starEach [a] X.env = (false, eval a X.env) :: starEach [] X.env := by rfl) : PE X (.Call (.Name "len" p) [.Call (.Name "set" p2) [a] [] q] [] pos) (tLenSetT X.K ta) := by
  refine ⟨fun pins s σ H Q I h => ?_⟩
  refine Call_ (ld_blt I hg hm boot_len ?_)
  refine PyProof.Rows.callWith_builtin1 (PyProof.Rows.args_cons ?_ rfl) rfl rfl
  refine Call_ (ld_blt I hg2 hm2 PyProof.Rows.boot_set ?_)
  refine PyProof.Rows.callWith_type1 (PyProof.Rows.args_cons (thn (ha.run pins s σ H _ I h) fun v s1 ⟨x, H1, I1, r1, q1⟩ => PyProof.Rows.args_nil ?_) na) na rfl
  obtain ⟨l, ns, rfl, hq, hl, q1⟩ := q1
  cases r1
  obtain ⟨its, r, pl, hz⟩ := I1.tuple hq
  have hlen : its.toArray.size = ns.length := by rw [List.size_toArray, ← r.length, List.length_map]
  refine call_set_tupI ns (I1.ok.hd hc) pl (by simpa using r.ints) (by unfold scanBound; omega) fun h' tk c hS hc' hk => ?_
  refine PyProof.Rows.args_nil ?_
  obtain ⟨o, es, ep, t, ho, hex, hd, _, hnd, hmem, _, hf, hn, _, _⟩ := hS
  have I2 : Inv X pins σ H1 { s1 with heap := h', toks := tk } := I1.kept hk
  have hcount : es.size = (dedup ns).length := by
    have hm : ∀ k, k ∈ ns ↔ k ∈ es.toList.map keyOf := fun k => by rw [← hmem k, decide_eq_true_eq]
    have e1 : (es.toList.map keyOf).length = es.size := by rw [List.length_map, Array.length_toList]
    have a1 := nodup_len_le (ys := dedup ns) hnd fun x hx => mem_dedup.mpr ((hm x).mpr hx)
    have a2 := nodup_len_le (ys := es.toList.map keyOf) (nodup_dedup ns) fun x hx => (hm x).mp (mem_dedup.mp hx)
    omega
  exact call_len_set ho hex hd hf (by rw [hn] <;> omega) ⟨.int ((dedup ns).length : Nat), H1, I2.tok _, ⟨_, by rw [hcount]⟩, q1⟩
end
end DL
/-! DL4: operators, subscripts, slices, calls over data -/
namespace DL
open PySem PySem.Spec PyProof.Rows L2
section
variable {K : PySem.W.Frag} {F H : Hp}
/-! ### the functions by values -/
def gAdd : D → D → Option D
  | .int i, .int j => some (.int (i + j))
  | .str x, .str y => lim (x.length + y.length) (.str (x ++ y))
  | .tuple xs, .tuple ys => lim (xs.length + ys.length) (.tuple (xs ++ ys))
  | .list xs, .list ys => lim (xs.length + ys.length) (.list (xs ++ ys))
  | _, _ => none
def gSub : D → D → Option D
  | .int i, .int j => some (.int (i - j))
  | _, _ => none
def gMul : D → D → Option D
  | .int i, .int j => if -18446744073709551616 < i ∧ i < 18446744073709551616 then some (.int (i * j)) else none
  | _, _ => none
def gMod : D → D → Option D
  | .int i, .int j => if 0 < j then some (.int (i % j)) else none
  | _, _ => none
def gDiv : D → D → Option D
  | .int i, .int j => if 0 < j ∧ j < 1073741824 then some (.int (i / j)) else none
  | _, _ => none
def gPow : D → D → Option D
  | .int i, .int j => if 0 ≤ j ∧ j ≤ 1000 ∧ i.natAbs < 2 ^ 64 then some (.int (i ^ j.toNat)) else none
  | _, _ => none
def gLt : D → D → Option D
  | .int i, .int j => some (.bool (decide (i < j)))
  | .str x, .str y => some (.bool (decide (x.cps.toList < y.cps.toList)))
  | _, _ => none
def gLe : D → D → Option D
  | .int i, .int j => some (.bool (decide (i ≤ j)))
  | _, _ => none
def gGt : D → D → Option D
  | .int i, .int j => some (.bool (decide (j < i)))
  | _, _ => none
def gGe : D → D → Option D
  | .int i, .int j => some (.bool (decide (j ≤ i)))
  | _, _ => none
def gEq (a b : D) : Option D := if SeqAt.shaped a = true ∧ SeqAt.shaped b = true then some (.bool (PyData.eqv a b)) else none
def gNe (a b : D) : Option D := if SeqAt.shaped a = true ∧ SeqAt.shaped b = true then some (.bool (!PyData.eqv a b)) else none
def isNone : D → Bool
  | .none => true
  | _ => false
def gIs (a b : D) : Option D := match b with
  | .none => some (.bool (isNone a))
  | _ => none
def gIsNot (a b : D) : Option D := match b with
  | .none => some (.bool (!isNone a))
  | _ => none
def flatD : D → Bool
  | .none => true
  | .bool _ => true
  | .int _ => true
  | .str _ => true
  | _ => false
def inD (a : D) (xs : List D) : Bool := xs.any fun y => PyData.eqv y a
def gIn (a b : D) : Option D := match b with
  | .list xs => if flatD a = true ∧ xs.all flatD = true then some (.bool (inD a xs)) else none
  | .tuple xs => if flatD a = true ∧ xs.all flatD = true then some (.bool (inD a xs)) else none
  | .str z => (match a with
    | .str x => (match x.cps.toList with
      | [c] => some (.bool (decide (c ∈ z.cps.toList)))
      | _ => none)
    | _ => none)
  | _ => none
def gNotIn (a b : D) : Option D := match b with
  | .list xs => if flatD a = true ∧ xs.all flatD = true then some (.bool (!inD a xs)) else none
  | .tuple xs => if flatD a = true ∧ xs.all flatD = true then some (.bool (!inD a xs)) else none
  | _ => none
def gNeg : D → Option D
  | .int i => some (.int (-i))
  | _ => none
def gIx (a b : D) : Option D := match a, b with
  | .list xs, .int i => atI xs i
  | .tuple xs, .int i => atI xs i
  | .str z, .int i => (lim z.length ()).bind fun _ => (atI z.cps.toList i).map fun c => .str ⟨#[c]⟩
  | _, _ => none
def cutD {α : Type} (xs : List α) (lo hi : Option Int) : List α := (xs.drop (HT.sIx xs.length 0 lo)).take (HT.sIx xs.length xs.length hi - HT.sIx xs.length 0 lo)
def gSl (a : D) (lo hi : Option Int) : Option D := match a with
  | .tuple xs => some (.tuple (cutD xs lo hi))
  | .list xs => some (.list (cutD xs lo hi))
  | _ => none
/-! ### operators -/
theorem g2_add {X : Cx} : G2 X.K (fun x y H Q => (rI0 fun i j => V.int (i + j)) x y H Q ∨ ((fun x y H Q => ∃ i j, x = V.str i ∧ y = V.str j ∧ i.length + j.length ≤ sizeLine ∧ Q (.str (i ++ j)) H) x y H Q ∨ (rCatA X.K x y H Q ∨ rCatL X.K x y H Q))) gAdd := by
  refine ⟨fun F H x y a b c Q s ra rb h k => ?_⟩
  unfold gAdd at h
  split at h
  · cases h
    exact .inl ⟨_, _, ra.int, rb.int, k _ F H (Ext.refl s) (.int _)⟩
  · obtain ⟨h1, rfl⟩ := lim_some h
    exact .inr (.inl ⟨_, _, ra.str, rb.str, line_of h1, k _ F H (Ext.refl s) (.str _)⟩)
  · obtain ⟨h1, rfl⟩ := lim_some h
    obtain ⟨p, vs, rfl, hp, hv⟩ := ra.tup
    obtain ⟨q, us, rfl, hq, hu⟩ := rb.tup
    refine .inr (.inr (.inl ⟨p, q, vs, us, rfl, rfl, sameT s hp, sameT s hq, line_of (by rw [DpAll.len hv, DpAll.len hu]; exact h1), fun e => ?_, fun e1 e2 => ?_, fun e1 e2 r n => ?_⟩))
    · subst e
      cases hv
      exact k _ F H (Ext.refl s) (.tup hq hu)
    · subst e2
      cases hu
      rw [List.append_nil] at *
      exact k _ F H (Ext.refl s) (.tup hp hv)
    · exact k _ _ _ (Ext.new s n) (.tup (SqT.of upd_same) (DpAll.up (same_upd (none_of s n)) (DpAll.append hv hu)))
  · obtain ⟨h1, rfl⟩ := lim_some h
    obtain ⟨p, vs, rfl, hp, hv⟩ := ra.list s
    obtain ⟨q, us, rfl, hq, hu⟩ := rb.list s
    exact .inr (.inr (.inr ⟨p, q, vs, us, rfl, rfl, hp, hq, line_of (by rw [DpAll.len hv, DpAll.len hu]; exact h1), fun r n =>
      k _ _ _ (Ext.new s n) (.lst (SqL.of upd_same) (DpAll.up (same_upd (none_of s n)) (DpAll.append hv hu)))⟩))
  · cases h
theorem or_add {X : Cx} : OpR X (binaryOp .Add) (fun x y H Q => (rI0 fun i j => V.int (i + j)) x y H Q ∨ ((fun x y H Q => ∃ i j, x = V.str i ∧ y = V.str j ∧ i.length + j.length ≤ sizeLine ∧ Q (.str (i ++ j)) H) x y H Q ∨ (rCatA X.K x y H Q ∨ rCatL X.K x y H Q))) :=
  OpR.or op_add (OpR.or op_add_str (OpR.or op_catA op_catL))
/-- two ints -/
theorem g2_i {C : Int → Int → Prop} {g : Int → Int → V} {gd : D → D → Option D} (h : ∀ a b c, gd a b = some c → ∃ i j, a = .int i ∧ b = .int j ∧ C i j ∧ ∀ F, Dp K F (g i j) c) : G2 K (rI C g) gd := by
  refine ⟨fun F H x y a b c Q s ra rb hc k => ?_⟩
  obtain ⟨i, j, rfl, rfl, hC, hd⟩ := h a b c hc
  exact ⟨i, j, ra.int, rb.int, hC, k _ F H (Ext.refl s) (hd F)⟩
theorem g2_i0 {g : Int → Int → V} {gd : D → D → Option D} (h : ∀ a b c, gd a b = some c → ∃ i j, a = .int i ∧ b = .int j ∧ ∀ F, Dp K F (g i j) c) : G2 K (rI0 g) gd := by
  refine ⟨fun F H x y a b c Q s ra rb hc k => ?_⟩
  obtain ⟨i, j, rfl, rfl, hd⟩ := h a b c hc
  exact ⟨i, j, ra.int, rb.int, k _ F H (Ext.refl s) (hd F)⟩
theorem g2_sub : G2 K (rI0 fun i j => .int (i - j)) gSub := g2_i0 fun a b c h => by
  unfold gSub at h
  split at h
  · cases h; exact ⟨_, _, rfl, rfl, fun F => .int _⟩
  · cases h
theorem g2_mul : G2 K (rI CMul fun i j => .int (i * j)) gMul := g2_i fun a b c h => by
  unfold gMul at h
  split at h
  · split at h
    · rename_i hc
      cases h
      exact ⟨_, _, rfl, rfl, .inl ⟨by omega, by omega⟩, fun F => .int _⟩
    · cases h
  · cases h
theorem g2_mod : G2 K (rI (fun _ j => 0 < j) fun i j => .int (i % j)) gMod := g2_i fun a b c h => by
  unfold gMod at h
  split at h
  · split at h
    · rename_i hc
      cases h
      exact ⟨_, _, rfl, rfl, hc, fun F => .int _⟩
    · cases h
  · cases h
theorem g2_div : G2 K (rI CDiv fun i j => .int (i / j)) gDiv := g2_i fun a b c h => by
  unfold gDiv at h
  split at h
  · split at h
    · rename_i hc
      cases h
      exact ⟨_, _, rfl, rfl, hc, fun F => .int _⟩
    · cases h
  · cases h
theorem g2_pow : G2 K (rI CPow fun i j => .int (i ^ j.toNat)) gPow := g2_i fun a b c h => by
  unfold gPow at h
  split at h
  · split at h
    · rename_i hc
      cases h
      exact ⟨_, _, rfl, rfl, ⟨hc.1, by omega, hc.2.2⟩, fun F => .int _⟩
    · cases h
  · cases h
theorem g2_le : G2 K (rI0 fun i j => .bl (decide (i ≤ j))) gLe := g2_i0 fun a b c h => by
  unfold gLe at h
  split at h
  · cases h; exact ⟨_, _, rfl, rfl, fun F => .bl _⟩
  · cases h
theorem g2_gt : G2 K (rI0 fun i j => .bl (decide (j < i))) gGt := g2_i0 fun a b c h => by
  unfold gGt at h
  split at h
  · cases h; exact ⟨_, _, rfl, rfl, fun F => .bl _⟩
  · cases h
theorem g2_ge : G2 K (rI0 fun i j => .bl (decide (j ≤ i))) gGe := g2_i0 fun a b c h => by
  unfold gGe at h
  split at h
  · cases h; exact ⟨_, _, rfl, rfl, fun F => .bl _⟩
  · cases h
def rLtA : R2 := fun x y H Q => (rI0 fun i j => V.bl (decide (i < j))) x y H Q ∨ (fun x y H Q => ∃ i j, x = V.str i ∧ y = V.str j ∧ Q (.bl (decide (i.cps.toList < j.cps.toList))) H) x y H Q
theorem or_lt {X : Cx} : OpR X (compareOp .Lt) rLtA := OpR.or op_lt op_lt_str
theorem g2_lt : G2 K rLtA gLt := by
  refine ⟨fun F H x y a b c Q s ra rb h k => ?_⟩
  unfold gLt at h
  split at h
  · cases h
    exact .inl ⟨_, _, ra.int, rb.int, k _ F H (Ext.refl s) (.bl _)⟩
  · cases h
    exact .inr ⟨_, _, ra.str, rb.str, k _ F H (Ext.refl s) (.bl _)⟩
  · cases h
theorem g2_eq : G2 K (rEqD K) gEq := by
  refine ⟨fun F H x y a b c Q s ra rb h k => ?_⟩
  unfold gEq at h
  split at h
  · rename_i hc
    cases h
    exact ⟨a, b, ra.dp s, rb.dp s, hc.1, hc.2, k _ F H (Ext.refl s) (.bl _)⟩
  · cases h
theorem g2_ne : G2 K (rNeD K) gNe := by
  refine ⟨fun F H x y a b c Q s ra rb h k => ?_⟩
  unfold gNe at h
  split at h
  · rename_i hc
    cases h
    exact ⟨a, b, ra.dp s, rb.dp s, hc.1, hc.2, k _ F H (Ext.refl s) (.bl _)⟩
  · cases h
theorem non_iff {v : V} {d : D} (h : RepS K F H v d) : decide (v = .non) = isNone d := by
  cases d with
  | none => rw [h.non]; rfl
  | bool b => rw [h.bl]; rfl
  | int i => rw [h.int]; rfl
  | str x => rw [h.str]; rfl
  | list xs =>
    rcases h with h | ⟨p, vs, ys, rfl, e, q, a⟩
    · cases h; rfl
    · rfl
  | tuple xs =>
    obtain ⟨p, vs, rfl, _⟩ := h.tup
    rfl
  | dict kvs => exact h.nodict.elim
theorem g2_is : G2 K (fun x y H Q => y = .non ∧ Q (.bl (decide (x = .non))) H) gIs := by
  refine ⟨fun F H x y a b c Q s ra rb h k => ?_⟩
  unfold gIs at h
  split at h
  · cases h
    refine ⟨rb.non, ?_⟩
    rw [non_iff ra]
    exact k _ F H (Ext.refl s) (.bl _)
  · cases h
theorem g2_isnot : G2 K (fun x y H Q => y = .non ∧ Q (.bl (!decide (x = .non))) H) gIsNot := by
  refine ⟨fun F H x y a b c Q s ra rb h k => ?_⟩
  unfold gIsNot at h
  split at h
  · cases h
    refine ⟨rb.non, ?_⟩
    rw [non_iff ra]
    exact k _ F H (Ext.refl s) (.bl _)
  · cases h
/-- a flat value -/
theorem flat_v {v : V} {d : D} (h : Dp K F v d) (f : flatD d = true) : flatV v = true := by
  cases h <;> first | rfl | cases f
theorem flat_eq {v w : V} {d e : D} (h : Dp K F v d) (h' : Dp K F w e) (f : flatD d = true) (f' : flatD e = true) : eqV v w = PyData.eqv d e := by
  cases h <;> first
    | (cases h' <;> first | rfl | cases f' | simp [eqV, PyData.eqv])
    | cases f
theorem flat_all {vs : List V} {ds : List D} (h : DpAll K F vs ds) (f : ds.all flatD = true) : vs.all flatV = true := by
  induction vs generalizing ds with
  | nil => rfl
  | cons v vs ih =>
    cases h with
    | cons a t =>
      rw [List.all_cons, Bool.and_eq_true] at f ⊢
      exact ⟨flat_v a f.1, ih t f.2⟩
theorem flat_in {v : V} {d : D} {vs : List V} {ds : List D} (hv : Dp K F v d) (fd : flatD d = true) (h : DpAll K F vs ds) (f : ds.all flatD = true) : inV v vs = inD d ds := by
  induction vs generalizing ds with
  | nil => cases h; rfl
  | cons w vs ih =>
    cases h with
    | cons a t =>
      rw [List.all_cons, Bool.and_eq_true] at f
      show (eqV w v || inV v vs) = (PyData.eqv _ d || inD d _)
      rw [ih t f.2, flat_eq a hv f.1 fd]
theorem repS_flat {v : V} {d : D} (h : RepS K F H v d) (f : flatD d = true) : Dp K F v d := by
  rcases h with h | ⟨p, vs, ys, rfl, rfl, q, a⟩
  · exact h
  · cases f
def rInA (K : PySem.W.Frag) : R2 := fun x y H Q => rIn K false x y H Q ∨ (fun x y H Q => ∃ (c : Nat) (z : Str), x = V.str ⟨#[c]⟩ ∧ y = .str z ∧ Q (.bl (decide (c ∈ z.cps.toList))) H) x y H Q
theorem op_in_sign' {X : Cx} : OpR X (compareOp .In) (fun x y H Q => ∃ (c : Nat) (z : Str), x = .str ⟨#[c]⟩ ∧ y = .str z ∧ Q (.bl (decide (c ∈ z.cps.toList))) H) := by
  intro pins s σ H x y v u Q I rx ry h
  obtain ⟨c, z, rfl, rfl, q⟩ := h
  obtain ⟨t, rfl⟩ := rx
  obtain ⟨t', rfl⟩ := ry
  exact PyProof.Rows.in_str (fin_bl I q (PySem.StrLaws.found_one z c).symm)
theorem or_in {X : Cx} : OpR X (compareOp .In) (rInA X.K) := OpR.or op_in_seq op_in_sign'
theorem str_one {x : Str} {c : Nat} (h : x.cps.toList = [c]) : x = ⟨#[c]⟩ := by
  obtain ⟨cps⟩ := x
  have : cps = #[c] := by
    apply Array.ext'
    rw [h]
  rw [this]
theorem g2_in : G2 K (rInA K) gIn := by
  refine ⟨fun F H x y a b c Q s ra rb h k => ?_⟩
  unfold gIn at h
  split at h
  · split at h
    · rename_i hc
      cases h
      obtain ⟨p, vs, rfl, hp, hv⟩ := rb.list s
      have da := repS_flat ra hc.1
      refine .inl ⟨p, vs, rfl, .inl hp, flat_v da hc.1, flat_all hv hc.2, ?_⟩
      show Q (.bl (inV x vs)) H
      rw [flat_in da hc.1 hv hc.2]
      exact k _ F H (Ext.refl s) (.bl _)
    · cases h
  · split at h
    · rename_i hc
      cases h
      obtain ⟨p, vs, rfl, hp, hv⟩ := rb.tup
      have da := repS_flat ra hc.1
      refine .inl ⟨p, vs, rfl, .inr (sameT s hp), flat_v da hc.1, flat_all hv hc.2, ?_⟩
      show Q (.bl (inV x vs)) H
      rw [flat_in da hc.1 hv hc.2]
      exact k _ F H (Ext.refl s) (.bl _)
    · cases h
  · split at h
    · split at h
      · rename_i hx
        cases h
        refine .inr ⟨_, _, ?_, rb.str, k _ F H (Ext.refl s) (.bl _)⟩
        rw [ra.str, str_one hx]
      · cases h
    · cases h
  · cases h
theorem g2_notin : G2 K (rIn K true) gNotIn := by
  refine ⟨fun F H x y a b c Q s ra rb h k => ?_⟩
  unfold gNotIn at h
  split at h
  · split at h
    · rename_i hc
      cases h
      obtain ⟨p, vs, rfl, hp, hv⟩ := rb.list s
      have da := repS_flat ra hc.1
      refine ⟨p, vs, rfl, .inl hp, flat_v da hc.1, flat_all hv hc.2, ?_⟩
      show Q (.bl (!inV x vs)) H
      rw [flat_in da hc.1 hv hc.2]
      exact k _ F H (Ext.refl s) (.bl _)
    · cases h
  · split at h
    · rename_i hc
      cases h
      obtain ⟨p, vs, rfl, hp, hv⟩ := rb.tup
      have da := repS_flat ra hc.1
      refine ⟨p, vs, rfl, .inr (sameT s hp), flat_v da hc.1, flat_all hv hc.2, ?_⟩
      show Q (.bl (!inV x vs)) H
      rw [flat_in da hc.1 hv hc.2]
      exact k _ F H (Ext.refl s) (.bl _)
    · cases h
  · cases h
theorem g1_neg : G1 K (rU fun i => .int (-i)) gNeg := by
  refine ⟨fun F H x a c Q s ra h k => ?_⟩
  unfold gNeg at h
  split at h
  · cases h
    exact ⟨_, ra.int, k _ F H (Ext.refl s) (.int _)⟩
  · cases h
/-! ### subscripts -/
theorem atI_get' {vs : List V} {ds : List D} {i : Int} {d : D} (h : DpAll K F vs ds) (e : atI ds i = some d) : ∃ v, atI vs i = some v ∧ Dp K F v d := by
  unfold atI at e ⊢
  rw [DpAll.len h]
  cases hx : ixN ds.length i with
  | none =>
    rw [hx] at e
    cases e
  | some j =>
    rw [hx] at e
    have e' : ds[j]? = some d := e
    have hj : j < vs.length := by
      rw [DpAll.len h]
      exact (List.getElem?_eq_some_iff.mp e').1
    refine ⟨vs[j], ?_, DpAll.get h (List.getElem?_eq_getElem hj) e'⟩
    show vs[j]? = some vs[j]
    exact List.getElem?_eq_getElem hj
theorem g2_ix : G2 K (rIx K) gIx := by
  refine ⟨fun F H x y a b c Q s ra rb h k => ?_⟩
  unfold gIx at h
  split at h
  · obtain ⟨p, vs, rfl, hp, hv⟩ := ra.list s
    obtain ⟨v, h1, h2⟩ := atI_get' hv h
    exact .inl ⟨p, vs, _, v, rfl, rb.int, hp, h1, k v F H (Ext.refl s) h2⟩
  · obtain ⟨p, vs, rfl, hp, hv⟩ := ra.tup
    obtain ⟨v, h1, h2⟩ := atI_get' hv h
    exact .inr (.inl ⟨p, vs, _, v, rfl, rb.int, sameT s hp, h1, k v F H (Ext.refl s) h2⟩)
  · obtain ⟨_, h1, h2⟩ := bnd h
    obtain ⟨h1, _⟩ := lim_some h1
    obtain ⟨c', h3, rfl⟩ := Option.map_eq_some_iff.mp h2
    exact .inr (.inr ⟨_, _, c', ra.str, rb.int, line_of h1, h3, k _ F H (Ext.refl s) (.str _)⟩)
  · cases h
end
section
variable {X : Cx} {a b c e : Expr} {es : List Expr} {pos : Pos} {f f' f'' : Rho → Option D}
theorem de_ix (ha : DR X a f) (hb : DR X b f') (hs : PlainIx b) : DE X (.Subscript a b pos) (f2 gIx f f') := pe_cons (pe_ix ix_seq ha hb hs) fun σ H Q h => run2 g2_ix h
/-! ### slices -/
def tOo (f : Rho → Option (Option Int)) (K : PySem.W.Frag) : TO := fun σ H Q => ∃ (E B F : Hp) (ρ : Rho) (o : Option Int), SR K E B F H σ ρ ∧ f ρ = some o ∧ ∀ F' H', Ext F H F' H' → Q o H'
abbrev DO (X : Cx) (e : Option Expr) (f : Rho → Option (Option Int)) : Prop := PO X e (tOo f X.K)
def oNone : Rho → Option (Option Int) := fun _ => some none
def asI : D → Option Int
  | .int i => some i
  | _ => none
def oSome (f : Rho → Option D) : Rho → Option (Option Int) := fun ρ => (f ρ).bind fun d => (asI d).map some
theorem po_cons {e : Option Expr} {t t' : TO} (h : PO X e t) (k : ∀ σ H Q, t' σ H Q → t σ H Q) : PO X e t' := ⟨fun pins s σ H Q I q => h.run pins s σ H Q I (k σ H Q q)⟩
theorem do_none : DO X none oNone := po_cons po_none fun σ H Q ⟨E, B, F, ρ, o, R, hd, k⟩ => by
  cases hd
  exact k F H (Ext.refl R.fh)
theorem do_some (h : DE X e f) : DO X (some e) (oSome f) := po_cons (po_some h) fun σ H Q ⟨E, B, F, ρ, o, R, hd, k⟩ => by
  obtain ⟨d, h1, h2⟩ := bnd hd
  refine ⟨E, B, F, ρ, d, R, h1, fun v F' H' x q => ?_⟩
  cases d <;> simp [asI] at h2
  subst h2
  cases q
  exact ⟨_, rfl, k F' H' x⟩
def fSl (f : Rho → Option D) (l u : Rho → Option (Option Int)) : Rho → Option D := fun ρ => (f ρ).bind fun a => (l ρ).bind fun lo => (u ρ).bind fun hi => gSl a lo hi
theorem cutV_eq (xs : List V) (lo hi : Option Int) : cutV xs lo hi = cutD xs lo hi := rfl
theorem DpAll.cut {K : PySem.W.Frag} {F : Hp} {vs : List V} {ds : List D} (h : DpAll K F vs ds) (lo hi : Option Int) : DpAll K F (cutV vs lo hi) (cutD ds lo hi) := by
  unfold cutV cutD
  rw [DpAll.len h]
  exact DpAll.take _ (DpAll.drop _ h)
theorem cut_whole {α : Type} (xs : List α) (lo hi : Option Int) (h : HT.sIx xs.length 0 lo = 0 ∧ HT.sIx xs.length xs.length hi = xs.length) : cutD xs lo hi = xs := by
  unfold cutD
  rw [h.1, h.2, List.drop_zero, Nat.sub_zero, List.take_length]
theorem de_slice {lo hi : Option Expr} {p2 : Pos} {l u : Rho → Option (Option Int)} (ha : DR X e f) (hl : DO X lo l) (hu : DO X hi u) : DE X (.Subscript e (.Slice lo hi none p2) pos) (fSl f l u) := by
  refine pe_cons (pe_slice (SlR.or sl_tupA sl_list) ha hl hu) fun σ H Q ⟨E, B, F, ρ, d, R, hd, k⟩ => ?_
  obtain ⟨da, h1, hd⟩ := bnd hd
  obtain ⟨lo', h2, hd⟩ := bnd hd
  obtain ⟨hi', h3, h4⟩ := bnd hd
  refine ⟨E, B, F, ρ, da, R, h1, fun x F1 H1 e1 ra => ⟨E, B, F1, ρ, lo', R.up e1, h2, fun F2 H2 e2 => ⟨E, B, F2, ρ, hi', (R.up e1).up e2, h3, fun F3 H3 e3 => ?_⟩⟩⟩
  have e23 := e2.trans e3
  have s := e3.fh
  have r3 := ra.up e23
  unfold gSl at h4
  split at h4
  · cases h4
    obtain ⟨p, vs, rfl, hp, hv⟩ := r3.tup
    refine .inl ⟨p, vs, rfl, sameT s hp, fun w => ?_, fun w q n => ?_⟩
    · have e := cut_whole _ _ _ (show HT.sIx _ 0 lo' = 0 ∧ HT.sIx _ _ hi' = _ by rw [← DpAll.len hv]; exact w)
      rw [e] at k
      exact k _ F3 H3 (e1.trans e23) (.tup hp hv)
    · exact k _ _ _ ((e1.trans e23).trans (Ext.new s n)) (.tup (SqT.of upd_same) (DpAll.up (same_upd (none_of s n)) (DpAll.cut hv lo' hi')))
  · cases h4
    obtain ⟨p, vs, rfl, hp, hv⟩ := r3.list s
    exact .inr ⟨p, vs, rfl, hp, fun q n => k _ _ _ ((e1.trans e23).trans (Ext.new s n)) (.lst (SqL.of upd_same) (DpAll.up (same_upd (none_of s n)) (DpAll.cut hv lo' hi')))⟩
  · cases h4
/-- xs[lo:hi] of a list: a new list -/
def asL : D → Option (List D)
  | .list xs => some xs
  | _ => none
def fSlF (f : Rho → Option D) (l u : Rho → Option (Option Int)) : Rho → Option (List D) := fun ρ => ((f ρ).bind asL).bind fun xs => (l ρ).bind fun lo => (u ρ).bind fun hi => some (cutD xs lo hi)
theorem df_slice {lo hi : Option Expr} {p2 : Pos} {l u : Rho → Option (Option Int)} (ha : DR X e f) (hl : DO X lo l) (hu : DO X hi u) : DF X (.Subscript e (.Slice lo hi none p2) pos) (fSlF f l u) := by
  refine pe_cons (pe_slice sl_list ha hl hu) fun σ H Q ⟨E, B, F, ρ, d, R, hd, k⟩ => ?_
  obtain ⟨xs, h1, hd⟩ := bnd hd
  obtain ⟨da, h0, h1⟩ := bnd h1
  obtain ⟨lo', h2, hd⟩ := bnd hd
  obtain ⟨hi', h3, h4⟩ := bnd hd
  cases h4
  refine ⟨E, B, F, ρ, da, R, h0, fun x F1 H1 e1 ra => ⟨E, B, F1, ρ, lo', R.up e1, h2, fun F2 H2 e2 => ⟨E, B, F2, ρ, hi', (R.up e1).up e2, h3, fun F3 H3 e3 => ?_⟩⟩⟩
  cases da <;> simp [asL] at h1
  subst h1
  have e13 := e1.trans (e2.trans e3)
  have s := e3.fh
  obtain ⟨p, vs, rfl, hp, hv⟩ := (ra.up (e2.trans e3)).list s
  exact ⟨p, vs, rfl, hp, fun q n => k q _ F3 _ (e13.trans (Ext.junk s n)) (e13.hh.free n) (none_of s n) upd_same (DpAll.cut hv lo' hi')⟩
/-- a fresh list times an int -/
def fRep (f : Rho → Option (List D)) (g : Rho → Option D) : Rho → Option D := fun ρ => (f ρ).bind fun xs => ((g ρ).bind asI).bind fun i => if 0 ≤ i ∧ i ≤ 1000 ∧ xs.length ≤ 1000 then some (.list (List.replicate i.toNat xs).flatten) else none
theorem rep_line {a b : Nat} (h1 : a ≤ 1000) (h2 : b ≤ 1000) : a * b ≤ sizeLine := by
  have := Nat.mul_le_mul h1 h2
  rw [sizeLine_eq]
  omega
theorem de_rep {g : Rho → Option (List D)} (ha : DF X a g) (hb : DE X b f) : DE X (.BinOp a .Mult b pos) (fRep g f) := by
  refine pe_cons (pe_op op_rep ha hb) fun σ H Q ⟨E, B, F, ρ, d, R, hd, k⟩ => ?_
  obtain ⟨xs, h1, hd⟩ := bnd hd
  obtain ⟨i, h2, h3⟩ := bnd hd
  obtain ⟨di, h2, h4⟩ := bnd h2
  split at h3
  · rename_i hc
    cases h3
    refine ⟨E, B, F, ρ, xs, R, h1, fun p vs F1 H1 e1 n nf ep hv => ⟨E, B, F1, ρ, di, R.up e1, h2, fun y F2 H2 e2 q => ?_⟩⟩
    cases di <;> simp [asI] at h4
    subst h4
    cases q
    have s := e2.fh
    refine ⟨p, _, vs, rfl, rfl, e2.hh _ _ ep, by omega, by omega, rep_line (by rw [DpAll.len hv]; exact hc.2.2) (by omega), fun q nq => ?_⟩
    exact k _ _ _ ((e1.trans e2).trans (Ext.new s nq)) (.lst (SqL.of upd_same) (DpAll.up (e2.ff.trans (same_upd (none_of s nq))) (DpAll.rep _ hv)))
  · cases h3
/-! t[::-1], t[::2] -/
def gRev : D → Option D
  | .tuple xs => some (.tuple xs.reverse)
  | .list xs => some (.list xs.reverse)
  | _ => none
def gEv : D → Option D
  | .tuple xs => some (.tuple (picks xs 0 2 ((xs.length + 1) / 2)))
  | _ => none
theorem DpAll.picks {K : PySem.W.Frag} {F : Hp} {vs : List V} {ds : List D} (h : DpAll K F vs ds) (lo st : Int) (n : Nat) : DpAll K F (DL.picks vs lo st n) (DL.picks ds lo st n) := by
  unfold DL.picks
  generalize List.range n = ks
  induction ks with
  | nil => exact .nil
  | cons k ks ih =>
    rw [List.filterMap_cons, List.filterMap_cons]
    cases hx : vs[(lo + (k : Int) * st).toNat]? with
    | none =>
      have h2 : ds[(lo + (k : Int) * st).toNat]? = none := by
        rw [List.getElem?_eq_none_iff] at hx ⊢
        rw [← DpAll.len h]
        exact hx
      rw [h2]
      exact ih
    | some v =>
      obtain ⟨hj, _⟩ := List.getElem?_eq_some_iff.mp hx
      have hj' : (lo + (k : Int) * st).toNat < ds.length := by rw [← DpAll.len h]; exact hj
      rw [List.getElem?_eq_getElem hj']
      exact .cons (DpAll.get h hx (List.getElem?_eq_getElem hj')) ih
theorem fmap_congr {α β : Type} {f g : α → Option β} : ∀ {l : List α}, (∀ x ∈ l, f x = g x) → l.filterMap f = l.filterMap g
  | [], _ => rfl
  | x :: l, h => by
    rw [List.filterMap_cons, List.filterMap_cons, h x (List.mem_cons_self ..), fmap_congr fun y hy => h y (List.mem_cons_of_mem _ hy)]
theorem picks_rev {α : Type} (xs : List α) : picks xs ((xs.length : Int) - 1) (-1) xs.length = xs.reverse := by
  have h := PySem.W.krv_all xs.toArray
  have e : (List.range xs.length).filterMap (fun (k : Nat) => xs[((xs.length : Int) - 1 + (k : Int) * -1).toNat]?) = ((List.range xs.length).map fun k => xs.length - 1 - k).filterMap (xs[·]?) := by
    rw [List.filterMap_map]
    refine fmap_congr fun k hk => ?_
    have hk := List.mem_range.mp hk
    show xs[((xs.length : Int) - 1 + (k : Int) * -1).toNat]? = xs[xs.length - 1 - k]?
    congr 1
    omega
  unfold picks
  rw [e, PySem.W.krv_range, List.filterMap_reverse]
  have h2 : (List.range xs.length).filterMap (xs[·]?) = xs := by
    have h3 := PySem.W.krv_all xs.toArray
    simpa using h3
  rw [h2]
theorem de_revL {k : Nat} {p1 p2 p3 : Pos} (ha : DR X e f) : DE X (.Subscript e (.Slice none none (some (.UnaryOp .USub (.Constant (.int 1) k p1) p2)) p3) pos) (f1 (fun d => (asL d).map fun xs => .list xs.reverse) f) := by
  refine pe_cons (pe_revL ha) fun σ H Q ⟨E, B, F, ρ, d, R, hd, k⟩ => ?_
  obtain ⟨da, h1, h2⟩ := bnd hd
  obtain ⟨xs, h3, rfl⟩ := Option.map_eq_some_iff.mp h2
  refine ⟨E, B, F, ρ, da, R, h1, fun x F1 H1 e1 ra => ?_⟩
  cases da <;> simp [asL] at h3
  subst h3
  obtain ⟨p, vs, rfl, hp, hv⟩ := ra.list e1.fh
  exact ⟨p, vs, rfl, hp, fun q n => k _ _ _ (e1.trans (Ext.new e1.fh n)) (.lst (SqL.of upd_same) (DpAll.up (same_upd (none_of e1.fh n)) (DpAll.rev hv)))⟩
def asT : D → Option (List D)
  | .tuple xs => some xs
  | _ => none
theorem de_stepT {se : Expr} {p3 : Pos} {st : Int} {lo : Nat → Int} {n : Nat → Nat} (h : PE X (.Subscript e (.Slice none none (some se) p3) pos) (tStep X.K (tR X.K f) st lo n)) :
    DE X (.Subscript e (.Slice none none (some se) p3) pos) (f1 (fun d => (asT d).map fun xs => .tuple (picks xs (lo xs.length) st (n xs.length))) f) := by
  refine pe_cons h fun σ H Q ⟨E, B, F, ρ, d, R, hd, k⟩ => ?_
  obtain ⟨da, h1, h2⟩ := bnd hd
  obtain ⟨xs, h3, rfl⟩ := Option.map_eq_some_iff.mp h2
  refine ⟨E, B, F, ρ, da, R, h1, fun x F1 H1 e1 ra => ?_⟩
  cases da <;> simp [asT] at h3
  subst h3
  obtain ⟨p, vs, rfl, hp, hv⟩ := ra.tup
  refine ⟨p, vs, rfl, sameT e1.fh hp, fun q nq => ?_⟩
  rw [DpAll.len hv]
  exact k _ _ _ (e1.trans (Ext.new e1.fh nq)) (.tup (SqT.of upd_same) (DpAll.up (same_upd (none_of e1.fh nq)) (DpAll.picks hv _ _ _)))
theorem step_neg {k : Nat} {p1 p2 : Pos} : ∀ pins s σ H, Inv X pins σ H s → wpAny (model X.prog X.w) X.A (evalPart (some (.UnaryOp .USub (.Constant (.int 1) k p1) p2)) X.env) (fun u s' => Inv X pins σ H s' ∧ IsPart u (some (-1))) X.xe s := fun pins s σ H I => by
  have hst : PO X (some (.UnaryOp .USub (.Constant (.int 1) k p1) p2)) (tPart (tUn (rU fun i => .int (-i)) (tC (.int 1)))) := po_some (pe_un un_neg pe_int)
  refine thn (hst.run pins s σ H (fun o H4 => o = some (-1) ∧ H4 = H) I ⟨1, rfl, -1, rfl, rfl, rfl⟩) fun vs s4 ⟨o, H4, I4, ps, eo, e4⟩ => ?_
  subst eo e4
  exact ⟨I4, ps⟩
theorem step_two {k : Nat} {p1 : Pos} : ∀ pins s σ H, Inv X pins σ H s → wpAny (model X.prog X.w) X.A (evalPart (some (.Constant (.int 2) k p1)) X.env) (fun u s' => Inv X pins σ H s' ∧ IsPart u (some 2)) X.xe s := fun pins s σ H I => by
  have hst : PO X (some (.Constant (.int 2) k p1)) (tPart (tC (.int 2))) := po_some pe_int
  refine thn (hst.run pins s σ H (fun o H4 => o = some 2 ∧ H4 = H) I ⟨2, rfl, rfl, rfl⟩) fun vs s4 ⟨o, H4, I4, ps, eo, e4⟩ => ?_
  subst eo e4
  exact ⟨I4, ps⟩
theorem adj_neg (k : Nat) : ∃ hi, Builtin.Slice.sliceAdjust none none (-1) (k : Int) = ((k : Int) - 1, hi) ∧ Builtin.Slice.slicePlaces ((k : Int) - 1) hi (-1) = k := by
  refine ⟨-1, rfl, ?_⟩
  unfold Builtin.Slice.slicePlaces
  rw [if_neg (by decide)]
  by_cases h : (k : Int) - 1 > -1
  · rw [if_pos h, show (- -1 : Int) = 1 by decide, Int.ediv_one]
    omega
  · rw [if_neg h]
    omega
theorem adj_two (k : Nat) : ∃ hi, Builtin.Slice.sliceAdjust none none 2 (k : Int) = (0, hi) ∧ Builtin.Slice.slicePlaces 0 hi 2 = (k + 1) / 2 := by
  refine ⟨k, rfl, ?_⟩
  unfold Builtin.Slice.slicePlaces
  rw [if_pos (by decide)]
  by_cases h : (0 : Int) < (k : Int)
  · rw [if_pos h]
    omega
  · rw [if_neg h]
    omega
theorem de_revT {k : Nat} {p1 p2 p3 : Pos} (ha : DR X e f) : DE X (.Subscript e (.Slice none none (some (.UnaryOp .USub (.Constant (.int 1) k p1) p2)) p3) pos) (f1 (fun d => (asT d).map fun xs => .tuple xs.reverse) f) := by
  have h := de_stepT (p3 := p3) (pos := pos) (pe_step (st := -1) (lo := fun k => (k : Int) - 1) (n := fun k => k) ha (step_neg (k := k) (p1 := p1) (p2 := p2)) (by decide) (by decide) adj_neg (fun _ => Nat.le_refl _))
  have e0 : (fun d => (asT d).map fun xs => PyData.tuple (picks xs ((xs.length : Int) - 1) (-1) xs.length)) = fun d => (asT d).map fun xs => PyData.tuple xs.reverse := by
    funext d
    congr 1
    funext xs
    rw [picks_rev]
  rw [e0] at h
  exact h
theorem de_evT {k : Nat} {p1 p3 : Pos} (ha : DR X e f) : DE X (.Subscript e (.Slice none none (some (.Constant (.int 2) k p1)) p3) pos) (f1 (fun d => (asT d).map fun xs => .tuple (picks xs 0 2 ((xs.length + 1) / 2))) f) :=
  de_stepT (p3 := p3) (pos := pos) (pe_step (st := 2) (lo := fun _ => 0) (n := fun k => (k + 1) / 2) ha (step_two (k := k) (p1 := p1)) (by decide) (by decide) adj_two (fun k => by omega))
end
end DL
/-! DL5: calls over data -/
namespace DL
open PySem PySem.Spec PyProof.Rows L2
/-! ### lists of ints, of truths -/
def intsOf : List D → Option (List Int)
  | [] => some []
  | .int i :: r => (intsOf r).map (i :: ·)
  | _ => none
theorem intsOf_eq : ∀ {xs : List D} {ns : List Int}, intsOf xs = some ns → xs = ns.map PyData.int
  | [], ns, h => by cases h; rfl
  | d :: r, ns, h => by
    cases d <;> try (cases h)
    rename_i i
    obtain ⟨ms, h1, rfl⟩ := Option.map_eq_some_iff.mp h
    rw [List.map_cons, intsOf_eq h1]
theorem intsOf_map (ns : List Int) : intsOf (ns.map PyData.int) = some ns := by
  induction ns with
  | nil => rfl
  | cons n ns ih => show (intsOf (ns.map PyData.int)).map (n :: ·) = _; rw [ih]; rfl
def blsOf : List D → Option (List Bool)
  | [] => some []
  | .bool i :: r => (blsOf r).map (i :: ·)
  | _ => none
theorem blsOf_eq : ∀ {xs : List D} {ns : List Bool}, blsOf xs = some ns → xs = ns.map PyData.bool
  | [], ns, h => by cases h; rfl
  | d :: r, ns, h => by
    cases d <;> try (cases h)
    rename_i i
    obtain ⟨ms, h1, rfl⟩ := Option.map_eq_some_iff.mp h
    rw [List.map_cons, blsOf_eq h1]
theorem blsOf_map (ns : List Bool) : blsOf (ns.map PyData.bool) = some ns := by
  induction ns with
  | nil => rfl
  | cons n ns ih => show (blsOf (ns.map PyData.bool)).map (n :: ·) = _; rw [ih]; rfl
def ins (x : Int) : List Int → List Int
  | [] => [x]
  | y :: r => if x ≤ y then x :: y :: r else y :: ins x r
def isort : List Int → List Int
  | [] => []
  | x :: r => ins x (isort r)
theorem ins_perm (x : Int) : ∀ r : List Int, (ins x r).Perm (x :: r)
  | [] => .refl _
  | y :: r => by
    unfold ins
    split
    · exact .refl _
    · exact ((ins_perm x r).cons y).trans (.swap x y r)
theorem isort_perm : ∀ r : List Int, (isort r).Perm r
  | [] => .refl _
  | x :: r => (ins_perm x (isort r)).trans ((isort_perm r).cons x)
theorem ins_sorted (x : Int) : ∀ {r : List Int}, r.Pairwise (· ≤ ·) → (ins x r).Pairwise (· ≤ ·)
  | [], _ => List.pairwise_singleton _ _
  | y :: r, h => by
    obtain ⟨h1, h2⟩ := List.pairwise_cons.mp h
    unfold ins
    split
    · rename_i hx
      refine List.pairwise_cons.mpr ⟨fun z hz => ?_, h⟩
      rcases List.mem_cons.mp hz with rfl | hz
      · exact hx
      · exact Int.le_trans hx (h1 z hz)
    · rename_i hx
      refine List.pairwise_cons.mpr ⟨fun z hz => ?_, ins_sorted x h2⟩
      have hz' := (ins_perm x r).mem_iff.mp hz
      rcases List.mem_cons.mp hz' with rfl | hz'
      · omega
      · exact h1 z hz'
theorem isort_sorted : ∀ r : List Int, (isort r).Pairwise (· ≤ ·)
  | [] => List.Pairwise.nil
  | x :: r => ins_sorted x (isort_sorted r)
theorem sorted_eq : ∀ {xs ys : List Int}, xs.Perm ys → xs.Pairwise (· ≤ ·) → ys.Pairwise (· ≤ ·) → xs = ys
  | [], ys, p, _, _ => p.symm.eq_nil.symm
  | x :: r, [], p, _, _ => by simp at p
  | x :: r, y :: q, p, h, h' => by
    obtain ⟨h1, h2⟩ := List.pairwise_cons.mp h
    obtain ⟨h3, h4⟩ := List.pairwise_cons.mp h'
    have e : x = y := by
      have a1 : x ∈ y :: q := p.mem_iff.mp (List.mem_cons_self ..)
      have a2 : y ∈ x :: r := p.mem_iff.mpr (List.mem_cons_self ..)
      rcases List.mem_cons.mp a1 with e | a1
      · exact e
      · rcases List.mem_cons.mp a2 with e | a2
        · exact e.symm
        · have b1 := h1 y a2
          have b2 := h3 x a1
          omega
    subst e
    rw [sorted_eq (List.Perm.cons_inv p) h2 h4]
theorem isort_eq {ns ms : List Int} (p : ns.Perm ms) (h : ns.Pairwise (· ≤ ·)) : ns = isort ms := sorted_eq (p.trans (isort_perm ms).symm) h (isort_sorted ms)
def maxOf : Int → List Int → Int
  | m, [] => m
  | m, x :: r => maxOf (max m x) r
def minOf : Int → List Int → Int
  | m, [] => m
  | m, x :: r => minOf (min m x) r
theorem maxOf_is : ∀ (r : List Int) (m : Int), maxOf m r ∈ m :: r ∧ ∀ y ∈ m :: r, y ≤ maxOf m r
  | [], m => ⟨List.mem_cons_self .., fun y hy => by
    rcases List.mem_cons.mp hy with rfl | h
    · exact Int.le_refl _
    · cases h⟩
  | x :: r, m => by
    obtain ⟨h1, h2⟩ := maxOf_is r (max m x)
    have hm := h2 _ (List.mem_cons_self ..)
    refine ⟨?_, fun y hy => ?_⟩
    · show maxOf (max m x) r ∈ m :: x :: r
      rcases List.mem_cons.mp h1 with e | h
      · rw [e]
        by_cases hc : m ≤ x
        · rw [Int.max_eq_right hc]
          exact List.mem_cons_of_mem _ (List.mem_cons_self ..)
        · rw [Int.max_eq_left (by omega)]
          exact List.mem_cons_self ..
      · exact List.mem_cons_of_mem _ (List.mem_cons_of_mem _ h)
    · show y ≤ maxOf (max m x) r
      rcases List.mem_cons.mp hy with rfl | hy
      · omega
      · rcases List.mem_cons.mp hy with rfl | hy
        · omega
        · exact h2 y (List.mem_cons_of_mem _ hy)
theorem minOf_is : ∀ (r : List Int) (m : Int), minOf m r ∈ m :: r ∧ ∀ y ∈ m :: r, minOf m r ≤ y
  | [], m => ⟨List.mem_cons_self .., fun y hy => by
    rcases List.mem_cons.mp hy with rfl | h
    · exact Int.le_refl _
    · cases h⟩
  | x :: r, m => by
    obtain ⟨h1, h2⟩ := minOf_is r (min m x)
    have hm := h2 _ (List.mem_cons_self ..)
    refine ⟨?_, fun y hy => ?_⟩
    · show minOf (min m x) r ∈ m :: x :: r
      rcases List.mem_cons.mp h1 with e | h
      · rw [e]
        by_cases hc : m ≤ x
        · rw [Int.min_eq_left hc]
          exact List.mem_cons_self ..
        · rw [Int.min_eq_right (by omega)]
          exact List.mem_cons_of_mem _ (List.mem_cons_self ..)
      · exact List.mem_cons_of_mem _ (List.mem_cons_of_mem _ h)
    · show minOf (min m x) r ≤ y
      rcases List.mem_cons.mp hy with rfl | hy
      · omega
      · rcases List.mem_cons.mp hy with rfl | hy
        · omega
        · exact h2 y (List.mem_cons_of_mem _ hy)

/-! ### the functions -/
def gLen : D → Option D
  | .list xs => some (.int xs.length)
  | .tuple xs => some (.int xs.length)
  | .str x => lim x.length (.int x.length)
  | _ => none
def gListOf : D → Option (List D)
  | .list xs => some xs
  | .tuple xs => some xs
  | _ => none
def gTupOf : D → Option D
  | .list xs => some (.tuple xs)
  | .tuple xs => some (.tuple xs)
  | _ => none
def gAll : D → Option D
  | .list xs => (blsOf xs).map fun bs => .bool (bs.all id)
  | _ => none
def gAny : D → Option D
  | .list xs => (blsOf xs).map fun bs => .bool (bs.any id)
  | _ => none
def gSorted : D → Option D
  | .list xs => (intsOf xs).map fun ns => .list ((isort ns).map PyData.int)
  | .tuple xs => (intsOf xs).map fun ns => .list ((isort ns).map PyData.int)
  | _ => none
def gMaxL : D → Option D
  | .list xs => (intsOf xs).bind fun ns => match ns with
    | [] => none
    | n :: r => some (.int (maxOf n r))
  | _ => none
def gMinL : D → Option D
  | .list xs => (intsOf xs).bind fun ns => match ns with
    | [] => none
    | n :: r => some (.int (minOf n r))
  | _ => none
def gMin2 : D → D → Option D
  | .int i, .int j => some (.int (if j < i then j else i))
  | _, _ => none
def gMax2 : D → D → Option D
  | .int i, .int j => some (.int (if j > i then j else i))
  | _, _ => none
def gInt : D → Option D
  | .int i => some (.int i)
  | .bool b => some (.int (if b then 1 else 0))
  | _ => none
def gLenSet : D → Option D
  | .tuple xs => (intsOf xs).bind fun ns => if ns.length ≤ 4000 then some (.int ((dedup ns).length : Nat)) else none
  | _ => none
def gIsi (bn bb bi bs bl bt : Bool) : D → Option D
  | .none => some (.bool bn)
  | .bool _ => some (.bool bb)
  | .int _ => some (.bool bi)
  | .str _ => some (.bool bs)
  | .list _ => some (.bool bl)
  | .tuple _ => some (.bool bt)
  | .dict _ => none
def gIsInt : D → Option D := gIsi false true true false false false
def gIsBool : D → Option D := gIsi false true false false false false
def gIsStr : D → Option D := gIsi false false false true false false
def gIsTup : D → Option D := gIsi false false false false false true
structure KitAll (T : String) (bn bb bi bs bl bt : Bool) : Prop where
  n : kitB "NoneType" T = some bn
  b : kitB "bool" T = some bb
  i : kitB "int" T = some bi
  s : kitB "str" T = some bs
  l : kitB "list" T = some bl
  t : kitB "tuple" T = some bt
theorem kit_int : KitAll "int" false true true false false false := ⟨by decide +kernel, by decide +kernel, by decide +kernel, by decide +kernel, by decide +kernel, by decide +kernel⟩
theorem kit_bool : KitAll "bool" false true false false false false := ⟨by decide +kernel, by decide +kernel, by decide +kernel, by decide +kernel, by decide +kernel, by decide +kernel⟩
theorem kit_str : KitAll "str" false false false true false false := ⟨by decide +kernel, by decide +kernel, by decide +kernel, by decide +kernel, by decide +kernel, by decide +kernel⟩
theorem kit_tup : KitAll "tuple" false false false false false true := ⟨by decide +kernel, by decide +kernel, by decide +kernel, by decide +kernel, by decide +kernel, by decide +kernel⟩

/-! ### one argument -/
structure C1 (K : PySem.W.Frag) (r : List V → Hp → VK → Prop) (g : D → Option D) : Prop where
  ok : ∀ (F H : Hp) (x : V) (a c : D) (Q : VK), Same F H → RepS K F H x a → g a = some c → (∀ v F' H', Ext F H F' H' → Dp K F' v c → Q v H') → r [x] H Q
structure C2 (K : PySem.W.Frag) (r : List V → Hp → VK → Prop) (g : D → D → Option D) : Prop where
  ok : ∀ (F H : Hp) (x y : V) (a b c : D) (Q : VK), Same F H → RepS K F H x a → RepS K F H y b → g a b = some c → (∀ v F' H', Ext F H F' H' → Dp K F' v c → Q v H') → r [x, y] H Q
structure CF (K : PySem.W.Frag) (r : List V → Hp → VK → Prop) (g : D → Option (List D)) : Prop where
  ok : ∀ (F H : Hp) (x : V) (a : D) (xs : List D) (Q : VK), Same F H → RepS K F H x a → g a = some xs → (∀ p vs F' H', Ext F H F' H' → H p = none → F' p = none → H' p = some (.lst vs) → DpAll K F' vs xs → Q (.ref p) H') → r [x] H Q
section
variable {K : PySem.W.Frag} {F H : Hp}
theorem c1_len : C1 K (fun xs H Q => ∃ x n, xs = [x] ∧ LenV K x H n ∧ Q (.int n) H) gLen := by
  refine ⟨fun F H x a c Q s ra h k => ?_⟩
  unfold gLen at h
  split at h
  · cases h
    obtain ⟨p, vs, rfl, hp, hv⟩ := ra.list s
    refine ⟨_, vs.length, rfl, .inl ⟨vs, hp, rfl⟩, ?_⟩
    rw [DpAll.len hv]
    exact k _ F H (Ext.refl s) (.int _)
  · cases h
    obtain ⟨p, vs, rfl, hp, hv⟩ := ra.tup
    refine ⟨_, vs.length, rfl, .inr ⟨vs, sameT s hp, rfl⟩, ?_⟩
    rw [DpAll.len hv]
    exact k _ F H (Ext.refl s) (.int _)
  · obtain ⟨h1, rfl⟩ := lim_some h
    rw [ra.str]
    exact ⟨_, _, rfl, ⟨line_of h1, rfl⟩, k _ F H (Ext.refl s) (.int _)⟩
  · cases h
theorem cf_list {X : Cx} : CF X.K (fun xs H Q => ∃ p ys, xs = [.ref p] ∧ (SqL X.K H p ys ∨ SqT X.K H p ys) ∧ ∀ l, H l = none → Q (.ref l) (upd H l (.lst ys))) gListOf := by
  refine ⟨fun F H x a xs Q s ra h k => ?_⟩
  unfold gListOf at h
  split at h
  · cases h
    obtain ⟨p, vs, rfl, hp, hv⟩ := ra.list s
    exact ⟨p, vs, rfl, .inl hp, fun l n => k l vs F _ (Ext.junk s n) n (none_of s n) upd_same hv⟩
  · cases h
    obtain ⟨p, vs, rfl, hp, hv⟩ := ra.tup
    exact ⟨p, vs, rfl, .inr (sameT s hp), fun l n => k l vs F _ (Ext.junk s n) n (none_of s n) upd_same hv⟩
  · cases h
theorem c1_tup {X : Cx} : C1 X.K (fun xs H Q => ∃ p ys, xs = [.ref p] ∧ ((SqL X.K H p ys ∧ ∀ l, H l = none → Q (.ref l) (upd H l (.tup ys))) ∨ (SqT X.K H p ys ∧ Q (.ref p) H))) gTupOf := by
  refine ⟨fun F H x a c Q s ra h k => ?_⟩
  unfold gTupOf at h
  split at h
  · cases h
    obtain ⟨p, vs, rfl, hp, hv⟩ := ra.list s
    exact ⟨p, vs, rfl, .inl ⟨hp, fun l n => k _ _ _ (Ext.new s n) (.tup (SqT.of upd_same) (DpAll.up (same_upd (none_of s n)) hv))⟩⟩
  · cases h
    obtain ⟨p, vs, rfl, hp, hv⟩ := ra.tup
    exact ⟨p, vs, rfl, .inr ⟨sameT s hp, k _ F H (Ext.refl s) (.tup hp hv)⟩⟩
  · cases h
theorem c1_all : C1 K (rAll K) gAll := by
  refine ⟨fun F H x a c Q s ra h k => ?_⟩
  unfold gAll at h
  split at h
  · obtain ⟨bs, h1, rfl⟩ := Option.map_eq_some_iff.mp h
    have e := blsOf_eq h1
    subst e
    obtain ⟨p, vs, rfl, hp, hv⟩ := ra.list s
    rw [DpAll.bls hv] at hp
    exact ⟨p, bs, rfl, hp, k _ F H (Ext.refl s) (.bl _)⟩
  · cases h
theorem c1_any : C1 K (rAny K) gAny := by
  refine ⟨fun F H x a c Q s ra h k => ?_⟩
  unfold gAny at h
  split at h
  · obtain ⟨bs, h1, rfl⟩ := Option.map_eq_some_iff.mp h
    have e := blsOf_eq h1
    subst e
    obtain ⟨p, vs, rfl, hp, hv⟩ := ra.list s
    rw [DpAll.bls hv] at hp
    exact ⟨p, bs, rfl, hp, k _ F H (Ext.refl s) (.bl _)⟩
  · cases h
def rSortA (K : PySem.W.Frag) : List V → Hp → VK → Prop := fun xs H Q => rSortedI K xs H Q ∨ rSortedIT K xs H Q
theorem cr_sortA {X : Cx} : CallR X (.builtin "sorted") (rSortA X.K) := CallR.or cr_sortedI cr_sortedIT
theorem c1_sorted : C1 K (rSortA K) gSorted := by
  refine ⟨fun F H x a c Q s ra h k => ?_⟩
  unfold gSorted at h
  split at h
  · obtain ⟨ns, h1, rfl⟩ := Option.map_eq_some_iff.mp h
    have e := intsOf_eq h1
    subst e
    obtain ⟨p, vs, rfl, hp, hv⟩ := ra.list s
    rw [DpAll.ints hv] at hp
    refine .inl ⟨p, ns, rfl, hp, fun ns' q h2 h3 n => ?_⟩
    rw [isort_eq h2 h3]
    exact k _ _ _ (Ext.new s n) (.lst (SqL.of upd_same) (DpAll.ofInts _))
  · obtain ⟨ns, h1, rfl⟩ := Option.map_eq_some_iff.mp h
    have e := intsOf_eq h1
    subst e
    obtain ⟨p, vs, rfl, hp, hv⟩ := ra.tup
    rw [DpAll.ints hv] at hp
    refine .inr ⟨p, ns, rfl, sameT s hp, fun ns' q h2 h3 n => ?_⟩
    rw [isort_eq h2 h3]
    exact k _ _ _ (Ext.new s n) (.lst (SqL.of upd_same) (DpAll.ofInts _))
  · cases h
theorem c1_max : C1 K (rMax K) gMaxL := by
  refine ⟨fun F H x a c Q s ra h k => ?_⟩
  unfold gMaxL at h
  split at h
  · obtain ⟨ns, h1, h2⟩ := bnd h
    have e := intsOf_eq h1
    subst e
    obtain ⟨p, vs, rfl, hp, hv⟩ := ra.list s
    rw [DpAll.ints hv] at hp
    split at h2
    · cases h2
    · rename_i n r
      cases h2
      refine ⟨p, n :: r, rfl, hp, by simp, fun m h3 h4 => ?_⟩
      obtain ⟨a1, a2⟩ := maxOf_is r n
      have e : m = maxOf n r := by
        have b1 := h4 _ a1
        have b2 := a2 _ h3
        omega
      rw [e]
      exact k _ F H (Ext.refl s) (.int _)
  · cases h
theorem c1_min : C1 K (rMin K) gMinL := by
  refine ⟨fun F H x a c Q s ra h k => ?_⟩
  unfold gMinL at h
  split at h
  · obtain ⟨ns, h1, h2⟩ := bnd h
    have e := intsOf_eq h1
    subst e
    obtain ⟨p, vs, rfl, hp, hv⟩ := ra.list s
    rw [DpAll.ints hv] at hp
    split at h2
    · cases h2
    · rename_i n r
      cases h2
      refine ⟨p, n :: r, rfl, hp, by simp, fun m h3 h4 => ?_⟩
      obtain ⟨a1, a2⟩ := minOf_is r n
      have e : m = minOf n r := by
        have b1 := h4 _ a1
        have b2 := a2 _ h3
        omega
      rw [e]
      exact k _ F H (Ext.refl s) (.int _)
  · cases h
theorem c2_min : C2 K (fun xs H Q => ∃ i j, xs = [.int i, .int j] ∧ Q (.int (if j < i then j else i)) H) gMin2 := by
  refine ⟨fun F H x y a b c Q s ra rb h k => ?_⟩
  unfold gMin2 at h
  split at h
  · cases h
    rw [ra.int, rb.int]
    exact ⟨_, _, rfl, k _ F H (Ext.refl s) (.int _)⟩
  · cases h
theorem c2_max : C2 K (fun xs H Q => ∃ i j, xs = [.int i, .int j] ∧ Q (.int (if j > i then j else i)) H) gMax2 := by
  refine ⟨fun F H x y a b c Q s ra rb h k => ?_⟩
  unfold gMax2 at h
  split at h
  · cases h
    rw [ra.int, rb.int]
    exact ⟨_, _, rfl, k _ F H (Ext.refl s) (.int _)⟩
  · cases h
theorem c1_int : C1 K (fun xs H Q => (∃ i, xs = [.int i] ∧ Q (.int i) H) ∨ ∃ k, xs = [.bl k] ∧ Q (.int (if k then 1 else 0)) H) gInt := by
  refine ⟨fun F H x a c Q s ra h k => ?_⟩
  unfold gInt at h
  split at h
  · cases h
    rw [ra.int]
    exact .inl ⟨_, rfl, k _ F H (Ext.refl s) (.int _)⟩
  · cases h
    rw [ra.bl]
    exact .inr ⟨_, rfl, k _ F H (Ext.refl s) (.int _)⟩
  · cases h
theorem tyx_list {a : Addr} {xs : List V} (h : SqL K H a xs) : TyX K H (.ref a) (.type "list") := by
  rcases h with (h | ⟨o, h⟩) | ⟨o, its, n, h1, h2, _⟩
  · exact .base (.lst h)
  · exact .base (.frz h)
  · exact .kList h1 h2
theorem tyx_tup {a : Addr} {xs : List V} (h : SqT K H a xs) : TyX K H (.ref a) (.type "tuple") := by
  rcases h with (h | ⟨o, h⟩) | ⟨o, its, n, h1, h2, _⟩
  · exact .base (.tup h)
  · exact .fTuple h
  · exact .kTuple h1 h2
theorem c2_isi {T : String} {bn bb bi bs bl bt : Bool} (k : KitAll T bn bb bi bs bl bt) {x : V} {a c : D} {Q : VK} (s : Same F H) (ra : RepS K F H x a) (h : gIsi bn bb bi bs bl bt a = some c) (q : ∀ b, c = .bool b → Q (.bl b) H) : rIsi K [x, .ty T] H Q := by
  cases a with
  | none =>
    cases h
    rw [ra.non]
    exact ⟨_, _, _, _, bn, rfl, .ty T, .base .non, kit_ty k.n, q _ rfl⟩
  | bool b =>
    cases h
    rw [ra.bl]
    exact ⟨_, _, _, _, bb, rfl, .ty T, .base (.bl b), kit_ty k.b, q _ rfl⟩
  | int b =>
    cases h
    rw [ra.int]
    exact ⟨_, _, _, _, bi, rfl, .ty T, .base (.int b), kit_ty k.i, q _ rfl⟩
  | str b =>
    cases h
    rw [ra.str]
    exact ⟨_, _, _, _, bs, rfl, .ty T, .base (.str b), kit_ty k.s, q _ rfl⟩
  | list b =>
    cases h
    obtain ⟨p, vs, rfl, hp, hv⟩ := ra.list s
    exact ⟨_, _, _, _, bl, rfl, .ty T, tyx_list hp, kit_ty k.l, q _ rfl⟩
  | tuple b =>
    cases h
    obtain ⟨p, vs, rfl, hp, hv⟩ := ra.tup
    exact ⟨_, _, _, _, bt, rfl, .ty T, tyx_tup (sameT s hp), kit_ty k.t, q _ rfl⟩
  | dict b => cases h
end
section
variable {X : Cx} {x : Str} {p pos : Pos} {a b e : Expr} {es : List Expr} {id T : String} {r : List V → Hp → VK → Prop} {f f' : Rho → Option D}
theorem read1 {σ : St} {H : Hp} {Q : VK} {g : D → Option D} (hg : C1 X.K r g) (h : tD X.K (f1 g f) σ H Q) : tCB r (tCons (tR X.K f) tNil) σ H Q := by
  obtain ⟨E, B, F, ρ, d, R, hd, k⟩ := h
  obtain ⟨da, h1, h2⟩ := bnd hd
  exact ⟨E, B, F, ρ, da, R, h1, fun x F1 H1 e1 ra => hg.ok F1 H1 x da d Q e1.fh ra h2 fun v F2 H2 e2 q => k v F2 H2 (e1.trans e2) q⟩
theorem read2 {σ : St} {H : Hp} {Q : VK} {g : D → D → Option D} (hg : C2 X.K r g) (h : tD X.K (f2 g f f') σ H Q) : tCB r (tCons (tR X.K f) (tCons (tR X.K f') tNil)) σ H Q := by
  obtain ⟨E, B, F, ρ, d, R, hd, k⟩ := h
  obtain ⟨da, h1, hd⟩ := bnd hd
  obtain ⟨db, h2, h3⟩ := bnd hd
  exact ⟨E, B, F, ρ, da, R, h1, fun x F1 H1 e1 ra => ⟨E, B, F1, ρ, db, R.up e1, h2, fun y F2 H2 e2 rb => hg.ok F2 H2 x y da db d Q e2.fh (ra.up e2) rb h3 fun v F3 H3 e3 q => k v F3 H3 (e1.trans (e2.trans e3)) q⟩⟩
def fF1 (g : D → Option (List D)) (f : Rho → Option D) : Rho → Option (List D) := fun ρ => (f ρ).bind g
theorem readF {σ : St} {H : Hp} {Q : VK} {g : D → Option (List D)} (hg : CF X.K r g) (h : tF X.K (fF1 g f) σ H Q) : tCB r (tCons (tR X.K f) tNil) σ H Q := by
  obtain ⟨E, B, F, ρ, d, R, hd, k⟩ := h
  obtain ⟨da, h1, h2⟩ := bnd hd
  exact ⟨E, B, F, ρ, da, R, h1, fun x F1 H1 e1 ra => hg.ok F1 H1 x da d Q e1.fh ra h2 fun p vs F2 H2 e2 n nf hp hv => k p vs F2 H2 (e1.trans e2) (e1.hh.free n) nf hp hv⟩
theorem de_call1 {g : D → Option D} (hc : CallR X (.builtin id) r) (hg : C1 X.K r g) (hm : X.mg x = none) (hv : bootBuiltins x = some (.builtin id)) (ha : DR X a f) (gl : Gl X x := by rfl) (hn : x ≠ "__name__" := by decide) (hdb : (x == ("__debug__" : Str)) = false := by decide)
    (hs : starEach [a] X.env = (false, eval a X.env) :: starEach [] X.env := by rfl) : DE X (.Call (.Name x p) [a] [] pos) (f1 g f) :=
  pe_cons (pe_callB hc gl hm hv (pa_cons ha pa_nil hs) hn hdb hs rfl) fun σ H Q h => read1 hg h
theorem de_callT1 {g : D → Option D} (hc : CallR X (.type T) r) (hg : C1 X.K r g) (hm : X.mg x = none) (hv : bootBuiltins x = some (.type T)) (ha : DR X a f) (gl : Gl X x := by rfl) (hn : x ≠ "__name__" := by decide) (hdb : (x == ("__debug__" : Str)) = false := by decide)
    (hs : starEach [a] X.env = (false, eval a X.env) :: starEach [] X.env := by rfl) : DE X (.Call (.Name x p) [a] [] pos) (f1 g f) :=
  pe_cons (pe_callTy hc gl hm hv (pa_cons ha pa_nil hs) hn hdb hs rfl) fun σ H Q h => read1 hg h
theorem df_callT1 {g : D → Option (List D)} (hc : CallR X (.type T) r) (hg : CF X.K r g) (hm : X.mg x = none) (hv : bootBuiltins x = some (.type T)) (ha : DR X a f) (gl : Gl X x := by rfl) (hn : x ≠ "__name__" := by decide) (hdb : (x == ("__debug__" : Str)) = false := by decide)
    (hs : starEach [a] X.env = (false, eval a X.env) :: starEach [] X.env := by rfl) : DF X (.Call (.Name x p) [a] [] pos) (fF1 g f) :=
  pe_cons (pe_callTy hc gl hm hv (pa_cons ha pa_nil hs) hn hdb hs rfl) fun σ H Q h => readF hg h
theorem de_call2 {g : D → D → Option D} (hc : CallR X (.builtin id) r) (hg : C2 X.K r g) (hm : X.mg x = none) (hv : bootBuiltins x = some (.builtin id)) (ha : DR X a f) (hb : DR X b f') (gl : Gl X x := by rfl) (hn : x ≠ "__name__" := by decide) (hdb : (x == ("__debug__" : Str)) = false := by decide)
    (hs : starEach [a, b] X.env = (false, eval a X.env) :: starEach [b] X.env := by rfl) (hs2 : starEach [b] X.env = (false, eval b X.env) :: starEach [] X.env := by rfl) (hpl : (backTo pos (starEach [b] X.env)).any (·.1) = false := by rfl) : DE X (.Call (.Name x p) [a, b] [] pos) (f2 g f f') :=
  pe_cons (pe_callB hc gl hm hv (pa_cons ha (pa_cons hb pa_nil hs2) hs) hn hdb hs hpl) fun σ H Q h => read2 hg h
theorem de_isi {T : String} {y : Str} {p2 : Pos} {bn bb bi bs bl bt : Bool} (k : KitAll T bn bb bi bs bl bt) (hm : X.mg "isinstance" = none) (hm2 : X.mg y = none) (hv2 : bootBuiltins y = some (.type T)) (ha : DR X a f) (gl : Gl X "isinstance" := by rfl) (gl2 : Gl X y := by rfl) (hn : y ≠ "__name__" := by decide) (hdb : (y == ("__debug__" : Str)) = false := by decide)
    (hs : starEach [a, .Name y p2] X.env = (false, eval a X.env) :: starEach [.Name y p2] X.env := by rfl) (hs2 : starEach [.Name y p2] X.env = (false, eval (.Name y p2) X.env) :: starEach [] X.env := by rfl) (hpl : (backTo pos (starEach [.Name y p2] X.env)).any (·.1) = false := by rfl) :
    DE X (.Call (.Name "isinstance" p) [a, .Name y p2] [] pos) (f1 (gIsi bn bb bi bs bl bt) f) := by
  refine pe_cons (pe_callB call_isi gl hm PyProof.Rows.boot_isinstance (pa_cons ha (pa_cons (pe_bltn (v := .ty T) gl2 hm2 hv2 rfl hn hdb) pa_nil hs2) hs) (by decide) (by decide) hs hpl) fun σ H Q ⟨E, B, F, ρ, d, R, hd, kq⟩ => ?_
  obtain ⟨da, h1, h2⟩ := bnd hd
  refine ⟨E, B, F, ρ, da, R, h1, fun x F1 H1 e1 ra => ?_⟩
  refine c2_isi k e1.fh ra h2 fun b eb => ?_
  subst eb
  exact kq _ F1 H1 e1 (.bl b)
theorem de_lenset {p2 q : Pos} (hm : X.mg "len" = none) (hm2 : X.mg "set" = none) (ha : DR X a f) (gl : Gl X "len" := by rfl) (gl2 : Gl X "set" := by rfl) (hc : X.calm = true := by rfl)
    (na : starEach [a] X.env = (false, eval a X.env) :: starEach [] X.env := by rfl) : DE X (.Call (.Name "len" p) [.Call (.Name "set" p2) [a] [] q] [] pos) (f1 gLenSet f) := by
  refine pe_cons (pe_lenSetT gl hm gl2 hm2 ha hc na) fun σ H Q ⟨E, B, F, ρ, d, R, hd, kq⟩ => ?_
  obtain ⟨da, h1, h2⟩ := bnd hd
  refine ⟨E, B, F, ρ, da, R, h1, fun x F1 H1 e1 ra => ?_⟩
  unfold gLenSet at h2
  split at h2
  · obtain ⟨ns, h3, h4⟩ := bnd h2
    split at h4
    · cases h4
      have e := intsOf_eq h3
      subst e
      obtain ⟨l, vs, rfl, hp, hv⟩ := ra.tup
      rw [DpAll.ints hv] at hp
      exact ⟨l, ns, rfl, sameT e1.fh hp, by assumption, kq _ F1 H1 e1 (.int _)⟩
    · cases h4
  · cases h2
/-! ### calls of the program's own defs -/
def spD (K : PySem.W.Frag) (G : List D → Option D) : Sp := fun vs H Q _ => ∃ (F : Hp) (ds : List D) (d : D), Same F H ∧ DpAll K F vs ds ∧ G ds = some d ∧ ∀ v F' H', Ext F H F' H' → Dp K F' v d → Q v H'
abbrev Cl (P : Program) (w : World) (K : PySem.W.Frag) (mg : Str → Option Value) (base : Heap) (k : Nat) (x : Str) (G : List D → Option D) : Prop :=
  ∃ (f : Addr) (fd : FuncData) (ps : List Str), FnOk P w K mg base CX0 k f fd ps (spD K G) ∧ mg x = some (.ref f) ∧ PySem.W.keepIn K (.ref f) = true ∧ Binds K fd ps []
theorem de_call {k j : Nat} {G : List D → Option D} {g : Rho → Option (List D)} (c : Cl X.prog X.w X.K X.mg X.base k x G) (hr : Room j X.A) (hk : k ≤ j) (ha : DA X (e :: es) g) (hg : Gl X x := by rfl) (hdb : (x == ("__debug__" : Str)) = false := by decide)
    (he : starEach (e :: es) X.env = (false, eval e X.env) :: starEach es X.env := by rfl) (hpl : (backTo pos (starEach es X.env)).any (·.1) = false := by rfl) : DE X (.Call (.Name x p) (e :: es) [] pos) (fCall G g) := by
  obtain ⟨f, fd, ps, Fn, hm, kp, b⟩ := c
  refine pe_cons (pe_call Fn (hr.mono hk) hg hm kp b .nil pass0 ha hdb he hpl) fun σ H Q ⟨E, B, F, ρ, d, R, hd, kq⟩ => ?_
  obtain ⟨ds, h1, h2⟩ := bnd hd
  refine ⟨E, B, F, ρ, ds, R, h1, fun vs F1 H1 e1 q => ?_⟩
  show spD X.K G (vs ++ []) H1 Q E0
  rw [List.append_nil]
  exact ⟨F1, ds, d, e1.fh, q, h2, fun v F2 H2 e2 q2 => kq v F2 H2 (e1.trans e2) q2⟩
end
end DL
/-! DL6: targets, what is walked, comprehensions, statements, defs -/
namespace DL
open PySem PySem.Spec PyProof.Rows L2
/-! ### wiping -/
theorem wipe_get (σ : St) (i : Nat) : ∀ vs : List Nat, (wipe σ vs)[i]? = if i ∈ vs ∧ i < σ.length then some none else σ[i]?
  | [] => by simp [wipe]
  | v :: vs => by
    unfold wipe
    rw [List.getElem?_set, wipe_get σ i vs, wipe_length]
    by_cases h1 : v = i
    · subst h1
      by_cases h2 : v < σ.length
      · simp [h2]
      · simp [h2]
    · simp [h1, Ne.symm h1]
theorem wipe_set (σ : St) {i : Nat} {x : Option V} {js : List Nat} (h : i ∈ js) : wipe (σ.set i x) js = wipe σ js := by
  apply List.ext_getElem?
  intro k
  rw [wipe_get, wipe_get, List.length_set, List.getElem?_set]
  by_cases h1 : i = k
  · subst h1
    by_cases h2 : i < σ.length
    · simp [h, h2]
    · simp [h2]
  · simp [h1]
theorem wipe_wipe (σ : St) (js : List Nat) : wipe (wipe σ js) js = wipe σ js := by
  apply List.ext_getElem?
  intro k
  rw [wipe_get, wipe_length, wipe_get]
  by_cases h : k ∈ js ∧ k < σ.length
  · simp [h]
  · simp [h]
/-! ### targets -/
def tG (K : PySem.W.Frag) (g : D → Rho → Option Rho) (is : List Nat) : TG := fun v σ H Q => ∃ (E B F : Hp) (ρ : Rho) (d : D) (ρ' : Rho), SR K E B F H σ ρ ∧ Dp K F v d ∧ g d ρ = some ρ' ∧
  ∀ σ', SR K E B F H σ' ρ' → (∀ js : List Nat, (∀ i ∈ is, i ∈ js) → wipe σ' js = wipe σ js) → Q σ' H
def tGs (K : PySem.W.Frag) (g : List D → Rho → Option Rho) (is : List Nat) : TGs := fun vs σ H Q => ∃ (E B F : Hp) (ρ : Rho) (ds : List D) (ρ' : Rho), SR K E B F H σ ρ ∧ DpAll K F vs ds ∧ g ds ρ = some ρ' ∧
  ∀ σ', SR K E B F H σ' ρ' → (∀ js : List Nat, (∀ i ∈ is, i ∈ js) → wipe σ' js = wipe σ js) → Q σ' H
abbrev DG (X : Cx) (e : Expr) (g : D → Rho → Option Rho) (is : List Nat) : Prop := PG X e (tG X.K g is)
abbrev DGs (X : Cx) (es : List Expr) (g : List D → Rho → Option Rho) (is : List Nat) : Prop := PGs X es (tGs X.K g is)
def gN (i : Nat) : D → Rho → Option Rho := fun d ρ => some (ρ.set i (some (.dat d)))
def setAll : List Nat → List D → Rho → Option Rho
  | [], [], ρ => some ρ
  | i :: is, d :: ds, ρ => setAll is ds (ρ.set i (some (.dat d)))
  | _, _, _ => none
def gT (is : List Nat) : D → Rho → Option Rho := fun d ρ => match d with
  | .tuple ds => setAll is ds ρ
  | _ => none
theorem setAll_len : ∀ {is : List Nat} {ds : List D} {ρ ρ' : Rho}, setAll is ds ρ = some ρ' → ds.length = is.length
  | [], [], _, _, _ => rfl
  | i :: is, d :: ds, ρ, ρ', h => congrArg Nat.succ (setAll_len (is := is) (ds := ds) h)
  | [], _ :: _, _, _, h => by cases h
  | _ :: _, [], _, _, h => by cases h
section
variable {X : Cx} {pos : Pos}
theorem pg_cons {e : Expr} {t t' : TG} (h : PG X e t) (k : ∀ v σ H Q, t' v σ H Q → t v σ H Q) : PG X e t' := ⟨fun pins s σ H v u Q I r q => h.run pins s σ H v u Q I r (k v σ H Q q)⟩
theorem pgs_conseq {es : List Expr} {t t' : TGs} (h : PGs X es t) (k : ∀ v σ H Q, t' v σ H Q → t v σ H Q) : PGs X es t' := ⟨fun pins s σ H v u Q I r q => h.run pins s σ H v u Q I r (k v σ H Q q)⟩
theorem dg_name (i : Nat) {x : Str} (hN : X.N.Nodup) (hi : X.N[i]? = some x := by rfl) (hx : Loc X.env.scope x := by first | exact Or.inl rfl | exact Or.inr rfl) (hf : X.fn x = true ∨ X.env.scope.names.lookup x = some .local := by first | exact .inl rfl | exact .inr rfl) : DG X (.Name x pos) (gN i) [i] :=
  pg_cons (pg_name hN hi hx hf) fun v σ H Q ⟨E, B, F, ρ, d, ρ', R, h1, h2, k⟩ => by
    cases h2
    exact k _ (R.setDat h1) fun js hj => wipe_set σ (hj i (List.mem_singleton_self i))
theorem dgs_nil : DGs X [] (setAll []) [] := pgs_conseq pgs_nil fun v σ H Q ⟨E, B, F, ρ, ds, ρ', R, h1, h2, k⟩ => by
  cases ds with
  | nil =>
    cases h1
    cases h2
    exact ⟨rfl, k _ R fun _ _ => rfl⟩
  | cons d ds => cases h2
theorem dgs_cons (i : Nat) {x : Str} {es : List Expr} {is : List Nat} (hN : X.N.Nodup) (h : DGs X es (setAll is) is) (hi : X.N[i]? = some x := by rfl) (hx : Loc X.env.scope x := by first | exact Or.inl rfl | exact Or.inr rfl) (hf : X.fn x = true ∨ X.env.scope.names.lookup x = some .local := by first | exact .inl rfl | exact .inr rfl)
    (hs : (assignEach (.Name x pos :: es) X.env).map (·.2) = assign (.Name x pos) X.env :: (assignEach es X.env).map (·.2) := by rfl) : DGs X (.Name x pos :: es) (setAll (i :: is)) (i :: is) :=
  pgs_conseq (L2.pgs_cons (pg_name hN hi hx hf) h hs) fun v σ H Q ⟨E, B, F, ρ, ds, ρ', R, h1, h2, k⟩ => by
    cases ds with
    | nil => cases h2
    | cons d ds =>
      cases h1 with
      | cons a t =>
        refine ⟨_, _, rfl, E, B, F, _, ds, ρ', R.setDat a, t, h2, fun σ' R' hw => k σ' R' fun js hj => ?_⟩
        rw [hw js fun z hz => hj z (List.mem_cons_of_mem _ hz)]
        exact wipe_set σ (hj i (List.mem_cons_self ..))
theorem dg_tup {es : List Expr} {k : Nat} {is : List Nat} (hc : X.calm = true) (h : DGs X es (setAll is) is) (hn : (assignEach es X.env).length = is.length := by rfl) (hst : (assignEach es X.env).findIdx? (·.1) = none := by rfl) : DG X (.Tuple es k pos) (gT is) is :=
  pg_cons (pg_tup hc h hn hst) fun v σ H Q ⟨E, B, F, ρ, d, ρ', R, h1, h2, kq⟩ => by
    unfold gT at h2
    split at h2
    · obtain ⟨p, vs, rfl, hp, hv⟩ := Dp.tuple h1
      refine ⟨p, vs, rfl, sameT R.fh hp, ?_, E, B, F, ρ, _, ρ', R, hv, h2, kq⟩
      rw [DpAll.len hv, setAll_len h2]
    · cases h2
end
/-! ### what is walked -/
def ItOk (K : PySem.W.Frag) (F : Hp) (J : It) (ds : List D) : Prop := ∀ F' H', Same F F' → Same F' H' →
  (∀ i, ds.length ≤ i → J.stop i H') ∧ ∀ i d, ds[i]? = some d → J.go i H' ∧ ∀ x H'', J.yld i H' x H'' → ∃ F'', Ext F' H' F'' H'' ∧ Dp K F'' x d
def tI (K : PySem.W.Frag) (f : Rho → Option (List D)) : TI := fun σ H R => ∃ (E B F : Hp) (ρ : Rho) (ds : List D), SR K E B F H σ ρ ∧ f ρ = some ds ∧ ∀ J F' H', Ext F H F' H' → ItOk K F' J ds → R J H'
abbrev DI (X : Cx) (tg iter : Expr) (f : Rho → Option (List D)) : Prop := PI X tg iter (tI X.K f)
def iL (f : Rho → Option D) : Rho → Option (List D) := fun ρ => (f ρ).bind asL
def iT (f : Rho → Option D) : Rho → Option (List D) := fun ρ => (f ρ).bind asT
def chars (x : Str) : List D := x.cps.toList.map fun c => .str ⟨#[c]⟩
def asS : D → Option Str
  | .str x => some x
  | _ => none
def iS (f : Rho → Option D) : Rho → Option (List D) := fun ρ => ((f ρ).bind asS).map chars
def rangeD (lo : Int) (n : Nat) : List D := (List.range n).map fun (i : Nat) => .int (lo + (i : Int))
def iR1 (f : Rho → Option D) : Rho → Option (List D) := fun ρ => ((f ρ).bind asI).bind fun i => if -1000000 ≤ i ∧ i ≤ 1000000 then some (rangeD 0 i.toNat) else none
def iR2 (f g : Rho → Option D) : Rho → Option (List D) := fun ρ => ((f ρ).bind asI).bind fun i => ((g ρ).bind asI).bind fun j => if -1000000 ≤ i ∧ i ≤ 1000000 ∧ -1000000 ≤ j ∧ j ≤ 1000000 then some (rangeD i (j - i).toNat) else none
def enumD (xs : List D) : List D := (List.range xs.length).map fun (i : Nat) => .tuple [.int (i : Int), xs.getD i .none]
def iE (f : Rho → Option D) : Rho → Option (List D) := fun ρ => ((f ρ).bind asL).map enumD
section
variable {X : Cx} {tg e a b : Expr} {pos p : Pos} {f f' : Rho → Option D}
theorem pi_cons {it : Expr} {t t' : TI} (h : PI X tg it t) (k : ∀ σ H R, t' σ H R → t σ H R) : PI X tg it t' := ⟨fun pins s σ H R I q => h.run pins s σ H R I (k σ H R q)⟩
theorem itOk_list {K : PySem.W.Frag} {F : Hp} {p : Addr} {vs : List V} {ds : List D} (h : SqL K F p vs) (hv : DpAll K F vs ds) : ItOk K F (Itl K p) ds := fun F' H' s s' => by
  have hq := (s.trans s').seq h
  refine ⟨fun i hi => ⟨vs, hq, by rw [DpAll.len hv]; exact hi⟩, fun i d hd => ?_⟩
  have hl : i < vs.length := by rw [DpAll.len hv]; exact (List.getElem?_eq_some_iff.mp hd).1
  refine ⟨⟨vs, vs[i], hq, List.getElem?_eq_getElem hl⟩, fun x H'' y => ?_⟩
  obtain ⟨rfl, hx⟩ := y
  exact ⟨F', Ext.refl s', Dp.up s (DpAll.get hv (hx vs hq) hd)⟩
theorem itOk_tup {K : PySem.W.Frag} {F : Hp} {p : Addr} {vs : List V} {ds : List D} (h : SqT K F p vs) (hv : DpAll K F vs ds) : ItOk K F (Itt K p) ds := fun F' H' s s' => by
  have hq := sameT (s.trans s') h
  refine ⟨fun i hi => ⟨vs, hq, by rw [DpAll.len hv]; exact hi⟩, fun i d hd => ?_⟩
  have hl : i < vs.length := by rw [DpAll.len hv]; exact (List.getElem?_eq_some_iff.mp hd).1
  refine ⟨⟨vs, vs[i], hq, List.getElem?_eq_getElem hl⟩, fun x H'' y => ?_⟩
  obtain ⟨rfl, hx⟩ := y
  exact ⟨F', Ext.refl s', Dp.up s (DpAll.get hv (hx vs hq) hd)⟩
theorem itOk_range {K : PySem.W.Frag} {F : Hp} (lo : Int) (n : Nat) : ItOk K F (Itr lo n) (rangeD lo n) := fun F' H' s s' => by
  refine ⟨fun i hi => (show n ≤ i by simpa [rangeD] using hi), fun i d hd => ?_⟩
  unfold rangeD at hd
  rw [List.getElem?_map] at hd
  obtain ⟨j, h1, h2⟩ := Option.map_eq_some_iff.mp hd
  have hj := (List.getElem?_eq_some_iff.mp h1)
  obtain ⟨hlt, hj⟩ := hj
  rw [List.getElem_range] at hj
  subst hj
  refine ⟨(show i < n by simpa using hlt), fun x H'' y => ?_⟩
  obtain ⟨rfl, rfl⟩ := y
  subst h2
  exact ⟨F', Ext.refl s', .int _⟩
theorem itOk_str {K : PySem.W.Frag} {F : Hp} (x : Str) : ItOk K F (Its x) (chars x) := fun F' H' s s' => by
  refine ⟨fun i hi => (show x.cps.size ≤ i by simpa [chars] using hi), fun i d hd => ?_⟩
  unfold chars at hd
  rw [List.getElem?_map] at hd
  obtain ⟨c, h1, rfl⟩ := Option.map_eq_some_iff.mp hd
  have hc : x.cps[i]? = some c := by rw [← h1, Array.getElem?_toList]
  refine ⟨(Array.getElem?_eq_some_iff.mp hc).1, fun v H'' y => ?_⟩
  obtain ⟨rfl, c', hc', rfl⟩ := y
  rw [hc] at hc'
  cases hc'
  exact ⟨F', Ext.refl s', .str _⟩
theorem itOk_enum {K : PySem.W.Frag} {F : Hp} {p : Addr} {vs : List V} {ds : List D} (h : SqL K F p vs) (hv : DpAll K F vs ds) : ItOk K F (Ite K p) (enumD ds) := fun F' H' s s' => by
  have hq := (s.trans s').seq h
  have hlen := DpAll.len hv
  refine ⟨fun i hi => ⟨vs, hq, by rw [hlen]; simpa [enumD] using hi⟩, fun i d hd => ?_⟩
  unfold enumD at hd
  rw [List.getElem?_map] at hd
  obtain ⟨j, h1, h2⟩ := Option.map_eq_some_iff.mp hd
  obtain ⟨hlt, hj⟩ := List.getElem?_eq_some_iff.mp h1
  rw [List.getElem_range] at hj
  subst hj
  have hi : i < ds.length := by simpa using hlt
  have hl : i < vs.length := by rw [hlen]; exact hi
  refine ⟨⟨vs, vs[i], hq, List.getElem?_eq_getElem hl⟩, fun v H'' y => ?_⟩
  obtain ⟨T, x, rfl, nT, rfl, hx⟩ := y
  have ex := hx vs hq
  have eg : ds.getD i PyData.none = ds[i] := by rw [List.getD_eq_getElem?_getD, List.getElem?_eq_getElem hi] <;> rfl
  rw [eg] at h2
  subst h2
  have dx := DpAll.get hv ex (List.getElem?_eq_getElem hi)
  have sn := same_upd (o := .tup [.int (i : Int), x]) (none_of s' nT)
  exact ⟨_, Ext.new s' nT, .tup (SqT.of upd_same) (.cons (.int _) (.cons (Dp.up (s.trans sn) dx) .nil))⟩
theorem di_list (h : DE X e f) : DI X tg e (iL f) := pi_cons (pi_list h) fun σ H R ⟨E, B, F, ρ, ds, S, hd, k⟩ => by
  obtain ⟨d, h1, h2⟩ := bnd hd
  refine ⟨E, B, F, ρ, d, S, h1, fun v F1 H1 e1 q => ?_⟩
  cases d <;> simp [asL] at h2
  subst h2
  obtain ⟨p, vs, rfl, hp, hv⟩ := Dp.list q
  exact ⟨p, rfl, ⟨vs, e1.fh.seq hp⟩, k _ F1 H1 e1 (itOk_list hp hv)⟩
theorem di_tup (h : DE X e f) : DI X tg e (iT f) := pi_cons (pi_tup h) fun σ H R ⟨E, B, F, ρ, ds, S, hd, k⟩ => by
  obtain ⟨d, h1, h2⟩ := bnd hd
  refine ⟨E, B, F, ρ, d, S, h1, fun v F1 H1 e1 q => ?_⟩
  cases d <;> simp [asT] at h2
  subst h2
  obtain ⟨p, vs, rfl, hp, hv⟩ := Dp.tuple q
  exact ⟨p, rfl, ⟨vs, sameT e1.fh hp⟩, k _ F1 H1 e1 (itOk_tup hp hv)⟩
theorem di_str (h : DE X e f) : DI X tg e (iS f) := pi_cons (pi_str h) fun σ H R ⟨E, B, F, ρ, ds, S, hd, k⟩ => by
  obtain ⟨x, h1, rfl⟩ := Option.map_eq_some_iff.mp hd
  obtain ⟨d, h1, h2⟩ := bnd h1
  refine ⟨E, B, F, ρ, d, S, h1, fun v F1 H1 e1 q => ?_⟩
  cases d <;> simp [asS] at h2
  subst h2
  exact ⟨_, Dp.str' q, k _ F1 H1 e1 (itOk_str _)⟩
theorem di_range1 (hm : X.mg "range" = none) (ha : DR X a f) (hg : Gl X "range" := by rfl) (hs : starEach [a] X.env = [(false, eval a X.env)] := by rfl) (hs' : starEach [a] X.env = (false, eval a X.env) :: starEach [] X.env := by rfl) : DI X tg (.Call (.Name "range" p) [a] [] pos) (iR1 f) :=
  pi_cons (pi_range1 hg hm (pa_cons ha pa_nil hs') hs) fun σ H R ⟨E, B, F, ρ, ds, S, hd, k⟩ => by
    obtain ⟨i, h1, hd⟩ := bnd hd
    obtain ⟨d, h1, h2⟩ := bnd h1
    split at hd
    · rename_i hc
      cases hd
      refine ⟨E, B, F, ρ, d, S, h1, fun v F1 H1 e1 q => ?_⟩
      cases d <;> simp [asI] at h2
      subst h2
      rw [q.int]
      exact ⟨_, rfl, by omega, by omega, k _ F1 H1 e1 (itOk_range 0 _)⟩
    · cases hd
theorem di_range2 (hm : X.mg "range" = none) (ha : DR X a f) (hb : DR X b f') (hg : Gl X "range" := by rfl) (hs : starEach [a, b] X.env = [(false, eval a X.env), (false, eval b X.env)] := by rfl) (hs2 : starEach [b] X.env = [(false, eval b X.env)] := by rfl)
    (hs' : starEach [a, b] X.env = (false, eval a X.env) :: starEach [b] X.env := by rfl) (hs2' : starEach [b] X.env = (false, eval b X.env) :: starEach [] X.env := by rfl) : DI X tg (.Call (.Name "range" p) [a, b] [] pos) (iR2 f f') :=
  pi_cons (pi_range2 hg hm (pa_cons ha (pa_cons hb pa_nil hs2') hs') hs hs2) fun σ H R ⟨E, B, F, ρ, ds, S, hd, k⟩ => by
    obtain ⟨i, h1, hd⟩ := bnd hd
    obtain ⟨d, h1, h2⟩ := bnd h1
    obtain ⟨j, h3, hd⟩ := bnd hd
    obtain ⟨d', h3, h4⟩ := bnd h3
    split at hd
    · rename_i hc
      cases hd
      refine ⟨E, B, F, ρ, d, S, h1, fun v F1 H1 e1 q => ⟨E, B, F1, ρ, d', S.up e1, h3, fun v' F2 H2 e2 q' => ?_⟩⟩
      cases d <;> simp [asI] at h2
      cases d' <;> simp [asI] at h4
      subst h2
      subst h4
      rw [q.int, q'.int]
      exact ⟨_, _, rfl, ⟨by omega, by omega, by omega, by omega⟩, k _ F2 H2 (e1.trans e2) (itOk_range _ _)⟩
    · cases hd
theorem di_enum {elts : List Expr} {kk : Nat} {tpos : Pos} (hm : X.mg "enumerate" = none) (ha : DE X a f) (hg : Gl X "enumerate" := by rfl) (hs : starEach [a] X.env = [(false, eval a X.env)] := by rfl) (hs' : starEach [a] X.env = (false, eval a X.env) :: starEach [] X.env := by rfl) : DI X (.Tuple elts kk tpos) (.Call (.Name "enumerate" p) [a] [] pos) (iE f) :=
  pi_cons (pi_enum hg hm (pa_cons ha pa_nil hs') hs) fun σ H R ⟨E, B, F, ρ, ds, S, hd, k⟩ => by
    obtain ⟨xs, h1, rfl⟩ := Option.map_eq_some_iff.mp hd
    obtain ⟨d, h1, h2⟩ := bnd h1
    refine ⟨E, B, F, ρ, d, S, h1, fun v F1 H1 e1 q => ?_⟩
    cases d <;> simp [asL] at h2
    subst h2
    obtain ⟨p, vs, rfl, hp, hv⟩ := Dp.list q
    exact ⟨p, vs, rfl, e1.fh.seq hp, k _ F1 H1 e1 (itOk_enum hp hv)⟩
end
/-! ### list comprehensions -/
def lcGo (g : D → Rho → Option Rho) (t : Rho → Option Bool) (e : Rho → Option D) (ρ : Rho) : List D → Option (List D)
  | [] => some []
  | d :: ds => (g d ρ).bind fun ρ1 => (t ρ1).bind fun b => if b = true then (e ρ1).bind fun y => (lcGo g t e ρ ds).map (y :: ·) else lcGo g t e ρ ds
def fLc (f : Rho → Option (List D)) (g : D → Rho → Option Rho) (t : Rho → Option Bool) (e : Rho → Option D) (js : List Nat) : Rho → Option (List D) := fun ρ => (f ρ).bind fun ds => (lim ds.length ()).bind fun _ => lcGo g t e (wipeR ρ js) ds
def tYesF : Rho → Option Bool := fun _ => some true
section
variable {X : Cx}
theorem pts_cons {es : List Expr} {t t' : TT} (h : PTs X es t) (k : ∀ σ H Q, t' σ H Q → t σ H Q) : PTs X es t' := ⟨fun pins s σ H Q I q => h.run pins s σ H Q I (k σ H Q q)⟩
abbrev DTs (X : Cx) (es : List Expr) (t : Rho → Option Bool) : Prop := PTs X es (tTs X.K t)
theorem dts_nil : DTs X [] tYesF := pts_cons pts_nil fun σ H Q ⟨E, B, F, ρ, b, R, h, k⟩ => by
  cases h
  exact k F H (Ext.refl R.fh)
theorem dts_one {c : Expr} {t : Rho → Option Bool} (h : DT X c t) : DTs X [c] t := pts_one h
theorem lc_read {K : PySem.W.Frag} {f : Rho → Option (List D)} {g : D → Rho → Option Rho} {t : Rho → Option Bool} {e : Rho → Option D} {js is : List Nat} {σ : St} {H : Hp} {Q : VK} (hj : ∀ i ∈ is, i ∈ js) (h : tF K (fLc f g t e js) σ H Q) :
    tLc (tI K f) (tG K g is) (tTs K t) (tD K e) js σ H Q := by
  obtain ⟨E, B, F, ρ, xs, R, hd, k⟩ := h
  obtain ⟨ds, h1, hd⟩ := bnd hd
  obtain ⟨_, hl, hgo⟩ := bnd hd
  obtain ⟨hl, _⟩ := lim_some hl
  refine ⟨E, B, F, ρ, ds, R, h1, fun J F1 H1 e1 ok L nL => ?_⟩
  refine ⟨fun i m H => m = ds.length - i ∧ i ≤ ds.length ∧ ∃ (F' : Hp) (vs : List V) (acc rest : List D), Ext F1 H1 F' H ∧ H L = some (.lst vs) ∧ F' L = none ∧ DpAll K F' vs acc ∧ acc.length ≤ i ∧ lcGo g t e (wipeR ρ js) (ds.drop i) = some rest ∧ acc ++ rest = xs,
    ⟨ds.length, by simp, Nat.zero_le _, F1, [], [], xs, Ext.junk e1.fh nL, upd_same, none_of e1.fh nL, .nil, Nat.le_refl _, by simpa using hgo, rfl⟩, ?_⟩
  rintro i m H2 ⟨rfl, hi, F2, vs, acc, rest, e2, hL, nF, hv, hacc, hrest, hx⟩
  obtain ⟨stop, turn⟩ := ok F2 H2 e2.ff e2.fh
  by_cases hlt : i < ds.length
  · have hdi : ds[i]? = some ds[i] := List.getElem?_eq_getElem hlt
    obtain ⟨go, yld⟩ := turn i _ hdi
    refine .inr ⟨go, fun H => ∃ (F' : Hp) (vs : List V) (acc rest : List D), Ext F1 H1 F' H ∧ H L = some (.lst vs) ∧ F' L = none ∧ DpAll K F' vs acc ∧ acc.length ≤ i + 1 ∧ lcGo g t e (wipeR ρ js) (ds.drop (i + 1)) = some rest ∧ acc ++ rest = xs,
      fun H' hN => ⟨ds.length - (i + 1), by omega, rfl, hlt, hN⟩, fun x H3 hy => ?_⟩
    obtain ⟨F3, e3, dx⟩ := yld x H3 hy
    rw [List.drop_eq_getElem_cons hlt] at hrest
    obtain ⟨ρ1, g1, hrest⟩ := bnd (show (g ds[i] (wipeR ρ js)).bind _ = some rest from hrest)
    obtain ⟨b, t1, hrest⟩ := bnd hrest
    have e123 := (e1.trans e2).trans e3
    have R3 := (R.up e123).wipe js
    refine ⟨E, B, F3, wipeR ρ js, ds[i], ρ1, R3, dx, g1, fun σ' R' hw => ⟨?_, E, B, F3, ρ1, b, R', t1, fun F4 H4 e4 => ?_⟩⟩
    · rw [hw js hj, wipe_wipe]
    · have hL4 : H4 L = some (.lst vs) := e4.hh _ _ (e3.hh _ _ hL)
      have nF4 : F4 L = none := e4.out L _ (e3.hh _ _ hL) (e3.out L _ hL nF)
      cases b with
      | false =>
        refine iteF ⟨F4, vs, acc, rest, (e2.trans e3).trans e4, hL4, nF4, DpAll.up (e3.ff.trans e4.ff) hv, by omega, by simpa using hrest, hx⟩
      | true =>
        refine iteT ?_
        rw [if_pos rfl] at hrest
        obtain ⟨y, y1, hrest⟩ := bnd hrest
        obtain ⟨rest', r1, rfl⟩ := Option.map_eq_some_iff.mp hrest
        refine ⟨E, B, F4, ρ1, y, R'.up e4, y1, fun w F5 H5 e5 dy => ?_⟩
        have hL5 : H5 L = some (.lst vs) := e5.hh _ _ hL4
        have nF5 : F5 L = none := e5.out L _ hL4 nF4
        have e25 := ((e2.trans e3).trans e4).trans e5
        refine ⟨vs, hL5, line_lt (by rw [DpAll.len hv]; omega), F5, vs ++ [w], acc ++ [y], rest', ⟨e25.ff, fun q u z => ?_, fun q u z => ?_, e25.out⟩, upd_same, nF5, DpAll.append (DpAll.up ((e3.ff.trans e4.ff).trans e5.ff) hv) (.cons dy .nil), by rw [List.length_append]; simpa using hacc, r1, by rw [List.append_assoc]; exact hx⟩
        · rw [upd_ne (ne_of_none z nL)]
          exact e25.hh q u z
        · rw [upd_ne (ne_of_none z nF5)]
          exact e25.fh q u z
  · have ei : i = ds.length := by omega
    subst ei
    refine .inl ⟨stop _ (Nat.le_refl _), ?_⟩
    rw [List.drop_length] at hrest
    cases hrest
    rw [List.append_nil] at hx
    subst hx
    exact k L vs F2 H2 (e1.trans e2) (e1.hh.free nL) nF hL hv
theorem df_lc {elt tg iter : Expr} {ifs : List Expr} {scope : Scope} {own : List (Str × Nat)} {pos : Pos} {f : Rho → Option (List D)} {g : D → Rho → Option Rho} {t : Rho → Option Bool} {e : Rho → Option D} {is : List Nat} (hc : X.calm = true) (hN : X.N.Nodup) (hi : DI X tg iter f) (ok : BlkOk X.N X.env.scope scope own) (hj : ∀ i ∈ is, i ∈ own.map (·.2))
    (hg : ∀ (s : Shared) (H : Hp) (C : Addr) (cl : List (Str × Addr)) (fp : List Addr), PG (X.blk s H scope (compEnvC scope cl C X.env) fp) tg (tG X.K g is)) (ht : ∀ (s : Shared) (H : Hp) (C : Addr) (cl : List (Str × Addr)) (fp : List Addr), PTs (X.blk s H scope (compEnvC scope cl C X.env) fp) ifs (tTs X.K t))
    (he : ∀ (s : Shared) (H : Hp) (C : Addr) (cl : List (Str × Addr)) (fp : List Addr), PE (X.blk s H scope (compEnvC scope cl C X.env) fp) elt (tD X.K e)) (hs : ∀ x, foldedSetIterable iter X.env x = pure x := by intro _; rfl) :
    DF X (.ListComp elt [⟨tg, iter, ifs, 0⟩] scope pos) (fLc f g t e (own.map (·.2))) :=
  pe_cons (pe_lc hc hN hi ok hg ht he hs) fun σ H Q h => lc_read hj h
end
/-! ### statements -/
inductive Out where
  | nx (ρ : Rho)
  | rt (d : D)
def OutOk (K : PySem.W.Frag) (E B : Hp) (Z : Ends) : Out → Prop
  | .nx ρ => ∀ σ F H, SR K E B F H σ ρ → Z.nx σ H
  | .rt d => ∀ v F H, Ext E B F H → Dp K F v d → Z.rt v H
def tS (K : PySem.W.Frag) (g : Rho → Option Out) : TS := fun Z σ H => ∃ (E B F : Hp) (ρ : Rho) (o : Out), SR K E B F H σ ρ ∧ g ρ = some o ∧ OutOk K E B Z o
abbrev DS (X : Cx) (st : Stmt) (g : Rho → Option Out) : Prop := PS X st (tS X.K g)
abbrev DB (X : Cx) (st : List Stmt) (g : Rho → Option Out) : Prop := PSs X st (tS X.K g)
def sSeq (g h : Rho → Option Out) : Rho → Option Out := fun ρ => (g ρ).bind fun o => match o with
  | .nx ρ' => h ρ'
  | .rt d => some (.rt d)
def sNx : Rho → Option Out := fun ρ => some (.nx ρ)
def sIf (t : Rho → Option Bool) (g h : Rho → Option Out) : Rho → Option Out := fun ρ => (t ρ).bind fun b => if b = true then g ρ else h ρ
def sRet (f : Rho → Option D) : Rho → Option Out := fun ρ => (f ρ).map .rt
def sSet (i : Nat) (f : Rho → Option D) : Rho → Option Out := fun ρ => (f ρ).map fun d => .nx (ρ.set i (some (.dat d)))
def sSetF (i : Nat) (f : Rho → Option (List D)) : Rho → Option Out := fun ρ => (f ρ).map fun xs => .nx (ρ.set i (some (.own xs)))
def sAsg (f : Rho → Option D) (g : D → Rho → Option Rho) : Rho → Option Out := fun ρ => (f ρ).bind fun d => (g d ρ).map .nx
def loopD (g : D → Rho → Option Rho) (b : Rho → Option Out) : List D → Rho → Option Out
  | [], ρ => some (.nx ρ)
  | d :: ds, ρ => (g d ρ).bind fun ρ1 => (b ρ1).bind fun o => match o with
    | .nx ρ2 => loopD g b ds ρ2
    | .rt r => some (.rt r)
def sFor (f : Rho → Option (List D)) (g : D → Rho → Option Rho) (b : Rho → Option Out) : Rho → Option Out := fun ρ => (f ρ).bind fun ds => loopD g b ds ρ
def whileD (c : Rho → Option Bool) (b : Rho → Option Out) : Nat → Rho → Option Out
  | 0, _ => none
  | n + 1, ρ => (c ρ).bind fun t => if t = true then (b ρ).bind fun o => match o with
    | .nx ρ' => whileD c b n ρ'
    | .rt d => some (.rt d)
    else some (.nx ρ)
def ownAt (ρ : Rho) (i : Nat) : Option (List D) := match ρ[i]? with
  | some (some (.own xs)) => some xs
  | _ => none
def dicAt (ρ : Rho) (i : Nat) : Option (List (Int × D)) := match ρ[i]? with
  | some (some (.dic xs)) => some xs
  | _ => none
theorem ownAt_some {ρ : Rho} {i : Nat} {xs : List D} (h : ownAt ρ i = some xs) : ρ[i]? = some (some (.own xs)) := by
  unfold ownAt at h
  split at h
  · rename_i e
    cases h
    exact e
  · cases h
theorem dicAt_some {ρ : Rho} {i : Nat} {xs : List (Int × D)} (h : dicAt ρ i = some xs) : ρ[i]? = some (some (.dic xs)) := by
  unfold dicAt at h
  split at h
  · rename_i e
    cases h
    exact e
  · cases h
def sApp (i : Nat) (f : Rho → Option D) : Rho → Option Out := fun ρ => (ownAt ρ i).bind fun xs => (f ρ).bind fun d => lim xs.length (.nx (ρ.set i (some (.own (xs ++ [d])))))
def sExt (i : Nat) (f : Rho → Option (List D)) : Rho → Option Out := fun ρ => (ownAt ρ i).bind fun xs => (f ρ).bind fun ds => lim (xs.length + ds.length) (.nx (ρ.set i (some (.own (xs ++ ds)))))
def sIns (i : Nat) (f g : Rho → Option D) : Rho → Option Out := fun ρ => (ownAt ρ i).bind fun xs => ((f ρ).bind asI).bind fun k => (g ρ).bind fun d => if 0 ≤ k ∧ k ≤ 100000 ∧ xs.length ≤ 100000 then some (.nx (ρ.set i (some (.own (xs.take k.toNat ++ [d] ++ xs.drop k.toNat))))) else none
def putIx (i : Nat) (f : Rho → Option D) (d : D) : Rho → Option Rho := fun ρ => (ownAt ρ i).bind fun xs => ((f ρ).bind asI).bind fun k => (ixN xs.length k).map fun j => ρ.set i (some (.own (xs.set j d)))
def sSetIx (i : Nat) (fe fi : Rho → Option D) : Rho → Option Out := fun ρ => (fe ρ).bind fun d => (putIx i fi d ρ).map .nx
def sSwap (i : Nat) (fa fb f1 f2 : Rho → Option D) : Rho → Option Out := fun ρ => (f1 ρ).bind fun a => (f2 ρ).bind fun b => (putIx i fa a ρ).bind fun ρ1 => (putIx i fb b ρ1).map .nx
def putI (kvs : List (Int × D)) (k : Int) (d : D) : List (Int × D) := if (kvs.any fun kv => decide (kv.1 = k)) = true then kvs.map (fun kv => if kv.1 = k then (kv.1, d) else kv) else kvs ++ [(k, d)]
def valI (kvs : List (Int × D)) (k : Int) : Option D := (kvs.find? fun kv => decide (kv.1 = k)).map (·.2)
def sPut (i : Nat) (fe fk : Rho → Option D) : Rho → Option Out := fun ρ => (fe ρ).bind fun d => (dicAt ρ i).bind fun kvs => ((fk ρ).bind asI).bind fun k => lim kvs.length (.nx (ρ.set i (some (.dic (putI kvs k d)))))
def fGet (i : Nat) (fk : Rho → Option D) : Rho → Option D := fun ρ => (dicAt ρ i).bind fun kvs => ((fk ρ).bind asI).bind fun k => valI kvs k
theorem KvR.cases {K : PySem.W.Frag} {F : Hp} {u : Key × V} {us : List (Key × V)} {kvs : List (Int × D)} (h : KvR K F (u :: us) kvs) : ∃ i d r, kvs = (i, d) :: r ∧ u.1 = Sum.inl i ∧ Dp K F u.2 d ∧ KvR K F us r := by
  obtain ⟨h1, h2⟩ := h
  cases kvs with
  | nil => cases h1
  | cons q r =>
    rw [List.map_cons, List.map_cons] at h1 h2
    obtain ⟨a1, a2⟩ := List.cons.inj h1
    cases h2 with
    | cons b1 b2 => exact ⟨q.1, q.2, r, rfl, a1, b1, a2, b2⟩
theorem KvR.nil' {K : PySem.W.Frag} {F : Hp} {kvs : List (Int × D)} (h : KvR K F [] kvs) : kvs = [] := by
  obtain ⟨h1, _⟩ := h
  cases kvs with
  | nil => rfl
  | cons q r => cases h1
theorem KvR.mk' {K : PySem.W.Frag} {F : Hp} {u : Key × V} {us : List (Key × V)} {i : Int} {d : D} {r : List (Int × D)} (h1 : u.1 = Sum.inl i) (h2 : Dp K F u.2 d) (h3 : KvR K F us r) : KvR K F (u :: us) ((i, d) :: r) := by
  refine ⟨?_, ?_⟩
  · rw [List.map_cons, List.map_cons, h3.1, h1]
  · rw [List.map_cons, List.map_cons]
    exact .cons h2 h3.2
theorem KvR.len {K : PySem.W.Frag} {F : Hp} {us : List (Key × V)} {kvs : List (Int × D)} (h : KvR K F us kvs) : us.length = kvs.length := by
  have := congrArg List.length h.1
  simpa using this
theorem KvR.val {K : PySem.W.Frag} {F : Hp} {k : Int} {d : D} : ∀ {us : List (Key × V)} {kvs : List (Int × D)}, KvR K F us kvs → valI kvs k = some d → ∃ v, valV us (Sum.inl k : Key) = some v ∧ Dp K F v d
  | [], kvs, h, e => by
    rw [KvR.nil' h] at e
    cases e
  | u :: us, kvs, h, e => by
    obtain ⟨i, d', r, rfl, h1, h2, h3⟩ := h.cases
    by_cases hk : i = k
    · subst hk
      have e1 : valI ((i, d') :: r) i = some d' := by simp [valI, List.find?_cons]
      rw [e1] at e
      cases e
      exact ⟨u.2, valV_pos h1, h2⟩
    · have e1 : valI ((i, d') :: r) k = valI r k := by simp [valI, List.find?_cons, hk]
      rw [e1] at e
      obtain ⟨v, q1, q2⟩ := KvR.val h3 e
      exact ⟨v, by rw [valV_neg (fun z => hk (Sum.inl.inj (h1.symm.trans z)))]; exact q1, q2⟩
theorem KvR.any {K : PySem.W.Frag} {F : Hp} {k : Int} : ∀ {us : List (Key × V)} {kvs : List (Int × D)}, KvR K F us kvs → (us.any fun kv => decide (kv.1 = (Sum.inl k : Key))) = kvs.any fun kv => decide (kv.1 = k)
  | [], kvs, h => by rw [KvR.nil' h]; rfl
  | u :: us, kvs, h => by
    obtain ⟨i, d', r, rfl, h1, h2, h3⟩ := h.cases
    rw [List.any_cons, List.any_cons, KvR.any h3, h1]
    congr 1
    by_cases hk : i = k
    · subst hk; simp
    · simp [hk]
theorem KvR.map {K : PySem.W.Frag} {F : Hp} {k : Int} {v : V} {d : D} (hd : Dp K F v d) : ∀ {us : List (Key × V)} {kvs : List (Int × D)}, KvR K F us kvs → KvR K F (us.map fun kv => if kv.1 = (Sum.inl k : Key) then (kv.1, v) else kv) (kvs.map fun kv => if kv.1 = k then (kv.1, d) else kv)
  | [], kvs, h => by rw [KvR.nil' h]; exact ⟨rfl, .nil⟩
  | u :: us, kvs, h => by
    obtain ⟨i, d', r, rfl, h1, h2, h3⟩ := h.cases
    rw [List.map_cons, List.map_cons]
    have ih := KvR.map (k := k) hd h3
    by_cases hk : i = k
    · subst hk
      rw [if_pos h1, if_pos rfl]
      exact KvR.mk' h1 hd ih
    · rw [if_neg (fun z => hk (Sum.inl.inj (h1.symm.trans z))), if_neg hk]
      exact KvR.mk' h1 h2 ih
theorem KvR.put {K : PySem.W.Frag} {F : Hp} {k : Int} {v : V} {d : D} {us : List (Key × V)} {kvs : List (Int × D)} (h : KvR K F us kvs) (hd : Dp K F v d) : KvR K F (putK us (Sum.inl k) v) (putI kvs k d) := by
  unfold putK putI
  rw [h.any]
  split
  · exact h.map hd
  · refine ⟨?_, ?_⟩
    · rw [List.map_append, List.map_append, h.1]
      rfl
    · rw [List.map_append, List.map_append]
      exact DpAll.append h.2 (.cons hd .nil)
/-- at a loop's start: what is frozen now is the loop's base -/
theorem SR.rebase {K : PySem.W.Frag} {E B F H : Hp} {σ : St} {ρ : Rho} (R : SR K E B F H σ ρ) : ∃ B' : Hp, SR K F B' F H σ ρ ∧ (∀ F' H', Ext F B' F' H' → Ext E B F' H') ∧ ∀ F' H' σ' ρ', SR K F B' F' H' σ' ρ' → SR K E B F' H' σ' ρ' := by
  have key : ∃ B' : Hp, (∀ p, F p = none → B p = none → B' p = none) ∧ (∀ p, ¬ (F p = none ∧ B p = none) → B' p = H p) := by
    refine ⟨fun p => if (F p).isNone && (B p).isNone then none else H p, fun p h1 h2 => ?_, fun p h => ?_⟩
    · simp [h1, h2]
    · by_cases h1 : F p = none
      · by_cases h2 : B p = none
        · exact absurd ⟨h1, h2⟩ h
        · have : (B p).isNone = false := by
            cases e : B p with
            | none => exact absurd e h2
            | some o => rfl
          simp [this]
      · have : (F p).isNone = false := by
          cases e : F p with
          | none => exact absurd e h1
          | some o => rfl
        simp [this]
  obtain ⟨B', b1, b2⟩ := key
  have bH : Same B' H := fun p o e => by
    by_cases h : F p = none ∧ B p = none
    · rw [b1 p h.1 h.2] at e
      cases e
    · rw [b2 p h] at e
      exact e
  have BB : Same B B' := fun p o e => by
    rw [b2 p fun z => by rw [z.2] at e; cases e]
    exact R.ext.hh p o e
  have cv : ∀ F' H', Ext F B' F' H' → Ext E B F' H' := fun F' H' e => ⟨R.ext.ff.trans e.ff, BB.trans e.hh, e.fh, fun p o q n => e.out p o (BB p o q) (R.ext.out p o q n)⟩
  refine ⟨B', ⟨R.len, ⟨Same.refl _, bH, R.fh, fun _ _ _ q => q⟩, fun i c h => ?_, R.sep⟩, cv, fun F' H' σ' ρ' S => ⟨S.len, cv F' H' S.ext, fun i c h => ?_, S.sep⟩⟩
  · obtain ⟨v, h1, h2⟩ := R.cel i c h
    refine ⟨v, h1, ?_⟩
    cases c with
    | dat d => exact h2
    | own xs =>
      obtain ⟨p, vs, e1, b, n, q, a⟩ := h2
      exact ⟨p, vs, e1, b1 p n b, n, q, a⟩
    | dic xs =>
      obtain ⟨p, vs, e1, b, n, q, a⟩ := h2
      exact ⟨p, vs, e1, b1 p n b, n, q, a⟩
  · obtain ⟨v, h1, h2⟩ := S.cel i c h
    refine ⟨v, h1, ?_⟩
    cases c with
    | dat d => exact h2
    | own xs =>
      obtain ⟨p, vs, e1, b, n, q, a⟩ := h2
      exact ⟨p, vs, e1, BB.free b, n, q, a⟩
    | dic xs =>
      obtain ⟨p, vs, e1, b, n, q, a⟩ := h2
      exact ⟨p, vs, e1, BB.free b, n, q, a⟩
section
variable {X : Cx} {st : Stmt} {rest : List Stmt} {pos : Pos} {e : Expr} {f : Rho → Option D} {g h : Rho → Option Out}
theorem ps_cons {t t' : TS} (h : PS X st t) (k : ∀ Z σ H, t' Z σ H → t Z σ H) : PS X st t' := ⟨fun pins s σ H Z I q => h.run pins s σ H Z I (k Z σ H q)⟩
theorem pss_conseq {sts : List Stmt} {t t' : TS} (h : PSs X sts t) (k : ∀ Z σ H, t' Z σ H → t Z σ H) : PSs X sts t' := ⟨fun pins s σ H Z I q => h.run pins s σ H Z I (k Z σ H q)⟩
theorem db_nil : DB X [] sNx := pss_conseq pss_nil fun Z σ H ⟨E, B, F, ρ, o, R, h, k⟩ => by
  cases h
  exact k σ F H R
theorem db_one (h : DS X st g) : DB X [st] g := pss_one h
theorem db_cons (h1 : DS X st g) (h2 : DB X rest h) : DB X (st :: rest) (sSeq g h) := pss_conseq (pss_cons h1 h2) fun Z σ H ⟨E, B, F, ρ, o, R, ho, k⟩ => by
  obtain ⟨o1, e1, e2⟩ := bnd ho
  refine ⟨E, B, F, ρ, o1, R, e1, ?_⟩
  cases o1 with
  | nx ρ' => exact fun σ' F' H' R' => ⟨E, B, F', ρ', o, R', e2, k⟩
  | rt d =>
    cases e2
    exact k
theorem ds_no : DS X st fNo := ⟨fun _ _ _ _ _ _ ⟨_, _, _, _, _, _, h, _⟩ => by cases h⟩
theorem db_no {sts : List Stmt} : DB X sts fNo := ⟨fun _ _ _ _ _ _ ⟨_, _, _, _, _, _, h, _⟩ => by cases h⟩
theorem ds_if {c : Expr} {a b : List Stmt} {t : Rho → Option Bool} (hc : DT X c t) (ha : DB X a g) (hb : DB X b h) : DS X (.If c a b pos) (sIf t g h) := ps_cons (ps_if hc ha hb) fun Z σ H ⟨E, B, F, ρ, o, R, ho, k⟩ => by
  obtain ⟨bb, e1, e2⟩ := bnd ho
  refine ⟨E, B, F, ρ, bb, R, e1, fun F1 H1 x => ?_⟩
  cases bb with
  | true => exact iteT ⟨E, B, F1, ρ, o, R.up x, e2, k⟩
  | false => exact iteF ⟨E, B, F1, ρ, o, R.up x, e2, k⟩
theorem ds_ret (he : DE X e f) : DS X (.Return (some e) pos) (sRet f) := ps_cons (ps_ret he) fun Z σ H ⟨E, B, F, ρ, o, R, ho, k⟩ => by
  obtain ⟨d, e1, rfl⟩ := Option.map_eq_some_iff.mp ho
  exact ⟨E, B, F, ρ, d, R, e1, fun v F' H' x q => k v F' H' (R.ext.trans x) q⟩
/-- return xs, xs a list of the def's own -/
theorem ds_retV (i : Nat) {x : Str} {p2 : Pos} (hN : X.N[i]? = some x := by rfl) (hv : Vis X.env.scope x := by first | exact Or.inl rfl | exact Or.inr (Or.inl rfl) | exact Or.inr (Or.inr rfl)) (hd : (x == ("__debug__" : Str)) = false := by decide)
    (hcd : (x == ("__classdict__" : Str)) = false := by decide) : DS X (.Return (some (.Name x p2)) pos) (sRet (fR i)) := ps_cons (ps_ret (pe_var hN hv hd hcd)) fun Z σ H ⟨E, B, F, ρ, o, R, ho, k⟩ => by
  obtain ⟨d, e1, rfl⟩ := Option.map_eq_some_iff.mp ho
  rcases fR_some e1 with h0 | ⟨xs, rfl, h0⟩
  · obtain ⟨v, h1, h2⟩ := R.dat h0
    exact ⟨v, h1, k v F H R.ext h2⟩
  · obtain ⟨v, h1, p, vs, rfl, nb, nf, q, ha⟩ := R.cel i _ h0
    exact ⟨_, h1, k _ _ H (R.ext.freeze nb nf q) (.lst (SqL.of upd_same) (DpAll.up (same_upd nf) ha))⟩
/-! stores -/
theorem SR.setNew {K : PySem.W.Frag} {E B F H F' H' : Hp} {σ : St} {ρ : Rho} {p : Addr} {i : Nat} {c : Cell} (R : SR K E B F H σ ρ) (x : Ext F H F' H') (n : H p = none) (hc : CellRep K B F' H' (.ref p) c) : SR K E B F' H' (σ.set i (some (.ref p))) (ρ.set i (some c)) :=
  (R.up x).set hc fun _ j c' q jn hj ho hs e => by
    cases e
    obtain ⟨v, h1, h2⟩ := R.cel j c' hj
    rw [hs] at h1
    cases h1
    obtain ⟨p', u, e', _, _, hp⟩ := h2.at ho
    cases e'
    rw [n] at hp
    cases hp
theorem ds_set (i : Nat) {x : Str} {pos' : Pos} (hN : X.N.Nodup) (he : DE X e f) (hi : X.N[i]? = some x := by rfl) (hx : Loc X.env.scope x := by first | exact Or.inl rfl | exact Or.inr rfl) (hs : swapsWith e (some (.Name x pos')) pos.line X.env = pure false := by rfl) (hf : X.fn x = true ∨ X.env.scope.names.lookup x = some .local := by first | exact .inl rfl | exact .inr rfl) :
    DS X (.Assign [.Name x pos'] e pos) (sSet i f) := ps_cons (ps_set hN hi hx he hs hf) fun Z σ H ⟨E, B, F, ρ, o, R, ho, k⟩ => by
  obtain ⟨d, e1, rfl⟩ := Option.map_eq_some_iff.mp ho
  exact ⟨E, B, F, ρ, d, R, e1, fun v F' H' x q => k _ F' H' ((R.up x).setDat q)⟩
theorem ds_setF (i : Nat) {x : Str} {pos' : Pos} {f : Rho → Option (List D)} (hN : X.N.Nodup) (he : DF X e f) (hi : X.N[i]? = some x := by rfl) (hx : Loc X.env.scope x := by first | exact Or.inl rfl | exact Or.inr rfl) (hs : swapsWith e (some (.Name x pos')) pos.line X.env = pure false := by rfl) (hf : X.fn x = true ∨ X.env.scope.names.lookup x = some .local := by first | exact .inl rfl | exact .inr rfl) :
    DS X (.Assign [.Name x pos'] e pos) (sSetF i f) := ps_cons (ps_set hN hi hx he hs hf) fun Z σ H ⟨E, B, F, ρ, o, R, ho, k⟩ => by
  obtain ⟨d, e1, rfl⟩ := Option.map_eq_some_iff.mp ho
  exact ⟨E, B, F, ρ, d, R, e1, fun p vs F' H' x n nf q ha => k _ F' H' (R.setNew x n ⟨p, vs, rfl, R.ext.hh.free n, nf, q, ha⟩)⟩
theorem ds_setLc (i : Nat) {y : Str} {py : Pos} {elt tg iter : Expr} {ifs : List Expr} {scope : Scope} {own : List (Str × Nat)} {spos : Pos} {f : Rho → Option (List D)} {g : D → Rho → Option Rho} {t : Rho → Option Bool} {e : Rho → Option D} {is : List Nat} (hc : X.calm = true) (hN : X.N.Nodup)
    (hsw : swapsWith (.ListComp elt [⟨tg, iter, ifs, 0⟩] scope pos) (some (.Name y py)) spos.line X.env = pure true) (hi : DI X tg iter f) (ok : BlkOk X.N X.env.scope scope own) (hj : ∀ i ∈ is, i ∈ own.map (·.2))
    (hg : ∀ (s : Shared) (H : Hp) (C : Addr) (cl : List (Str × Addr)) (fp : List Addr), PG (X.blk s H scope (compEnvC scope cl C X.env) fp) tg (tG X.K g is)) (ht : ∀ (s : Shared) (H : Hp) (C : Addr) (cl : List (Str × Addr)) (fp : List Addr), PTs (X.blk s H scope (compEnvC scope cl C X.env) fp) ifs (tTs X.K t))
    (he : ∀ (s : Shared) (H : Hp) (C : Addr) (cl : List (Str × Addr)) (fp : List Addr), PE (X.blk s H scope (compEnvC scope cl C X.env) fp) elt (tD X.K e)) (hy : X.N[i]? = some y := by rfl) (hyl : X.env.scope.names.lookup y = some .local := by rfl) (hs : ∀ x, foldedSetIterable iter X.env x = pure x := by intro _; rfl) :
    DS X (.Assign [.Name y py] (.ListComp elt [⟨tg, iter, ifs, 0⟩] scope pos) spos) (sSet i (fL (fLc f g t e (own.map (·.2))))) := ps_cons (ps_setLc hc hN hy hyl hsw hi ok hg ht he hs) fun Z σ H ⟨E, B, F, ρ, o, R, ho, k⟩ => by
  obtain ⟨d, e1, rfl⟩ := Option.map_eq_some_iff.mp ho
  obtain ⟨xs, e2, rfl⟩ := Option.map_eq_some_iff.mp e1
  refine lc_read (K := X.K) hj ⟨E, B, F, ρ, xs, R, e2, fun p vs F' H' x n nf q ha => ?_⟩
  exact k _ _ H' ((R.up (x.freeze n nf q)).setDat (.lst (SqL.of upd_same) (DpAll.up (same_upd nf) ha)))
theorem ds_asg {tg : Expr} {g : D → Rho → Option Rho} {is : List Nat} (he : DE X e f) (hg : DG X tg g is) (hs : swapsWithSole [tg] e pos.line X.env = pure false := by rfl) (hw : swappedStores [tg] e X.env = pure none := by rfl)
    (h1 : (assignEach [tg] X.env).map (·.2) = [assign tg X.env] := by rfl) : DS X (.Assign [tg] e pos) (sAsg f g) := ps_cons (ps_asg he hg hs hw h1) fun Z σ H ⟨E, B, F, ρ, o, R, ho, k⟩ => by
  obtain ⟨d, e1, e2⟩ := bnd ho
  obtain ⟨ρ', e3, rfl⟩ := Option.map_eq_some_iff.mp e2
  exact ⟨E, B, F, ρ, d, R, e1, fun v F' H' x q => ⟨E, B, F', ρ, d, ρ', R.up x, q, e3, fun σ' R' _ => k σ' F' H' R'⟩⟩
/-! cells, several at once -/
def NewC (K : PySem.W.Frag) (H F' H' : Hp) (v : V) : Cell → Prop
  | .dat d => Dp K F' v d
  | .own xs => ∃ p vs, v = .ref p ∧ H p = none ∧ F' p = none ∧ H' p = some (.lst vs) ∧ DpAll K F' vs xs
  | .dic kvs => ∃ p us, v = .ref p ∧ H p = none ∧ F' p = none ∧ H' p = some (.dK us) ∧ KvR K F' us kvs
def tCl (K : PySem.W.Frag) (c : Rho → Option Cell) : TE := fun σ H Q => ∃ (E B F : Hp) (ρ : Rho) (c0 : Cell), SR K E B F H σ ρ ∧ c ρ = some c0 ∧ ∀ v F' H', Ext F H F' H' → NewC K H F' H' v c0 → Q v H'
abbrev DC (X : Cx) (e : Expr) (c : Rho → Option Cell) : Prop := PE X e (tCl X.K c)
def cD (f : Rho → Option D) : Rho → Option Cell := fun ρ => (f ρ).map .dat
def cF (f : Rho → Option (List D)) : Rho → Option Cell := fun ρ => (f ρ).map .own
def cE : Rho → Option Cell := fun _ => some (.dic [])
theorem dc_of (he : DE X e f) : DC X e (cD f) := pe_cons he fun σ H Q ⟨E, B, F, ρ, c, R, hc, k⟩ => by
  obtain ⟨d, e1, rfl⟩ := Option.map_eq_some_iff.mp hc
  exact ⟨E, B, F, ρ, d, R, e1, fun v F' H' x q => k v F' H' x q⟩
theorem dc_fresh {f : Rho → Option (List D)} (he : DF X e f) : DC X e (cF f) := pe_cons he fun σ H Q ⟨E, B, F, ρ, c, R, hc, k⟩ => by
  obtain ⟨d, e1, rfl⟩ := Option.map_eq_some_iff.mp hc
  exact ⟨E, B, F, ρ, d, R, e1, fun p vs F' H' x n nf q ha => k _ F' H' x ⟨p, vs, rfl, n, nf, q, ha⟩⟩
theorem dc_dict : DC X (.Dict [] [] pos) cE := pe_cons pe_dnewK fun σ H Q ⟨E, B, F, ρ, c, R, hc, k⟩ => by
  cases hc
  exact fun p n => k _ F _ (Ext.junk R.fh n) ⟨p, [], rfl, n, none_of R.fh n, upd_same, rfl, .nil⟩
theorem NewC.up {K : PySem.W.Frag} {H F1 H1 F2 H2 : Hp} {v : V} {c : Cell} (e : Ext F1 H1 F2 H2) (h : NewC K H F1 H1 v c) : NewC K H F2 H2 v c := by
  cases c with
  | dat d => exact Dp.up e.ff h
  | own xs =>
    obtain ⟨p, vs, rfl, n, nf, q, a⟩ := h
    exact ⟨p, vs, rfl, n, e.out _ _ q nf, e.hh _ _ q, DpAll.up e.ff a⟩
  | dic xs =>
    obtain ⟨p, vs, rfl, n, nf, q, a⟩ := h
    exact ⟨p, vs, rfl, n, e.out _ _ q nf, e.hh _ _ q, a.up e.ff⟩
theorem NewC.rep {K : PySem.W.Frag} {B H F1 H1 : Hp} {v : V} {c : Cell} (b : Same B H) (h : NewC K H F1 H1 v c) : CellRep K B F1 H1 v c := by
  cases c with
  | dat d => exact h
  | own xs =>
    obtain ⟨p, vs, rfl, n, nf, q, a⟩ := h
    exact ⟨p, vs, rfl, b.free n, nf, q, a⟩
  | dic xs =>
    obtain ⟨p, vs, rfl, n, nf, q, a⟩ := h
    exact ⟨p, vs, rfl, b.free n, nf, q, a⟩
theorem NewC.not_old {K : PySem.W.Frag} {H F1 H1 : Hp} {p : Addr} {u : HO} {c : Cell} (h : NewC K H F1 H1 (.ref p) c) (o : c.ow = true) (hp : H p = some u) : False := by
  cases c with
  | dat d => cases o
  | own xs =>
    obtain ⟨q, vs, e, n, _⟩ := h
    cases e
    rw [n] at hp
    cases hp
  | dic xs =>
    obtain ⟨q, vs, e, n, _⟩ := h
    cases e
    rw [n] at hp
    cases hp
theorem NewC.alive {K : PySem.W.Frag} {H F1 H1 : Hp} {p : Addr} {c : Cell} (h : NewC K H F1 H1 (.ref p) c) (o : c.ow = true) : ∃ u, H1 p = some u := by
  cases c with
  | dat d => cases o
  | own xs =>
    obtain ⟨q, vs, e, n, _, hp, _⟩ := h
    cases e
    exact ⟨_, hp⟩
  | dic xs =>
    obtain ⟨q, vs, e, n, _, hp, _⟩ := h
    cases e
    exact ⟨_, hp⟩
/-- a slot is stored behind others: every other owned address is old at H -/
theorem SR.setC {K : PySem.W.Frag} {E B F2 H2 H : Hp} {σ : St} {ρ : Rho} {i : Nat} {v : V} {c : Cell} (R : SR K E B F2 H2 σ ρ) (bH : Same B H) (hc : NewC K H F2 H2 v c)
    (old : ∀ (j : Nat) (c' : Cell) (p : Addr), ρ[j]? = some (some c') → c'.ow = true → σ[j]? = some (some (.ref p)) → ∃ u, H p = some u) : SR K E B F2 H2 (σ.set i (some v)) (ρ.set i (some c)) :=
  R.set (hc.rep bH) fun ow j c' p _ hj ho hs e => by
    subst e
    obtain ⟨u, hu⟩ := old j c' p hj ho hs
    exact hc.not_old ow hu
theorem SR.olds {K : PySem.W.Frag} {E B F H : Hp} {σ : St} {ρ : Rho} (R : SR K E B F H σ ρ) (j : Nat) (c' : Cell) (p : Addr) (hj : ρ[j]? = some (some c')) (ho : c'.ow = true) (hs : σ[j]? = some (some (.ref p))) : ∃ u, H p = some u := by
  obtain ⟨v, h1, h2⟩ := R.cel j c' hj
  rw [hs] at h1
  cases h1
  obtain ⟨p', u, e', _, _, hp⟩ := h2.at ho
  cases e'
  exact ⟨u, hp⟩
theorem set_olds {σ : St} {ρ : Rho} {i : Nat} {v : V} {c : Cell} {H : Hp} (old : ∀ (j : Nat) (c' : Cell) (p : Addr), ρ[j]? = some (some c') → c'.ow = true → σ[j]? = some (some (.ref p)) → ∃ u, H p = some u) (hn : ∀ p, v = .ref p → c.ow = true → ∃ u, H p = some u) :
    ∀ (j : Nat) (c' : Cell) (p : Addr), (ρ.set i (some c))[j]? = some (some c') → c'.ow = true → (σ.set i (some v))[j]? = some (some (.ref p)) → ∃ u, H p = some u := fun j c' p hj ho hs => by
  by_cases z : i = j
  · subst z
    rw [List.getElem?_set] at hj hs
    by_cases hl : i < ρ.length
    · by_cases hl' : i < σ.length
      · simp [hl] at hj
        simp [hl'] at hs
        subst hj
        exact hn p hs ho
      · simp [hl'] at hs
    · simp [hl] at hj
  · rw [List.getElem?_set_ne z] at hj hs
    exact old j c' p hj ho hs
def sPar2 (i j : Nat) (c1 c2 : Rho → Option Cell) : Rho → Option Out := fun ρ => (c1 ρ).bind fun a => (c2 ρ).bind fun b => some (.nx ((ρ.set i (some a)).set j (some b)))
theorem ds_par2 (i j : Nat) {x y : Str} {a b : Expr} {c1 c2 : Rho → Option Cell} {px py pt : Pos} {kt k2 pt2} (hc : X.calm = true) (hN : X.N.Nodup) (ha : DC X a c1) (hb : DC X b c2)
    (hw : swappedStores [.Tuple [.Name x px, .Name y py] kt pt] (.Tuple [a, b] k2 pt2) X.env = pure (some [x, y]) := by rfl) (hi : X.N[i]? = some x := by rfl) (hj : X.N[j]? = some y := by rfl) (hij : i ≠ j := by decide)
    (hx : X.env.scope.names.lookup x = some .local := by rfl) (hy : X.env.scope.names.lookup y = some .local := by rfl)
    (hs : swapsWithSole [.Tuple [.Name x px, .Name y py] kt pt] (.Tuple [a, b] k2 pt2) pos.line X.env = pure false := by rfl) (h1 : starEach [a, b] X.env = (false, eval a X.env) :: starEach [b] X.env := by rfl) (h2 : starEach [b] X.env = (false, eval b X.env) :: starEach [] X.env := by rfl) :
    DS X (.Assign [.Tuple [.Name x px, .Name y py] kt pt] (.Tuple [a, b] k2 pt2) pos) (sPar2 i j c1 c2) := ps_cons (ps_par hc hN hi hj hij hx hy (pa_cons ha (pa_cons hb pa_nil h2) h1) hw hs) fun Z σ H ⟨E, B, F, ρ, o, R, ho, k⟩ => by
  obtain ⟨ca, e1, ho⟩ := bnd ho
  obtain ⟨cb, e2, ho⟩ := bnd ho
  cases ho
  refine ⟨E, B, F, ρ, ca, R, e1, fun v F1 H1 x1 n1 => ⟨E, B, F1, ρ, cb, R.up x1, e2, fun w F2 H2 x2 n2 => ⟨v, w, rfl, k _ F2 H2 ?_⟩⟩⟩
  have R1 := R.up x1
  have R2 := R1.up x2
  have S1 := R2.setC (i := i) R.ext.hh (n1.up x2) (fun j c' p hj ho hs => R.olds j c' p hj ho hs)
  exact S1.setC (i := j) R1.ext.hh n2 (set_olds (fun j c' p hj ho hs => R1.olds j c' p hj ho hs) fun p e o => by subst e; exact n1.alive o)
def sPar3 (i j l : Nat) (c1 c2 c3 : Rho → Option Cell) : Rho → Option Out := fun ρ => (c1 ρ).bind fun a => (c2 ρ).bind fun b => (c3 ρ).bind fun c => some (.nx (((ρ.set i (some a)).set j (some b)).set l (some c)))
theorem ds_par3 (i j l : Nat) {x y z : Str} {a b c : Expr} {c1 c2 c3 : Rho → Option Cell} {px py pz pt : Pos} {kt k2 pt2} (hc : X.calm = true) (hN : X.N.Nodup) (ha : DC X a c1) (hb : DC X b c2) (hd : DC X c c3)
    (hw : swappedStores [.Tuple [.Name x px, .Name y py, .Name z pz] kt pt] (.Tuple [a, b, c] k2 pt2) X.env = pure (some [x, y, z]) := by rfl) (hi : X.N[i]? = some x := by rfl) (hj : X.N[j]? = some y := by rfl) (hl : X.N[l]? = some z := by rfl) (hij : i ≠ j := by decide) (hil : i ≠ l := by decide) (hjl : j ≠ l := by decide)
    (hx : X.env.scope.names.lookup x = some .local := by rfl) (hy : X.env.scope.names.lookup y = some .local := by rfl) (hz : X.env.scope.names.lookup z = some .local := by rfl)
    (hs : swapsWithSole [.Tuple [.Name x px, .Name y py, .Name z pz] kt pt] (.Tuple [a, b, c] k2 pt2) pos.line X.env = pure false := by rfl) (h1 : starEach [a, b, c] X.env = (false, eval a X.env) :: starEach [b, c] X.env := by rfl) (h2 : starEach [b, c] X.env = (false, eval b X.env) :: starEach [c] X.env := by rfl) (h3 : starEach [c] X.env = (false, eval c X.env) :: starEach [] X.env := by rfl) :
    DS X (.Assign [.Tuple [.Name x px, .Name y py, .Name z pz] kt pt] (.Tuple [a, b, c] k2 pt2) pos) (sPar3 i j l c1 c2 c3) := ps_cons (ps_par3 hc hN hi hj hl hij hil hjl hx hy hz (pa_cons ha (pa_cons hb (pa_cons hd pa_nil h3) h2) h1) hw hs) fun Z σ H ⟨E, B, F, ρ, o, R, ho, k⟩ => by
  obtain ⟨ca, e1, ho⟩ := bnd ho
  obtain ⟨cb, e2, ho⟩ := bnd ho
  obtain ⟨cc, e3, ho⟩ := bnd ho
  cases ho
  refine ⟨E, B, F, ρ, ca, R, e1, fun v F1 H1 x1 n1 => ⟨E, B, F1, ρ, cb, R.up x1, e2, fun w F2 H2 x2 n2 => ⟨E, B, F2, ρ, cc, (R.up x1).up x2, e3, fun u F3 H3 x3 n3 => ⟨v, w, u, rfl, k _ F3 H3 ?_⟩⟩⟩⟩
  have R1 := R.up x1
  have R2 := R1.up x2
  have R3 := R2.up x3
  have S1 := R3.setC (i := i) R.ext.hh ((n1.up x2).up x3) (fun j c' p hj ho hs => R.olds j c' p hj ho hs)
  have S2 := S1.setC (i := j) R1.ext.hh (n2.up x3) (set_olds (fun j c' p hj ho hs => R1.olds j c' p hj ho hs) fun p e o => by subst e; exact n1.alive o)
  exact S2.setC (i := l) R2.ext.hh n3 (set_olds (set_olds (fun j c' p hj ho hs => R2.olds j c' p hj ho hs) fun p e o => by subst e; exact (n1.up x2).alive o) fun p e o => by subst e; exact n2.alive o)
end
end DL
/-! DL7: loops, stores into what a def owns, a def -/
namespace DL
open PySem PySem.Spec PyProof.Rows L2
section
variable {X : Cx} {pos : Pos} {e : Expr} {f : Rho → Option D} {g h : Rho → Option Out}
theorem ds_for {tg iter : Expr} {body : List Stmt} {f : Rho → Option (List D)} {g : D → Rho → Option Rho} {b : Rho → Option Out} {is : List Nat} (hp : PassesOwn (model X.prog X.w) X.A X.env X.xe) (hc : X.calm = true) (hi : DI X tg iter f) (hg : DG X tg g is) (hb : DB X body b)
    (hs : ∀ x, foldedSetIterable iter X.env x = pure x := by intro _; rfl) : DS X (.For tg iter body [] pos) (sFor f g b) := ps_cons (ps_for hp hc hi hg hb hs) fun Z σ H ⟨E, B, F, ρ, o, R, ho, k⟩ => by
  obtain ⟨ds, e1, e2⟩ := bnd ho
  refine ⟨E, B, F, ρ, ds, R, e1, fun J F1 H1 x1 ok => ?_⟩
  obtain ⟨B', R1, cv, cvS⟩ := (R.up x1).rebase
  refine ⟨fun i m σ H => m = ds.length - i ∧ i ≤ ds.length ∧ ∃ (F' : Hp) (ρ' : Rho), SR X.K F1 B' F' H σ ρ' ∧ loopD g b (ds.drop i) ρ' = some o, ⟨ds.length, by simp, Nat.zero_le _, F1, ρ, R1, by simpa using e2⟩, ?_⟩
  rintro i m σ2 H2 ⟨rfl, hi, F2, ρ2, R2, hl⟩
  obtain ⟨stop, turn⟩ := ok F2 H2 R2.ext.ff R2.fh
  by_cases hlt : i < ds.length
  · have hdi : ds[i]? = some ds[i] := List.getElem?_eq_getElem hlt
    obtain ⟨go, yld⟩ := turn i _ hdi
    refine .inr ⟨go, fun σ H => ∃ (F' : Hp) (ρ' : Rho), SR X.K F1 B' F' H σ ρ' ∧ loopD g b (ds.drop (i + 1)) ρ' = some o, fun σ' H' hN => ⟨ds.length - (i + 1), by omega, rfl, hlt, hN⟩, fun x H3 hy => ?_⟩
    obtain ⟨F3, x3, dx⟩ := yld x H3 hy
    rw [List.drop_eq_getElem_cons hlt] at hl
    obtain ⟨ρ1, g1, hl⟩ := bnd (show (g ds[i] ρ2).bind _ = some o from hl)
    obtain ⟨o1, b1, hl⟩ := bnd hl
    refine ⟨F1, B', F3, ρ2, ds[i], ρ1, R2.up x3, dx, g1, fun σ' R' _ => ⟨F1, B', F3, ρ1, o1, R', b1, ?_⟩⟩
    cases o1 with
    | nx ρ4 => exact fun σ4 F4 H4 R4 => ⟨F4, ρ4, R4, hl⟩
    | rt d =>
      cases hl
      exact fun v F4 H4 x4 q => k v F4 H4 (cv F4 H4 x4) q
  · have ei : i = ds.length := by omega
    subst ei
    refine .inl ⟨stop _ (Nat.le_refl _), ?_⟩
    rw [List.drop_length] at hl
    cases hl
    exact k σ2 F2 H2 (cvS F2 H2 σ2 ρ2 R2)
def sWhile (n : Nat) (c : Rho → Option Bool) (b : Rho → Option Out) : Rho → Option Out := whileD c b n
theorem ds_while (n : Nat) {c : Expr} {body : List Stmt} {t : Rho → Option Bool} {b : Rho → Option Out} (hp : PassesOwn (model X.prog X.w) X.A X.env X.xe) (hc : DT X c t) (hb : DB X body b) : DS X (.While c body [] pos) (sWhile n t b) := ps_cons (ps_while hp hc hb) fun Z σ H ⟨E, B, F, ρ, o, R, ho, k⟩ => by
  refine ⟨fun m σ H => ∃ (F' : Hp) (ρ' : Rho), SR X.K E B F' H σ ρ' ∧ whileD t b m ρ' = some o, ⟨n, F, ρ, R, ho⟩, ?_⟩
  rintro m σ1 H1 ⟨F1, ρ1, R1, hw⟩
  cases m with
  | zero => cases hw
  | succ m =>
    obtain ⟨bb, e1, e2⟩ := bnd (show (t ρ1).bind _ = some o from hw)
    refine ⟨E, B, F1, ρ1, bb, R1, e1, fun F2 H2 x2 => ?_⟩
    cases bb with
    | false =>
      cases e2
      exact iteF (k σ1 F2 H2 (R1.up x2))
    | true =>
      refine iteT ⟨fun σ H => ∃ (F' : Hp) (ρ' : Rho), SR X.K E B F' H σ ρ' ∧ whileD t b m ρ' = some o, fun σ' H' hN => ⟨m, Nat.lt_succ_self m, hN⟩, ?_⟩
      rw [if_pos rfl] at e2
      obtain ⟨o1, b1, e3⟩ := bnd e2
      refine ⟨E, B, F2, ρ1, o1, R1.up x2, b1, ?_⟩
      cases o1 with
      | nx ρ4 => exact fun σ4 F4 H4 R4 => ⟨F4, ρ4, R4, e3⟩
      | rt d =>
        cases e3
        exact k
/-! ### a list of the def's own -/
theorem own_at {K : PySem.W.Frag} {E B F H : Hp} {σ : St} {ρ : Rho} {i : Nat} {xs : List D} (R : SR K E B F H σ ρ) (h : ownAt ρ i = some xs) : ∃ p vs, σ[i]? = some (some (.ref p)) ∧ B p = none ∧ F p = none ∧ H p = some (.lst vs) ∧ DpAll K F vs xs := by
  obtain ⟨v, h1, p, vs, rfl, h2, h3, h4, h5⟩ := R.cel i _ (ownAt_some h)
  exact ⟨p, vs, h1, h2, h3, h4, h5⟩
theorem dic_at {K : PySem.W.Frag} {E B F H : Hp} {σ : St} {ρ : Rho} {i : Nat} {xs : List (Int × D)} (R : SR K E B F H σ ρ) (h : dicAt ρ i = some xs) : ∃ p us, σ[i]? = some (some (.ref p)) ∧ B p = none ∧ F p = none ∧ H p = some (.dK us) ∧ KvR K F us xs := by
  obtain ⟨v, h1, p, vs, rfl, h2, h3, h4, h5⟩ := R.cel i _ (dicAt_some h)
  exact ⟨p, vs, h1, h2, h3, h4, h5⟩
theorem ds_app (i : Nat) {x : Str} {p1 apos cpos : Pos} (he : DE X e f) (hN : X.N[i]? = some x := by rfl) (hv : Vis X.env.scope x := by first | exact Or.inl rfl | exact Or.inr (Or.inl rfl) | exact Or.inr (Or.inr rfl)) (hd : (x == ("__debug__" : Str)) = false := by decide) (hcd : (x == ("__classdict__" : Str)) = false := by decide)
    (hbase : attributeBase (.Name x p1) "append" X.env (eval (.Name x p1) X.env) = eval (.Name x p1) X.env := by rfl)
    (hfew : ((backTo cpos (starEach [e] X.env)).all (fun x => !x.1) && (backToKw cpos (keywordEach [] X.env)).all (fun x => x.1.isSome) && decide ([e].length + ([] : List Keyword).length + (if ([] : List Keyword).isEmpty then 0 else 1) < 30)) = true := by rfl)
    (hline : (apos.endLine == cpos.line) = true := by rfl) (hs : starEach [e] X.env = (false, eval e X.env) :: starEach [] X.env := by rfl) (hsw : swapsWith (.Call (.Attribute (.Name x p1) "append" apos) [e] [] cpos) none pos.line X.env = pure false := by rfl) :
    DS X (.Expr (.Call (.Attribute (.Name x p1) "append" apos) [e] [] cpos) pos) (sApp i f) :=
  ps_cons (ps_expr (pe_bm PySem.F.plainAttrs_list PySem.F.slot_list_append PySem.F.type_list_append mt_append (pe_var hN hv hd hcd) (pa_cons he pa_nil hs) hbase hfew hline hs rfl) hsw) fun Z σ H ⟨E, B, F, ρ, o, R, ho, k⟩ => by
    obtain ⟨xs, e1, ho⟩ := bnd ho
    obtain ⟨d, e2, ho⟩ := bnd ho
    obtain ⟨hl, rfl⟩ := lim_some ho
    obtain ⟨p, vs, h1, h2, h3, h4, h5⟩ := own_at R e1
    refine ⟨_, h1, .inl ⟨rfl, vs, SqL.of h4⟩, E, B, F, ρ, d, R, e2, fun v F' H' x q => ?_⟩
    have hp := x.hh _ _ h4
    have nf := x.out _ _ h4 h3
    refine ⟨p, vs, v, rfl, rfl, hp, line_lt (by rw [DpAll.len h5]; exact hl), k σ F' _ ?_⟩
    exact (R.up x).write (ownAt_some e1) rfl h1 h2 nf ⟨p, vs ++ [v], rfl, h2, nf, upd_same, DpAll.append (DpAll.up x.ff h5) (.cons q .nil)⟩
theorem ds_ext (i : Nat) {x : Str} {p1 apos cpos : Pos} {f : Rho → Option (List D)} (he : DF X e f) (hN : X.N[i]? = some x := by rfl) (hv : Vis X.env.scope x := by first | exact Or.inl rfl | exact Or.inr (Or.inl rfl) | exact Or.inr (Or.inr rfl)) (hd : (x == ("__debug__" : Str)) = false := by decide) (hcd : (x == ("__classdict__" : Str)) = false := by decide)
    (hbase : attributeBase (.Name x p1) "extend" X.env (eval (.Name x p1) X.env) = eval (.Name x p1) X.env := by rfl)
    (hfew : ((backTo cpos (starEach [e] X.env)).all (fun x => !x.1) && (backToKw cpos (keywordEach [] X.env)).all (fun x => x.1.isSome) && decide ([e].length + ([] : List Keyword).length + (if ([] : List Keyword).isEmpty then 0 else 1) < 30)) = true := by rfl)
    (hline : (apos.endLine == cpos.line) = true := by rfl) (hs : starEach [e] X.env = (false, eval e X.env) :: starEach [] X.env := by rfl) (hsw : swapsWith (.Call (.Attribute (.Name x p1) "extend" apos) [e] [] cpos) none pos.line X.env = pure false := by rfl) :
    DS X (.Expr (.Call (.Attribute (.Name x p1) "extend" apos) [e] [] cpos) pos) (sExt i f) :=
  ps_cons (ps_expr (pe_bm PySem.F.plainAttrs_list PySem.F.slot_list_extend PySem.F.type_list_extend mt_extend (pe_var hN hv hd hcd) (pa_cons he pa_nil hs) hbase hfew hline hs rfl) hsw) fun Z σ H ⟨E, B, F, ρ, o, R, ho, k⟩ => by
    obtain ⟨xs, e1, ho⟩ := bnd ho
    obtain ⟨ds, e2, ho⟩ := bnd ho
    obtain ⟨hl, rfl⟩ := lim_some ho
    obtain ⟨p, vs, h1, h2, h3, h4, h5⟩ := own_at R e1
    refine ⟨_, h1, .inl ⟨rfl, vs, SqL.of h4⟩, E, B, F, ρ, ds, R, e2, fun q us F' H' x n nq hq hu => ?_⟩
    have hp := x.hh _ _ h4
    have nf := x.out _ _ h4 h3
    refine ⟨p, q, vs, us, rfl, rfl, hp, hq, line_of (by rw [DpAll.len h5, DpAll.len hu]; exact hl), k σ F' _ ?_⟩
    exact (R.up x).write (ownAt_some e1) rfl h1 h2 nf ⟨p, vs ++ us, rfl, h2, nf, upd_same, DpAll.append (DpAll.up x.ff h5) hu⟩
theorem ds_ins (i : Nat) {x : Str} {p1 apos cpos : Pos} {a : Expr} {g : Rho → Option D} (ha : DE X a f) (he : DE X e g) (hN : X.N[i]? = some x := by rfl) (hv : Vis X.env.scope x := by first | exact Or.inl rfl | exact Or.inr (Or.inl rfl) | exact Or.inr (Or.inr rfl)) (hd : (x == ("__debug__" : Str)) = false := by decide) (hcd : (x == ("__classdict__" : Str)) = false := by decide)
    (hbase : attributeBase (.Name x p1) "insert" X.env (eval (.Name x p1) X.env) = eval (.Name x p1) X.env := by rfl)
    (hfew : ((backTo cpos (starEach [a, e] X.env)).all (fun x => !x.1) && (backToKw cpos (keywordEach [] X.env)).all (fun x => x.1.isSome) && decide ([a, e].length + ([] : List Keyword).length + (if ([] : List Keyword).isEmpty then 0 else 1) < 30)) = true := by rfl)
    (hline : (apos.endLine == cpos.line) = true := by rfl) (hs : starEach [a, e] X.env = (false, eval a X.env) :: starEach [e] X.env := by rfl) (hs2 : starEach [e] X.env = (false, eval e X.env) :: starEach [] X.env := by rfl) (hpl : (backTo cpos (starEach [e] X.env)).any (·.1) = false := by rfl) (hsw : swapsWith (.Call (.Attribute (.Name x p1) "insert" apos) [a, e] [] cpos) none pos.line X.env = pure false := by rfl) :
    DS X (.Expr (.Call (.Attribute (.Name x p1) "insert" apos) [a, e] [] cpos) pos) (sIns i f g) :=
  ps_cons (ps_expr (pe_bm PySem.F.plainAttrs_list PySem.F.slot_list_insert PySem.F.type_list_insert mt_insert (pe_var hN hv hd hcd) (pa_cons ha (pa_cons he pa_nil hs2) hs) hbase hfew hline hs hpl) hsw) fun Z σ H ⟨E, B, F, ρ, o, R, ho, k⟩ => by
    obtain ⟨xs, e1, ho⟩ := bnd ho
    obtain ⟨kk, e2, ho⟩ := bnd ho
    obtain ⟨dk, e2, e2'⟩ := bnd e2
    obtain ⟨d, e3, ho⟩ := bnd ho
    split at ho
    · rename_i hc
      cases ho
      obtain ⟨p, vs, h1, h2, h3, h4, h5⟩ := own_at R e1
      refine ⟨_, h1, .inl ⟨rfl, vs, SqL.of h4⟩, E, B, F, ρ, dk, R, e2, fun v F1 H1 x1 q1 => ⟨E, B, F1, ρ, d, R.up x1, e3, fun w F2 H2 x2 q2 => ?_⟩⟩
      cases dk <;> simp [asI] at e2'
      subst e2'
      cases q1
      have x := x1.trans x2
      have hp := x.hh _ _ h4
      have nf := x.out _ _ h4 h3
      refine ⟨p, vs, _, w, rfl, rfl, hp, line_lt (by rw [DpAll.len h5]; exact hc.2.2), hc.1, by omega, k σ F2 _ ?_⟩
      exact (R.up x).write (ownAt_some e1) rfl h1 h2 nf ⟨p, _, rfl, h2, nf, upd_same, DpAll.append (DpAll.append (DpAll.take _ (DpAll.up x.ff h5)) (.cons q2 .nil)) (DpAll.drop _ (DpAll.up x.ff h5))⟩
    · cases ho
/-- xs[i] = .., as a target -/
theorem sub_read {K : PySem.W.Frag} {E B F H : Hp} {σ : St} {ρ ρ' : Rho} {i : Nat} {fi : Rho → Option D} {d : D} {v : V} {Q : St → Hp → Prop} (R : SR K E B F H σ ρ) (hv : Dp K F v d) (h : putIx i fi d ρ = some ρ')
    (k : ∀ F' H', SR K E B F' H' σ ρ' → Same F F' → Q σ H') : L2.gSub (tVar i) (tD K fi) rSetL v σ H Q := by
  obtain ⟨xs, e1, h⟩ := bnd h
  obtain ⟨kk, e2, h⟩ := bnd h
  obtain ⟨dk, e2, e2'⟩ := bnd e2
  obtain ⟨j, e3, rfl⟩ := Option.map_eq_some_iff.mp h
  obtain ⟨p, vs, h1, h2, h3, h4, h5⟩ := own_at R e1
  refine ⟨_, h1, E, B, F, ρ, dk, R, e2, fun w F1 H1 x q => ?_⟩
  cases dk <;> simp [asI] at e2'
  subst e2'
  cases q
  have hp := x.hh _ _ h4
  have nf := x.out _ _ h4 h3
  refine ⟨p, vs, _, j, rfl, rfl, hp, by rw [DpAll.len h5]; exact e3, k F1 _ ?_ x.ff⟩
  exact (R.up x).write (ownAt_some e1) rfl h1 h2 nf ⟨p, _, rfl, h2, nf, upd_same, DpAll.set j (Dp.up x.ff hv) (DpAll.up x.ff h5)⟩
theorem ds_setIx (i : Nat) {x : Str} {p1 p2 : Pos} {ix : Expr} {fi : Rho → Option D} (he : DE X e f) (hix : DE X ix fi) (hN : X.N[i]? = some x := by rfl) (hv : Vis X.env.scope x := by first | exact Or.inl rfl | exact Or.inr (Or.inl rfl) | exact Or.inr (Or.inr rfl)) (hd : (x == ("__debug__" : Str)) = false := by decide) (hcd : (x == ("__classdict__" : Str)) = false := by decide)
    (ha : ∀ v, assign (.Subscript (.Name x p1) ix p2) X.env v = (do
      let ov ← holding [v] (eval (.Name x p1) X.env)
      let iv ← holding [v, ov] (eval ix X.env)
      standAt p2
      holding [v, ov, iv] (setItem ov iv v)
      release [v, ov, iv] []) := by intro _; rfl)
    (hs : swapsWithSole [.Subscript (.Name x p1) ix p2] e pos.line X.env = pure false := by rfl) (hw : swappedStores [.Subscript (.Name x p1) ix p2] e X.env = pure none := by rfl)
    (h1 : (assignEach [.Subscript (.Name x p1) ix p2] X.env).map (·.2) = [assign (.Subscript (.Name x p1) ix p2) X.env] := by rfl) : DS X (.Assign [.Subscript (.Name x p1) ix p2] e pos) (sSetIx i f fi) :=
  ps_cons (ps_asg he (pg_sub (pe_var hN hv hd hcd) hix set_list ha) hs hw h1) fun Z σ H ⟨E, B, F, ρ, o, R, ho, k⟩ => by
    obtain ⟨d, e1, e2⟩ := bnd ho
    obtain ⟨ρ', e3, rfl⟩ := Option.map_eq_some_iff.mp e2
    exact ⟨E, B, F, ρ, d, R, e1, fun v F' H' x q => sub_read (R.up x) q e3 fun F2 H2 R2 _ => k σ F2 H2 R2⟩
theorem ds_swap (i : Nat) {x : Str} {p1 p2 p3 p4 p5 p6 : Pos} {k1 k2 : Nat} {ia ib ea eb : Expr} {fa fb ga gb : Rho → Option D} (h1 : DE X ea ga) (h2 : DE X eb gb) (hia : DE X ia fa) (hib : DE X ib fb) (hc : X.calm = true) (hN : X.N[i]? = some x := by rfl) (hv : Vis X.env.scope x := by first | exact Or.inl rfl | exact Or.inr (Or.inl rfl) | exact Or.inr (Or.inr rfl)) (hd : (x == ("__debug__" : Str)) = false := by decide) (hcd : (x == ("__classdict__" : Str)) = false := by decide)
    (haa : ∀ v, assign (.Subscript (.Name x p1) ia p2) X.env v = (do
      let ov ← holding [v] (eval (.Name x p1) X.env)
      let iv ← holding [v, ov] (eval ia X.env)
      standAt p2
      holding [v, ov, iv] (setItem ov iv v)
      release [v, ov, iv] []) := by intro _; rfl)
    (hab : ∀ v, assign (.Subscript (.Name x p3) ib p4) X.env v = (do
      let ov ← holding [v] (eval (.Name x p3) X.env)
      let iv ← holding [v, ov] (eval ib X.env)
      standAt p4
      holding [v, ov, iv] (setItem ov iv v)
      release [v, ov, iv] []) := by intro _; rfl)
    (hs : swapsWithSole [.Tuple [.Subscript (.Name x p1) ia p2, .Subscript (.Name x p3) ib p4] k1 p5] (.Tuple [ea, eb] k2 p6) pos.line X.env = pure false := by rfl) (hw : swappedStores [.Tuple [.Subscript (.Name x p1) ia p2, .Subscript (.Name x p3) ib p4] k1 p5] (.Tuple [ea, eb] k2 p6) X.env = pure none := by rfl)
    (hh : (assignEach [.Tuple [.Subscript (.Name x p1) ia p2, .Subscript (.Name x p3) ib p4] k1 p5] X.env).map (·.2) = [assign (.Tuple [.Subscript (.Name x p1) ia p2, .Subscript (.Name x p3) ib p4] k1 p5) X.env] := by rfl)
    (s1 : starEach [ea, eb] X.env = (false, eval ea X.env) :: starEach [eb] X.env := by rfl) (s2 : starEach [eb] X.env = (false, eval eb X.env) :: starEach [] X.env := by rfl)
    (t1 : (assignEach [.Subscript (.Name x p1) ia p2, .Subscript (.Name x p3) ib p4] X.env).map (·.2) = assign (.Subscript (.Name x p1) ia p2) X.env :: (assignEach [.Subscript (.Name x p3) ib p4] X.env).map (·.2) := by rfl) (t2 : (assignEach [.Subscript (.Name x p3) ib p4] X.env).map (·.2) = assign (.Subscript (.Name x p3) ib p4) X.env :: (assignEach [] X.env).map (·.2) := by rfl)
    (hn : (assignEach [.Subscript (.Name x p1) ia p2, .Subscript (.Name x p3) ib p4] X.env).length = 2 := by rfl) (hst : (assignEach [.Subscript (.Name x p1) ia p2, .Subscript (.Name x p3) ib p4] X.env).findIdx? (·.1) = none := by rfl) :
    DS X (.Assign [.Tuple [.Subscript (.Name x p1) ia p2, .Subscript (.Name x p3) ib p4] k1 p5] (.Tuple [ea, eb] k2 p6) pos) (sSwap i fa fb ga gb) :=
  ps_cons (ps_asg (pe_tup (pa_cons h1 (pa_cons h2 pa_nil s2) s1)) (pg_tup hc (L2.pgs_cons (pg_sub (pe_var hN hv hd hcd) hia set_list haa) (L2.pgs_cons (pg_sub (pe_var hN hv hd hcd) hib set_list hab) pgs_nil t2) t1) hn hst) hs hw hh) fun Z σ H ⟨E, B, F, ρ, o, R, ho, k⟩ => by
    obtain ⟨a, e1, ho⟩ := bnd ho
    obtain ⟨b, e2, ho⟩ := bnd ho
    obtain ⟨ρ1, e3, ho⟩ := bnd ho
    obtain ⟨ρ2, e4, rfl⟩ := Option.map_eq_some_iff.mp ho
    refine ⟨E, B, F, ρ, a, R, e1, fun v F1 H1 x1 q1 => ⟨E, B, F1, ρ, b, R.up x1, e2, fun w F2 H2 x2 q2 => ⟨(by show 2 ≤ sizeLine; decide), fun p n => ?_⟩⟩⟩
    have s := x2.fh
    have R3 := ((R.up x1).up x2).up (Ext.junk (o := .tup [v, w]) s n)
    refine ⟨p, [v, w], rfl, SqT.of upd_same, rfl, v, [w], rfl, sub_read R3 (Dp.up x2.ff q1) e3 fun F4 H4 R4 s4 => ?_⟩
    exact ⟨w, [], rfl, sub_read R4 (Dp.up s4 q2) e4 fun F5 H5 R5 _ => ⟨rfl, k σ F5 H5 R5⟩⟩
/-! ### a dict of the def's own -/
theorem ds_put (i : Nat) {x : Str} {p1 p2 : Pos} {ix : Expr} {fi : Rho → Option D} (hu : X.A.units + 1 < cLine) (he : DE X e f) (hix : DE X ix fi) (hN : X.N[i]? = some x := by rfl) (hv : Vis X.env.scope x := by first | exact Or.inl rfl | exact Or.inr (Or.inl rfl) | exact Or.inr (Or.inr rfl)) (hd : (x == ("__debug__" : Str)) = false := by decide) (hcd : (x == ("__classdict__" : Str)) = false := by decide)
    (hs : swapsWith e (some (.Subscript (.Name x p1) ix p2)) pos.line X.env = pure false := by rfl) : DS X (.Assign [.Subscript (.Name x p1) ix p2] e pos) (sPut i f fi) :=
  ps_cons (ps_dput hu (pe_var hN hv hd hcd) hix he hs) fun Z σ H ⟨E, B, F, ρ, o, R, ho, k⟩ => by
    obtain ⟨d, e1, ho⟩ := bnd ho
    obtain ⟨kvs, e2, ho⟩ := bnd ho
    obtain ⟨kk, e3, ho⟩ := bnd ho
    obtain ⟨dk, e3, e3'⟩ := bnd e3
    obtain ⟨hl, rfl⟩ := lim_some ho
    refine ⟨E, B, F, ρ, d, R, e1, fun v F1 H1 x1 q1 => ?_⟩
    have R1 := R.up x1
    obtain ⟨p, us, h1, h2, h3, h4, h5⟩ := dic_at R1 e2
    refine ⟨_, h1, E, B, F1, ρ, dk, R1, e3, fun w F2 H2 x2 q2 => ?_⟩
    cases dk <;> simp [asI] at e3'
    subst e3'
    cases q2
    have hp := x2.hh _ _ h4
    have nf := x2.out _ _ h4 h3
    refine ⟨p, _, rfl, DPut.k (k := Sum.inl _) hp (line_lt (by rw [KvR.len h5]; exact hl)), k σ F2 _ ?_⟩
    exact (R1.up x2).write (dicAt_some e2) rfl h1 h2 nf ⟨p, _, rfl, h2, nf, upd_same, KvR.put (h5.up x2.ff) (Dp.up x2.ff q1)⟩
theorem de_get (i : Nat) {x : Str} {p1 : Pos} {ix : Expr} {fi : Rho → Option D} (hu : X.A.units + 1 < cLine) (hix : DE X ix fi) (hns : NoSl ix) (hN : X.N[i]? = some x := by rfl) (hv : Vis X.env.scope x := by first | exact Or.inl rfl | exact Or.inr (Or.inl rfl) | exact Or.inr (Or.inr rfl)) (hd : (x == ("__debug__" : Str)) = false := by decide) (hcd : (x == ("__classdict__" : Str)) = false := by decide) :
    DE X (.Subscript (.Name x p1) ix pos) (fGet i fi) :=
  pe_cons (pe_dget hu (pe_var hN hv hd hcd) hix hns) fun σ H Q ⟨E, B, F, ρ, d, R, ho, k⟩ => by
    obtain ⟨kvs, e2, ho⟩ := bnd ho
    obtain ⟨kk, e3, ho⟩ := bnd ho
    obtain ⟨dk, e3, e3'⟩ := bnd e3
    obtain ⟨p, us, h1, h2, h3, h4, h5⟩ := dic_at R e2
    refine ⟨_, h1, E, B, F, ρ, dk, R, e3, fun w F2 H2 x2 q2 => ?_⟩
    cases dk <;> simp [asI] at e3'
    subst e3'
    cases q2
    have hp := x2.hh _ _ h4
    obtain ⟨v, hv1, hv2⟩ := KvR.val (h5.up x2.ff) ho
    refine ⟨p, v, rfl, ?_, k v F2 H2 x2 hv2⟩
    rw [← hv1]
    exact DGet.k (k := Sum.inl _) hp
end
/-! ### a def -/
def startR (N : List Str) (ds : List D) : Rho := (ds.map fun d => some (Cell.dat d)) ++ List.replicate (N.length - ds.length) none
/-- n parameters, the names N, the body g -/
def runFn (n : Nat) (N : List Str) (g : Rho → Option Out) : List D → Option D := fun ds => if ds.length = n then (g (startR N ds)).map fun o => match o with
  | .rt d => d
  | .nx _ => .none
  else none
theorem sr_start {K : PySem.W.Frag} {F H : Hp} {vs : List V} {ds : List D} (N : List Str) (s : Same F H) (h : DpAll K F vs ds) : SR K F H F H (L2.start N vs) (startR N ds) where
  len := by
    unfold L2.start startR
    simp [DpAll.len h]
  ext := Ext.refl s
  cel := fun i c e => by
    unfold startR at e
    unfold L2.start
    by_cases hi : i < ds.length
    · rw [List.getElem?_append_left (by simpa using hi), List.getElem?_map, List.getElem?_eq_getElem hi] at e
      cases e
      have hi' : i < vs.length := by rw [DpAll.len h]; exact hi
      refine ⟨vs[i], ?_, DpAll.get h (List.getElem?_eq_getElem hi') (List.getElem?_eq_getElem hi)⟩
      rw [List.getElem?_append_left (by simpa using hi'), List.getElem?_map, List.getElem?_eq_getElem hi'] <;> rfl
    · rw [List.getElem?_append_right (by simpa using hi), List.getElem?_replicate] at e
      split at e <;> cases e
  sep := fun i j c c' p _ e _ oc _ _ _ => by
    unfold startR at e
    by_cases hi : i < ds.length
    · rw [List.getElem?_append_left (by simpa using hi), List.getElem?_map, List.getElem?_eq_getElem hi] at e
      cases e
      cases oc
    · rw [List.getElem?_append_right (by simpa using hi), List.getElem?_replicate] at e
      split at e <;> cases e
theorem fn_ok {P : Program} {w : World} {K : PySem.W.Frag} {mg : Str → Option Value} {base : Heap} {x qual : Str} {params : Arguments} {body : List Stmt} {scope : Scope} {f : Addr} {fd : FuncData} {N ps : List Str} {k : Nat} {g : Rho → Option Out} (F : FunD K x qual params body scope [] [] f fd) (S : FnScope N ps scope)
    (hbody : ∀ (cdv : Value) (A : Around) (outer : List Env) (s : Shared) (H : Hp) (E : XK), Room k (A.deeper (envOfC qual scope s.heap.objs.size f cdv)) → DB (cxOf CX0 P w K mg base N qual scope f cdv A outer s H E).nox body g) : FnOk P w K mg base CX0 (k + 1) f fd ps (spD K (runFn ps.length N g)) := by
  refine F.ok S (fun vs H Q E h => ?_) (fun cdv A outer s H vs Q E hr h => ⟨_, (hbody cdv A outer s H E hr).nox, ?_⟩)
  · obtain ⟨F0, ds, d, _, h1, h2, _⟩ := h
    rw [DpAll.len h1]
    unfold runFn at h2
    split at h2
    · assumption
    · cases h2
  · obtain ⟨F0, ds, d, hs, h1, h2, hq⟩ := h
    unfold runFn at h2
    split at h2
    · obtain ⟨o, h3, h4⟩ := Option.map_eq_some_iff.mp h2
      refine ⟨F0, H, F0, startR N ds, o, sr_start N hs h1, h3, ?_⟩
      cases o with
      | nx ρ =>
        have h4 : PyData.none = d := h4
        subst h4
        exact fun σ F' H' R' => hq _ F' H' R'.ext .non
      | rt d' =>
        have h4 : d' = d := h4
        subst h4
        exact fun v F' H' x q => hq v F' H' x q
    · cases h2
theorem fn_d {P : Program} {w : World} {K : PySem.W.Frag} {mg : Str → Option Value} {base : Heap} {x qual : Str} {params : Arguments} {body : List Stmt} {scope : Scope} {f : Addr} {fd : FuncData} {N ps : List Str} {k : Nat} {g : Rho → Option Out} (F : FunD K x qual params body scope [] [] f fd) (hm : mg x = some (.ref f)) (S : FnScope N ps scope)
    (hb : ∀ (kV doc pm : Value) (an : Option Addr) (cdv ct : Value) (us : List Value), us.length = ps.length → bindArgs (PySem.W.fnOf x qual params body scope .none kV doc pm an cdv ct) ⟨us, []⟩ = pure (ps.zip us))
    (hbody : ∀ (cdv : Value) (A : Around) (outer : List Env) (s : Shared) (H : Hp) (E : XK), Room k (A.deeper (envOfC qual scope s.heap.objs.size f cdv)) → DB (cxOf CX0 P w K mg base N qual scope f cdv A outer s H E).nox body g) : Cl P w K mg base (k + 1) x (runFn ps.length N g) :=
  ⟨f, fd, ps, fn_ok F S hbody, hm, F.kp, F.bindsN hb⟩
end DL
/-! DL8: a comparison of four, tuple(range(..)), list(range(..)); the built-ins' names -/
namespace DL
open PySem PySem.Spec PyProof.Rows L2
def fCh3 (g g' g'' : D → D → Option D) (f f' f'' f''' : Rho → Option D) : Rho → Option D := fun ρ => (f ρ).bind fun a => (f' ρ).bind fun b => (g a b).bind fun r => match r with
  | .bool true => (f'' ρ).bind fun c => (g' b c).bind fun r' => match r' with
    | .bool true => (f''' ρ).bind fun d => g'' c d
    | .bool false => some (.bool false)
    | _ => none
  | .bool false => some (.bool false)
  | _ => none
def gRgT : D → Option D
  | .int n => if -1000000 ≤ n ∧ n ≤ 1000000 then some (.tuple (rangeD 0 n.toNat)) else none
  | _ => none
def gRgT2 : D → D → Option D
  | .int a, .int b => if -1000000 ≤ a ∧ a ≤ 1000000 ∧ -1000000 ≤ b ∧ b ≤ 1000000 then some (.tuple (rangeD a (b - a).toNat)) else none
  | _, _ => none
def gRgL : D → Option (List D)
  | .int n => if -1000000 ≤ n ∧ n ≤ 1000000 then some (rangeD 0 n.toNat) else none
  | _ => none
def gRevL : D → Option D := fun d => (asL d).map fun xs => .list xs.reverse
def gRevT : D → Option D := fun d => (asT d).map fun xs => .tuple xs.reverse
def gEvT : D → Option D := fun d => (asT d).map fun xs => .tuple (picks xs 0 2 ((xs.length + 1) / 2))
theorem rg_all {K : PySem.W.Frag} {F : Hp} (a b : Int) : DpAll K F (rgV a b) (rangeD a (b - a).toNat) := by
  unfold rgV rangeD
  generalize List.range (b - a).toNat = l
  induction l with
  | nil => exact .nil
  | cons x l ih => exact .cons (.int _) ih
theorem rg_all0 {K : PySem.W.Frag} {F : Hp} (n : Int) : DpAll K F (rgV 0 n) (rangeD 0 n.toNat) := by
  have := rg_all (K := K) (F := F) 0 n
  rw [Int.sub_zero] at this
  exact this
section
variable {X : Cx} {a b c d e : Expr} {pos p p2 q : Pos} {f f' f'' f''' : Rho → Option D}
theorem de_chain3 {op op' op'' : CmpOp} {r r' r'' : R2} {g g' g'' : D → D → Option D} (ho : OpR X (compareOp op) r) (hg : G2 X.K r g) (ho' : OpR X (compareOp op') r') (hg' : G2 X.K r' g') (ho'' : OpR X (compareOp op'') r'') (hg'' : G2 X.K r'' g'')
    (ha : DR X a f) (hb : DR X b f') (hc : DR X c f'') (hd : DR X d f''') (hm : lastMarks [op, op', op''] [b, c, d] = false := by with_unfolding_all rfl) : DE X (.Compare a [op, op', op''] [b, c, d] pos) (fCh3 g g' g'' f f' f'' f''') := by
  refine pe_cons (pe_chain3 ho ho' ho'' ha hb hc hd hm) fun σ H Q ⟨E, B, F, ρ, dd, R, hd, k⟩ => ?_
  obtain ⟨da, h1, hd⟩ := bnd hd
  obtain ⟨db, h2, hd⟩ := bnd hd
  obtain ⟨dr, h3, hd⟩ := bnd hd
  refine ⟨E, B, F, ρ, da, R, h1, fun x F1 H1 e1 ra => ⟨E, B, F1, ρ, db, R.up e1, h2, fun y F2 H2 e2 rb => ?_⟩⟩
  refine hg.ok F2 H2 x y da db dr _ e2.fh (ra.up e2) rb h3 fun z F3 H3 e3 q => ?_
  have e23 := e1.trans (e2.trans e3)
  cases dr with
  | bool bb =>
    cases q
    refine ⟨bb, rfl, ?_⟩
    cases bb with
    | false =>
      cases hd
      exact iteF (k _ F3 H3 e23 (.bl false))
    | true =>
      refine iteT ?_
      obtain ⟨dc, h4, hd⟩ := bnd hd
      obtain ⟨dr', h5, hd⟩ := bnd hd
      refine ⟨E, B, F3, ρ, dc, R.up e23, h4, fun w F4 H4 e4 rc => ?_⟩
      refine hg'.ok F4 H4 y w db dc dr' _ e4.fh ((rb.up e3).up e4) rc h5 fun z' F5 H5 e5 q5 => ?_
      have e25 := e23.trans (e4.trans e5)
      cases dr' with
      | bool bb' =>
        cases q5
        refine ⟨bb', rfl, ?_⟩
        cases bb' with
        | false =>
          cases hd
          exact iteF (k _ F5 H5 e25 (.bl false))
        | true =>
          refine iteT ?_
          obtain ⟨de, h6, h7⟩ := bnd hd
          refine ⟨E, B, F5, ρ, de, R.up e25, h6, fun u F6 H6 e6 ru => ?_⟩
          exact hg''.ok F6 H6 w u dc de dd Q e6.fh ((rc.up e5).up e6) ru h7 fun v F7 H7 e7 q7 => k v F7 H7 (e25.trans (e6.trans e7)) q7
      | _ => cases hd
  | _ => cases hd
theorem de_tupRg1 (hc : X.calm = true) (hm2 : X.mg "tuple" = none) (hm : X.mg "range" = none) (ha : DR X a f) (hg2 : Gl X "tuple" := by rfl) (hg : Gl X "range" := by rfl) (na : starEach [a] X.env = (false, eval a X.env) :: starEach [] X.env := by rfl)
    (nb : starEach [.Call (.Name "range" p2) [a] [] q] X.env = (false, eval (.Call (.Name "range" p2) [a] [] q) X.env) :: starEach [] X.env := by rfl) : DE X (.Call (.Name "tuple" p) [.Call (.Name "range" p2) [a] [] q] [] pos) (f1 gRgT f) := by
  refine pe_cons (pe_tupRg hc hg2 hm2 (prg_1 hg hm ha na) nb) fun σ H Q ⟨E, B, F, ρ, d, R, hd, k⟩ => ?_
  obtain ⟨da, h1, h2⟩ := bnd hd
  refine ⟨E, B, F, ρ, da, R, h1, fun x F1 H1 e1 ra => ?_⟩
  unfold gRgT at h2
  split at h2
  · split at h2
    · rename_i hh
      cases h2
      refine ⟨_, ra.int, ⟨by omega, by omega, by omega, by omega, by omega⟩, fun w n => k _ _ _ (e1.trans (Ext.new e1.fh n)) (.tup (SqT.of upd_same) (rg_all0 _))⟩
    · cases h2
  · cases h2
theorem de_tupRg2 (hc : X.calm = true) (hm2 : X.mg "tuple" = none) (hm : X.mg "range" = none) (ha : DR X a f) (hb : DR X b f') (hg2 : Gl X "tuple" := by rfl) (hg : Gl X "range" := by rfl) (na : starEach [a, b] X.env = (false, eval a X.env) :: starEach [b] X.env := by rfl) (na2 : starEach [b] X.env = (false, eval b X.env) :: starEach [] X.env := by rfl) (hpl : (backTo q (starEach [b] X.env)).any (·.1) = false := by rfl)
    (nb : starEach [.Call (.Name "range" p2) [a, b] [] q] X.env = (false, eval (.Call (.Name "range" p2) [a, b] [] q) X.env) :: starEach [] X.env := by rfl) : DE X (.Call (.Name "tuple" p) [.Call (.Name "range" p2) [a, b] [] q] [] pos) (f2 gRgT2 f f') := by
  refine pe_cons (pe_tupRg hc hg2 hm2 (prg_2 hg hm ha hb na na2 hpl) nb) fun σ H Q ⟨E, B, F, ρ, d, R, hd, k⟩ => ?_
  obtain ⟨da, h1, hd⟩ := bnd hd
  obtain ⟨db, h2, h3⟩ := bnd hd
  refine ⟨E, B, F, ρ, da, R, h1, fun x F1 H1 e1 ra => ⟨E, B, F1, ρ, db, R.up e1, h2, fun y F2 H2 e2 rb => ?_⟩⟩
  unfold gRgT2 at h3
  split at h3
  · split at h3
    · rename_i hh
      cases h3
      exact ⟨_, _, (ra.up e2).int, rb.int, ⟨by omega, by omega, by omega, by omega, by omega⟩, fun w n => k _ _ _ (e1.trans (e2.trans (Ext.new e2.fh n))) (.tup (SqT.of upd_same) (rg_all _ _))⟩
    · cases h3
  · cases h3
theorem df_listRg1 (hc : X.calm = true) (hm2 : X.mg "list" = none) (hm : X.mg "range" = none) (ha : DR X a f) (hg2 : Gl X "list" := by rfl) (hg : Gl X "range" := by rfl) (na : starEach [a] X.env = (false, eval a X.env) :: starEach [] X.env := by rfl)
    (nb : starEach [.Call (.Name "range" p2) [a] [] q] X.env = (false, eval (.Call (.Name "range" p2) [a] [] q) X.env) :: starEach [] X.env := by rfl) : DF X (.Call (.Name "list" p) [.Call (.Name "range" p2) [a] [] q] [] pos) (fF1 gRgL f) := by
  refine pe_cons (pe_listRg hc hg2 hm2 (prg_1 hg hm ha na) nb) fun σ H Q ⟨E, B, F, ρ, d, R, hd, k⟩ => ?_
  obtain ⟨da, h1, h2⟩ := bnd hd
  refine ⟨E, B, F, ρ, da, R, h1, fun x F1 H1 e1 ra => ?_⟩
  unfold gRgL at h2
  split at h2
  · split at h2
    · rename_i hh
      cases h2
      refine ⟨_, ra.int, ⟨by omega, by omega, by omega, by omega, by omega⟩, fun w n => k w _ F1 _ (e1.trans (Ext.junk e1.fh n)) (e1.hh.free n) (none_of e1.fh n) upd_same (rg_all0 _)⟩
    · cases h2
  · cases h2
end
/-! ### the names of the built-ins, as the module leaves them -/
structure Bt (mg : Str → Option Value) : Prop where
  isi : mg "isinstance" = none
  int : mg "int" = none
  bool : mg "bool" = none
  str : mg "str" = none
  tuple : mg "tuple" = none
  all : mg "all" = none
  len : mg "len" = none
  min : mg "min" = none
  range : mg "range" = none
  set : mg "set" = none
  list : mg "list" = none
  sorted : mg "sorted" = none
  any : mg "any" = none
  max : mg "max" = none
  enumerate : mg "enumerate" = none
  most : ∃ t, mg "MOST_THINGS" = some (.int 60 t)
  letters : ∃ t, mg "LETTERS" = some (.str "abcdefghijklmnopqrstuvwxyz" t)
end DL
namespace NM
open PySem PySem.Spec PyProof.Rows L2 DL
abbrev N_is_whole : List PySem.Str := ["x"]
def B_is_whole : Rho → Option Out := (sRet (fAnd (f1 gIsInt (fR 0)) (f1 gNot (f1 gIsBool (fR 0)))))
def F_is_whole : List D → Option D := runFn 1 N_is_whole B_is_whole
abbrev N_is_key : List PySem.Str := ["x", "sign"]
def B_is_key : Rho → Option Out := (sSeq (sIf (fB (fCall F_is_whole (fCons (fV 0) fNil))) (sRet (fCh gLt gLt (f1 gNeg (fC (.int 1000000000))) (fR 0) (fC (.int 1000000000)))) sNx)
  (sSeq (sIf (tOrF (tNotF (fB (f1 gIsStr (fR 0)))) (tNotF (fB (fCh gLe gLe (fC (.int 1)) (f1 gLen (fR 0)) (fC (.int 8)))))) (sRet (fC (.bool false))) sNx)
  (sRet (f1 gAll (fL (fLc (iS (fV 0)) (gN 1) tYesF (f2 gIn (fR 1) (fC (.str "abcdefghijklmnopqrstuvwxyz"))) (List.map (fun p : PySem.Str × Nat => p.2) [("sign", 1)])))))))
def F_is_key : List D → Option D := runFn 1 N_is_key B_is_key
abbrev N_is_thing : List PySem.Str := ["x", "key"]
def B_is_thing : Rho → Option Out := (sRet (fAnd (f1 gIsTup (fR 0)) (fAnd (fCh gLe gLe (fC (.int 1)) (f1 gLen (fR 0)) (fC (.int 4))) (f1 gAll (fL (fLc (iT (fV 0)) (gN 1) tYesF (fCall F_is_key (fCons (fV 1) fNil)) (List.map (fun p : PySem.Str × Nat => p.2) [("key", 1)])))))))
def F_is_thing : List D → Option D := runFn 1 N_is_thing B_is_thing
abbrev N_is_row : List PySem.Str := ["x", "thing"]
def B_is_row : Rho → Option Out := (sRet (fAnd (f1 gIsTup (fR 0)) (fAnd (f2 gLe (f1 gLen (fR 0)) (fC (.int 60))) (f1 gAll (fL (fLc (iT (fV 0)) (gN 1) tYesF (fCall F_is_thing (fCons (fV 1) fNil)) (List.map (fun p : PySem.Str × Nat => p.2) [("thing", 1)])))))))
def F_is_row : List D → Option D := runFn 1 N_is_row B_is_row
abbrev N_is_part : List PySem.Str := ["x"]
def B_is_part : Rho → Option Out := (sSeq (sIf (tOrF (tNotF (fB (f1 gIsTup (fR 0)))) (tOrF (fB (f2 gNe (f1 gLen (fR 0)) (fC (.int 2)))) (tOrF (tNotF (fB (fCall F_is_whole (fCons (f2 gIx (fR 0) (fC (.int 0))) fNil)))) (tNotF (fB (f1 gIsStr (f2 gIx (fR 0) (fC (.int 1))))))))) (sRet (fC (.bool false))) sNx)
  (sRet (fAnd (fCh gLe gLe (fC (.int 1)) (f2 gIx (fR 0) (fC (.int 0))) (fC (.int 4))) (f2 gIn (f2 gIx (fR 0) (fC (.int 1))) (fTup (fCons (fC (.str "up")) (fCons (fC (.str "down")) fNil)))))))
def F_is_part : List D → Option D := runFn 1 N_is_part B_is_part
abbrev N_is_order : List PySem.Str := ["x", "columns", "part"]
def B_is_order : Rho → Option Out := (sSeq (sIf (tOrF (tNotF (fB (f1 gIsTup (fR 0)))) (tNotF (fB (fCh gLe gLe (fC (.int 1)) (f1 gLen (fR 0)) (fC (.int 4)))))) (sRet (fC (.bool false))) sNx)
  (sSeq (sSetF 1 (fLst fNil))
  (sSeq (sFor (iT (fV 0)) (gN 2) (sSeq (sIf (tOrF (tNotF (fB (fCall F_is_part (fCons (fV 2) fNil)))) (fB (f2 gIn (f2 gIx (fR 2) (fC (.int 0))) (fR 1)))) (sRet (fC (.bool false))) sNx)
  (sApp 1 (f2 gIx (fR 2) (fC (.int 0))))))
  (sRet (fC (.bool true))))))
def F_is_order : List D → Option D := runFn 1 N_is_order B_is_order
abbrev N_compared : List PySem.Str := ["order", "x", "y", "column", "way", "one", "other"]
def B_compared : Rho → Option Out := (sSeq (sFor (iT (fV 0)) (gT [3, 4]) (sSeq (sIf (fB (f2 gLt (f2 gMin2 (f1 gLen (fR 1)) (f1 gLen (fR 2))) (fR 3))) (sRet (fC .none)) sNx)
  (sSeq (sSet 5 (f2 gIx (fR 1) (f2 gSub (fR 3) (fC (.int 1)))))
  (sSeq (sSet 6 (f2 gIx (fR 2) (f2 gSub (fR 3) (fC (.int 1)))))
  (sSeq (sIf (fB (f2 gNe (f1 gIsStr (fR 5)) (f1 gIsStr (fR 6)))) (sRet (fC .none)) sNx)
  (sIf (fB (f2 gNe (fR 5) (fR 6))) (sSeq (sIf (fB (f2 gEq (f2 gLt (fR 5) (fR 6)) (f2 gEq (fR 4) (fC (.str "up"))))) (sRet (f1 gNeg (fC (.int 1)))) sNx)
  (sRet (fC (.int 1)))) sNx))))))
  (sRet (fC (.int 0))))
def F_compared : List D → Option D := runFn 3 N_compared B_compared
abbrev N_are_wholes : List PySem.Str := ["thing", "part"]
def B_are_wholes : Rho → Option Out := (sRet (fAnd (f1 gIsTup (fR 0)) (f1 gAll (fL (fLc (iT (fV 0)) (gN 1) tYesF (fCall F_is_whole (fCons (fV 1) fNil)) (List.map (fun p : PySem.Str × Nat => p.2) [("part", 1)]))))))
def F_are_wholes : List D → Option D := runFn 1 N_are_wholes B_are_wholes
abbrev N_do_grow : List PySem.Str := ["things", "k"]
def B_do_grow : Rho → Option Out := (sRet (f1 gAll (fL (fLc (iR1 (f2 gSub (f1 gLen (fR 0)) (fC (.int 1)))) (gN 1) tYesF (f2 gLt (f2 gIx (fR 0) (fR 1)) (f2 gIx (fR 0) (f2 gAdd (fR 1) (fC (.int 1))))) (List.map (fun p : PySem.Str × Nat => p.2) [("k", 1)])))))
def F_do_grow : List D → Option D := runFn 1 N_do_grow B_do_grow
abbrev N_is_line_of : List PySem.Str := ["many", "thing", "number"]
def B_is_line_of : Rho → Option Out := (sSeq (sIf (tOrF (tNotF (fB (fCall F_are_wholes (fCons (fV 1) fNil)))) (fB (f2 gLt (f1 gLenSet (fR 1)) (f1 gLen (fR 1))))) (sRet (fC (.bool false))) sNx)
  (sRet (f1 gAll (fL (fLc (iT (fV 1)) (gN 2) tYesF (fCh gLe gLt (fC (.int 0)) (fR 2) (fR 0)) (List.map (fun p : PySem.Str × Nat => p.2) [("number", 2)]))))))
def F_is_line_of : List D → Option D := runFn 2 N_is_line_of B_is_line_of
abbrev N_is_all_of : List PySem.Str := ["many", "thing"]
def B_is_all_of : Rho → Option Out := (sRet (fAnd (fCall F_is_line_of (fCons (fV 0) (fCons (fV 1) fNil))) (f2 gEq (f1 gLen (fR 1)) (fR 0))))
def F_is_all_of : List D → Option D := runFn 2 N_is_all_of B_is_all_of
abbrev N_is_right_ahead : List PySem.Str := ["row", "order", "x", "y", "told"]
def B_is_right_ahead : Rho → Option Out := (sSeq (sSet 4 (fCall F_compared (fCons (fV 1) (fCons (f2 gIx (fR 0) (fR 2)) (fCons (f2 gIx (fR 0) (fR 3)) fNil)))))
  (sRet (fAnd (f2 gIsNot (fR 4) (fC .none)) (f2 gLt (fR 4) (fC (.int 1))))))
def F_is_right_ahead : List D → Option D := runFn 4 N_is_right_ahead B_is_right_ahead
abbrev N_comes_ahead : List PySem.Str := ["row", "order", "x", "y"]
def B_comes_ahead : Rho → Option Out := (sRet (f2 gEq (fCall F_compared (fCons (fV 1) (fCons (f2 gIx (fR 0) (fR 2)) (fCons (f2 gIx (fR 0) (fR 3)) fNil)))) (f1 gNeg (fC (.int 1)))))
def F_comes_ahead : List D → Option D := runFn 4 N_comes_ahead B_comes_ahead
abbrev N_does_rise : List PySem.Str := ["row", "order", "line", "k"]
def B_does_rise : Rho → Option Out := (sRet (f1 gAll (fL (fLc (iR1 (f2 gSub (f1 gLen (fR 2)) (fC (.int 1)))) (gN 3) tYesF (fCall F_is_right_ahead (fCons (fV 0) (fCons (fV 1) (fCons (f2 gIx (fR 2) (fR 3)) (fCons (f2 gIx (fR 2) (f2 gAdd (fR 3) (fC (.int 1)))) fNil))))) (List.map (fun p : PySem.Str × Nat => p.2) [("k", 3)])))))
def F_does_rise : List D → Option D := runFn 3 N_does_rise B_does_rise
abbrev N_does_fall : List PySem.Str := ["row", "order", "line", "k"]
def B_does_fall : Rho → Option Out := (sRet (f1 gAll (fL (fLc (iR1 (f2 gSub (f1 gLen (fR 2)) (fC (.int 1)))) (gN 3) tYesF (fCall F_comes_ahead (fCons (fV 0) (fCons (fV 1) (fCons (f2 gIx (fR 2) (f2 gAdd (fR 3) (fC (.int 1)))) (fCons (f2 gIx (fR 2) (fR 3)) fNil))))) (List.map (fun p : PySem.Str × Nat => p.2) [("k", 3)])))))
def F_does_fall : List D → Option D := runFn 3 N_does_fall B_does_fall
abbrev N_is_ordered : List PySem.Str := ["row", "order", "line", "k"]
def B_is_ordered : Rho → Option Out := (sSeq (sIf (tOrF (tNotF (fB (fCall F_is_all_of (fCons (f1 gLen (fR 0)) (fCons (fV 2) fNil))))) (tNotF (fB (fCall F_does_rise (fCons (fV 0) (fCons (fV 1) (fCons (fV 2) fNil))))))) (sRet (fC (.bool false))) sNx)
  (sSeq (sFor (iR1 (f2 gSub (f1 gLen (fR 2)) (fC (.int 1)))) (gN 3) (sIf (tAndF (fB (f2 gGt (f2 gIx (fR 2) (fR 3)) (f2 gIx (fR 2) (f2 gAdd (fR 3) (fC (.int 1)))))) (tNotF (fB (fCall F_comes_ahead (fCons (fV 0) (fCons (fV 1) (fCons (f2 gIx (fR 2) (fR 3)) (fCons (f2 gIx (fR 2) (f2 gAdd (fR 3) (fC (.int 1)))) fNil)))))))) (sRet (fC (.bool false))) sNx))
  (sRet (fC (.bool true)))))
def F_is_ordered : List D → Option D := runFn 3 N_is_ordered B_is_ordered
abbrev N_judge_held : List PySem.Str := ["row", "order", "paper"]
def B_judge_held : Rho → Option Out := (sRet (fAnd (fCall F_is_all_of (fCons (f1 gLen (fR 0)) (fCons (fV 2) fNil))) (fCall F_does_rise (fCons (fV 0) (fCons (fV 1) (fCons (fV 2) fNil))))))
def F_judge_held : List D → Option D := runFn 3 N_judge_held B_judge_held
abbrev N_judge_unheld : List PySem.Str := ["row", "order", "paper", "x", "y"]
def B_judge_unheld : Rho → Option Out := (sSeq (sIf (tOrF (tNotF (fB (fCall F_are_wholes (fCons (fV 2) fNil)))) (fB (f2 gNe (f1 gLen (fR 2)) (fC (.int 2))))) (sRet (fC (.bool false))) sNx)
  (sSeq (sAsg (fV 2) (gT [3, 4]))
  (sRet (fAnd (fCh3 gLe gLt gLt (fC (.int 0)) (fR 3) (fR 4) (f1 gLen (fR 0))) (f2 gIs (fCall F_compared (fCons (fV 1) (fCons (f2 gIx (fR 0) (fR 3)) (fCons (f2 gIx (fR 0) (fR 4)) fNil)))) (fC .none))))))
def F_judge_unheld : List D → Option D := runFn 3 N_judge_unheld B_judge_unheld
abbrev N_exchanged : List PySem.Str := ["many", "places", "line", "place"]
def B_exchanged : Rho → Option Out := (sSeq (sSetF 2 (fF1 gRgL (fR 0)))
  (sSeq (sFor (iT (fV 1)) (gN 3) (sSeq (sIf (tOrF (tNotF (fB (fCh gLe gLt (fC (.int 0)) (fR 3) (f2 gSub (fR 0) (fC (.int 1)))))) (fB (f2 gGt (f2 gIx (fR 2) (fR 3)) (f2 gIx (fR 2) (f2 gAdd (fR 3) (fC (.int 1))))))) (sRet (fC .none)) sNx)
  (sSwap 2 (fV 3) (f2 gAdd (fR 3) (fC (.int 1))) (f2 gIx (fR 2) (f2 gAdd (fR 3) (fC (.int 1)))) (f2 gIx (fR 2) (fR 3)))))
  (sRet (f1 gTupOf (fR 2)))))
def F_exchanged : List D → Option D := runFn 2 N_exchanged B_exchanged
abbrev N_judge_wrong : List PySem.Str := ["row", "order", "how", "paper", "line", "places"]
def B_judge_wrong : Rho → Option Out := (sSeq (sIf (tOrF (tNotF (fB (f1 gIsTup (fR 3)))) (fB (f2 gNe (f1 gLen (fR 3)) (fC (.int 2))))) (sRet (fC (.bool false))) sNx)
  (sSeq (sAsg (fV 3) (gT [4, 5]))
  (sSeq (sIf (tOrF (tNotF (fB (fCall F_is_ordered (fCons (fV 0) (fCons (fV 1) (fCons (fV 4) fNil)))))) (tOrF (tNotF (fB (fCall F_are_wholes (fCons (fV 5) fNil)))) (fB (f2 gNe (f1 gLen (fR 5)) (fR 2))))) (sRet (fC (.bool false))) sNx)
  (sRet (f2 gEq (fCall F_exchanged (fCons (f1 gLen (fR 0)) (fCons (fV 5) fNil))) (fR 4))))))
def F_judge_wrong : List D → Option D := runFn 4 N_judge_wrong B_judge_wrong
abbrev N_is_fall : List PySem.Str := ["row", "order", "thing"]
def B_is_fall : Rho → Option Out := (sRet (fAnd (fCall F_is_line_of (fCons (f1 gLen (fR 0)) (fCons (fV 2) fNil))) (fAnd (f2 gNe (fR 2) (fTup fNil)) (fAnd (fCall F_do_grow (fCons (fV 2) fNil)) (fCall F_does_fall (fCons (fV 0) (fCons (fV 1) (fCons (fV 2) fNil))))))))
def F_is_fall : List D → Option D := runFn 3 N_is_fall B_is_fall
abbrev N_judge_stays : List PySem.Str := ["row", "order", "how", "paper", "numbers", "part", "stays", "falls"]
def B_judge_stays : Rho → Option Out := (sSeq (sIf (tOrF (tNotF (fB (f1 gIsTup (fR 3)))) (fB (f2 gNe (f1 gLen (fR 3)) (fC (.int 2))))) (sRet (fC (.bool false))) sNx)
  (sSeq (sAsg (fV 3) (gT [6, 7]))
  (sSeq (sIf (tOrF (tNotF (fB (fCall F_is_line_of (fCons (f1 gLen (fR 0)) (fCons (fV 6) fNil))))) (tOrF (tNotF (fB (fCall F_do_grow (fCons (fV 6) fNil)))) (tNotF (fB (fCall F_does_rise (fCons (fV 0) (fCons (fV 1) (fCons (fV 6) fNil)))))))) (sRet (fC (.bool false))) sNx)
  (sSeq (sIf (tOrF (tNotF (fB (f1 gIsTup (fR 7)))) (tNotF (fB (f1 gAll (fL (fLc (iT (fV 7)) (gN 5) tYesF (fCall F_is_fall (fCons (fV 0) (fCons (fV 1) (fCons (fV 5) fNil)))) (List.map (fun p : PySem.Str × Nat => p.2) [("part", 5)]))))))) (sRet (fC (.bool false))) sNx)
  (sSeq (sSetF 4 (fLst fNil))
  (sSeq (sFor (iT (fV 7)) (gN 5) (sExt 4 (fF1 gListOf (fR 5))))
  (sRet (fAnd (f2 gEq (f1 gSorted (fR 4)) (fL (fF1 gRgL (f1 gLen (fR 0))))) (fAnd (f2 gEq (f1 gLen (fR 6)) (fR 2)) (f2 gEq (f1 gLen (fR 7)) (fR 2)))))))))))
def F_judge_stays : List D → Option D := runFn 4 N_judge_stays B_judge_stays
abbrev N_is_run : List PySem.Str := ["row", "order", "start", "end", "line"]
def B_is_run : Rho → Option Out := (sSeq (sSet 4 (f2 gRgT2 (fR 2) (fR 3)))
  (sRet (fOr (fCall F_does_rise (fCons (fV 0) (fCons (fV 1) (fCons (fV 4) fNil)))) (fCall F_does_fall (fCons (fV 0) (fCons (fV 1) (fCons (fV 4) fNil)))))))
def F_is_run : List D → Option D := runFn 4 N_is_run B_is_run
abbrev N_judge_runs : List PySem.Str := ["row", "order", "how", "paper", "ends", "k"]
def B_judge_runs : Rho → Option Out := (sSeq (sIf (tOrF (tNotF (fB (fCall F_is_line_of (fCons (f1 gLen (fR 0)) (fCons (fV 3) fNil))))) (tOrF (tNotF (fB (fCall F_do_grow (fCons (fV 3) fNil)))) (fB (f2 gNe (f1 gLen (fR 3)) (fR 2))))) (sRet (fC (.bool false))) sNx)
  (sSeq (sIf (tOrF (fB (f2 gEq (fR 3) (fTup fNil))) (fB (f2 gNe (f2 gIx (fR 3) (fC (.int 0))) (fC (.int 0))))) (sRet (f2 gEq (fR 0) (fTup fNil))) sNx)
  (sSeq (sSet 4 (f2 gAdd (fL (fF1 gListOf (fSl (fR 3) (oSome (fC (.int 1))) oNone))) (fL (fLst (fCons (f1 gLen (fR 0)) fNil)))))
  (sSeq (sFor (iR1 (f1 gLen (fR 3))) (gN 5) (sSeq (sIf (tNotF (fB (fCall F_is_run (fCons (fV 0) (fCons (fV 1) (fCons (f2 gIx (fR 3) (fR 5)) (fCons (f2 gIx (fR 4) (fR 5)) fNil))))))) (sRet (fC (.bool false))) sNx)
  (sIf (tAndF (fB (f2 gLt (f2 gIx (fR 4) (fR 5)) (f1 gLen (fR 0)))) (fB (fCall F_is_run (fCons (fV 0) (fCons (fV 1) (fCons (f2 gIx (fR 3) (fR 5)) (fCons (f2 gAdd (f2 gIx (fR 4) (fR 5)) (fC (.int 1))) fNil))))))) (sRet (fC (.bool false))) sNx)))
  (sRet (fC (.bool true)))))))
def F_judge_runs : List D → Option D := runFn 4 N_judge_runs B_judge_runs
abbrev N_holds_of_row : List PySem.Str := ["claim", "paper", "word", "row", "order"]
def B_holds_of_row : Rho → Option Out := (sSeq (sAsg (fV 0) (gT [2, 3, 4]))
  (sSeq (sIf (tOrF (tNotF (fB (fCall F_is_row (fCons (fV 3) fNil)))) (tNotF (fB (fCall F_is_order (fCons (fV 4) fNil))))) (sRet (fC (.bool false))) sNx)
  (sSeq (sIf (fB (f2 gEq (fR 2) (fC (.str "held")))) (sRet (fCall F_judge_held (fCons (fV 3) (fCons (fV 4) (fCons (fV 1) fNil))))) sNx)
  (sRet (fCall F_judge_unheld (fCons (fV 3) (fCons (fV 4) (fCons (fV 1) fNil))))))))
def F_holds_of_row : List D → Option D := runFn 2 N_holds_of_row B_holds_of_row
abbrev N_holds_of_more : List PySem.Str := ["claim", "paper", "word", "row", "order", "told"]
def B_holds_of_more : Rho → Option Out := (sSeq (sAsg (fV 0) (gT [2, 3, 4, 5]))
  (sSeq (sIf (tOrF (tNotF (fB (fCall F_is_row (fCons (fV 3) fNil)))) (tNotF (fB (fCall F_is_order (fCons (fV 4) fNil))))) (sRet (fC (.bool false))) sNx)
  (sSeq (sIf (fB (f2 gEq (fR 2) (fC (.str "ordered")))) (sRet (fAnd (f2 gIs (fR 1) (fC .none)) (fCall F_is_ordered (fCons (fV 3) (fCons (fV 4) (fCons (fV 5) fNil)))))) sNx)
  (sSeq (sIf (tNotF (fB (fCall F_is_whole (fCons (fV 5) fNil)))) (sRet (fC (.bool false))) sNx)
  (sSeq (sIf (fB (f2 gEq (fR 2) (fC (.str "wrong")))) (sRet (fCall F_judge_wrong (fCons (fV 3) (fCons (fV 4) (fCons (fV 5) (fCons (fV 1) fNil)))))) sNx)
  (sSeq (sIf (fB (f2 gEq (fR 2) (fC (.str "stays")))) (sRet (fCall F_judge_stays (fCons (fV 3) (fCons (fV 4) (fCons (fV 5) (fCons (fV 1) fNil)))))) sNx)
  (sRet (fCall F_judge_runs (fCons (fV 3) (fCons (fV 4) (fCons (fV 5) (fCons (fV 1) fNil))))))))))))
def F_holds_of_more : List D → Option D := runFn 2 N_holds_of_more B_holds_of_more
abbrev N_holds : List PySem.Str := ["claim", "paper"]
def B_holds : Rho → Option Out := (sSeq (sIf (tOrF (tNotF (fB (f1 gIsTup (fR 0)))) (tOrF (tNotF (fB (fCh gLe gLe (fC (.int 3)) (f1 gLen (fR 0)) (fC (.int 4))))) (tNotF (fB (f1 gIsStr (f2 gIx (fR 0) (fC (.int 0)))))))) (sRet (fC (.bool false))) sNx)
  (sSeq (sIf (tAndF (fB (f2 gEq (f1 gLen (fR 0)) (fC (.int 4)))) (fB (f2 gIn (f2 gIx (fR 0) (fC (.int 0))) (fTup (fCons (fC (.str "ordered")) (fCons (fC (.str "wrong")) (fCons (fC (.str "stays")) (fCons (fC (.str "runs")) fNil)))))))) (sRet (fCall F_holds_of_more (fCons (fV 0) (fCons (fV 1) fNil)))) sNx)
  (sSeq (sIf (tAndF (fB (f2 gEq (f1 gLen (fR 0)) (fC (.int 4)))) (fB (f2 gIn (f2 gIx (fR 0) (fC (.int 0))) (fTup (fCons (fC (.str "only")) (fCons (fC (.str "other")) (fCons (fC (.str "must")) fNil))))))) fNo sNx)
  (sSeq (sIf (tAndF (fB (f2 gEq (f1 gLen (fR 0)) (fC (.int 3)))) (fB (f2 gIn (f2 gIx (fR 0) (fC (.int 0))) (fTup (fCons (fC (.str "held")) (fCons (fC (.str "unheld")) fNil)))))) (sRet (fCall F_holds_of_row (fCons (fV 0) (fCons (fV 1) fNil)))) sNx)
  fNo))))
def F_holds : List D → Option D := runFn 2 N_holds B_holds
abbrev N_law_cell : List PySem.Str := ["_law_script", "_law_k", "_law_state", "_law_cell_here"]
def B_law_cell : Rho → Option Out := (sSeq (sIf (fB (f2 gLt (fR 1) (f1 gLen (fR 0)))) (sRet (f2 gIx (fR 0) (fR 1))) sNx)
  (sSeq (sSet 2 (f2 gMod (f2 gMul (fC (.int 40009)) (f2 gAdd (f2 gAdd (f2 gMul (fR 1) (fR 1)) (f2 gMul (fC (.int 3)) (fR 1))) (fC (.int 7)))) (fC (.int 1000000009))))
  (sSeq (sFor (iL (fSl (fR 0) oNone (oSome (fC (.int 4))))) (gN 3) (sSet 2 (f2 gMod (f2 gAdd (f2 gMul (fR 2) (fC (.int 50021))) (fR 3)) (fC (.int 1000000009)))))
  (sRet (fV 2)))))
def F_law_cell : List D → Option D := runFn 2 N_law_cell B_law_cell
abbrev N_law_draws : List PySem.Str := ["_law_cell_here", "_law_many", "_law_left", "_law_state", "_law_some", "_law_k"]
def B_law_draws : Rho → Option Out := (sSeq (sSet 2 (f2 gIx (fL (fLst (fCons (fC (.int 0)) (fCons (fV 0) fNil)))) (f1 gInt (f2 gGe (fR 0) (f2 gPow (fC (.int 10)) (fC (.int 18)))))))
  (sSeq (sSet 3 (f2 gMod (f2 gAdd (f2 gMul (f2 gMod (fR 0) (fC (.int 998244353))) (fC (.int 7919))) (fC (.int 101))) (fC (.int 998244353))))
  (sSeq (sSetF 4 (fLst fNil))
  (sSeq (sFor (iR1 (fR 1)) (gN 5) (sSeq (sSet 3 (f2 gMod (f2 gAdd (f2 gAdd (f2 gMul (fR 3) (f2 gAdd (f2 gMod (fR 3) (fC (.int 32749))) (fC (.int 31337)))) (f2 gMul (fC (.int 613)) (fR 5))) (fC (.int 29))) (fC (.int 1000000007))))
  (sSeq (sApp 4 (f2 gIx (fL (fLst (fCons (fV 3) (fCons (f2 gMod (fR 2) (fC (.int 1000000))) fNil)))) (f1 gInt (f2 gGt (fR 2) (fC (.int 0))))))
  (sSet 2 (f2 gDiv (fR 2) (fC (.int 1000000)))))))
  (sRet (fR 4))))))
def F_law_draws : List D → Option D := runFn 2 N_law_draws B_law_draws
abbrev N_law_word : List PySem.Str := ["_law_x", "_law_y", "_law_number", "_law_word_here", "_law_k"]
def B_law_word : Rho → Option Out := (sSeq (sSet 2 (f2 gAdd (f2 gMul (fR 0) (fC (.int 1000003))) (fR 1)))
  (sSeq (sSet 3 (fC (.str "")))
  (sSeq (sFor (iR1 (f2 gAdd (fC (.int 1)) (f2 gMod (fR 1) (fC (.int 8))))) (gN 4) (sSeq (sSet 3 (f2 gAdd (fR 3) (f2 gIx (fC (.str "abcdefghijklmnopqrstuvwxyz")) (f2 gMod (fR 2) (fC (.int 26))))))
  (sSet 2 (f2 gDiv (fR 2) (fC (.int 26))))))
  (sRet (fV 3)))))
def F_law_word : List D → Option D := runFn 2 N_law_word B_law_word
abbrev N_law_first : List PySem.Str := ["_law_kind", "_law_y", "_law_k", "_law_a", "_law_b", "_law_size", "_law_place"]
def B_law_first : Rho → Option Out := (sSeq (sIf (fB (f2 gEq (fR 0) (fC (.int 0)))) (sRet (f2 gMod (fR 3) (fC (.int 4)))) sNx)
  (sSeq (sIf (fB (f2 gEq (fR 0) (fC (.int 1)))) (sRet (f2 gSub (f2 gMod (f2 gAdd (f2 gMul (fR 3) (fC (.int 1000003))) (fR 4)) (fC (.int 1999999999))) (fC (.int 999999999)))) sNx)
  (sSeq (sIf (fB (f2 gEq (fR 0) (fC (.int 2)))) (sRet (fCall F_law_word (fCons (fV 3) (fCons (fV 4) fNil)))) sNx)
  (sSeq (sIf (fB (f2 gEq (fR 0) (fC (.int 3)))) (sSeq (sSet 5 (f2 gAdd (fC (.int 2)) (f2 gMod (fR 1) (fC (.int 9)))))
  (sSeq (sSet 6 (f2 gMod (fR 2) (fR 5)))
  (sRet (f2 gAdd (f2 gMul (f2 gIx (fL (fLst (fCons (fV 6) (fCons (f2 gSub (fR 5) (fR 6)) fNil)))) (f2 gMod (f2 gDiv (f2 gDiv (fR 1) (fC (.int 9))) (f2 gAdd (f2 gDiv (fR 2) (fR 5)) (fC (.int 1)))) (fC (.int 2)))) (fC (.int 2))) (f2 gMod (fR 3) (fC (.int 2))))))) sNx)
  (sSeq (sIf (fB (f2 gEq (fR 0) (fC (.int 4)))) (sRet (f2 gIx (fL (fLst (fCons (fV 2) (fCons (f2 gMod (fR 4) (fC (.int 60))) fNil)))) (f1 gInt (f2 gEq (f2 gMod (fR 3) (fC (.int 6))) (fC (.int 0)))))) sNx)
  (sRet (f2 gMod (f2 gMul (fR 2) (f2 gAdd (fC (.int 1)) (f2 gMod (fR 1) (fC (.int 60))))) (fC (.int 61)))))))))
def F_law_first : List D → Option D := runFn 5 N_law_first B_law_first
abbrev N_law_things : List PySem.Str := ["_law_xs", "_law_many", "_law_row", "_law_k", "_law_thing", "_law_a", "_law_b"]
def B_law_things : Rho → Option Out := (sSeq (sSetF 2 (fLst fNil))
  (sSeq (sFor (iR1 (fR 1)) (gN 3) (sSeq (sPar2 5 6 (cD (f2 gIx (fR 0) (f2 gAdd (fC (.int 4)) (f2 gMul (fC (.int 2)) (fR 3))))) (cD (f2 gIx (fR 0) (f2 gAdd (fC (.int 5)) (f2 gMul (fC (.int 2)) (fR 3))))))
  (sSeq (sSet 4 (fTup (fCons (fCall F_law_first (fCons (f2 gMod (f2 gIx (fR 0) (fC (.int 0))) (fC (.int 6))) (fCons (f2 gIx (fR 0) (fC (.int 2))) (fCons (fV 3) (fCons (fV 5) (fCons (fV 6) fNil)))))) (fCons (f2 gMod (f2 gDiv (fR 6) (fC (.int 7))) (fC (.int 3))) (fCons (f2 gIx (fC (.str "ab")) (f2 gMod (f2 gDiv (fR 5) (fC (.int 11))) (fC (.int 2)))) fNil)))))
  (sApp 2 (fSl (fR 4) oNone (oSome (f2 gAdd (fC (.int 1)) (f2 gMod (f2 gIx (fR 0) (fC (.int 1))) (fC (.int 3))))))))))
  (sRet (f1 gTupOf (fR 2)))))
def F_law_things : List D → Option D := runFn 2 N_law_things B_law_things
abbrev N_law_order : List PySem.Str := ["_law_xs", "_law_wide", "_law_at", "_law_columns", "_law_k", "_law_column"]
def B_law_order : Rho → Option Out := (sSeq (sSet 2 (f2 gMod (f2 gIx (fR 0) (fC (.int 0))) (fR 1)))
  (sSeq (sSet 3 (fSl (fRep (fSlF (fL (fLst (fCons (fC (.int 1)) (fCons (fC (.int 2)) (fCons (fC (.int 3)) fNil))))) oNone (oSome (fV 1))) (fC (.int 2))) (oSome (fV 2)) (oSome (f2 gAdd (fR 2) (fR 1)))))
  (sSeq (sIf (fB (f2 gEq (f2 gMod (f2 gIx (fR 0) (fC (.int 1))) (fC (.int 2))) (fC (.int 1)))) (sSet 3 (f1 gRevL (fR 3))) sNx)
  (sSeq (sSet 3 (fSl (fR 3) oNone (oSome (f2 gAdd (fC (.int 1)) (f2 gMod (f2 gIx (fR 0) (fC (.int 2))) (fR 1))))))
  (sRet (f1 gTupOf (fL (fLc (iE (fV 3)) (gT [4, 5]) tYesF (fTup (fCons (fV 5) (fCons (f2 gIx (fL (fLst (fCons (fC (.str "up")) (fCons (fC (.str "down")) fNil)))) (f2 gMod (f2 gIx (fR 0) (f2 gAdd (fC (.int 3)) (fR 4))) (fC (.int 2)))) fNil))) (List.map (fun p : PySem.Str × Nat => p.2) [("_law_k", 4), ("_law_column", 5)])))))))))
def F_law_order : List D → Option D := runFn 2 N_law_order B_law_order
abbrev N_law_held : List PySem.Str := ["_law_order_here", "_law_x", "_law_y", "_law_column", "_law_way", "_law_one", "_law_other"]
def B_law_held : Rho → Option Out := (sSeq (sFor (iT (fV 0)) (gT [3, 4]) (sSeq (sIf (tOrF (fB (f2 gLt (f1 gLen (fR 1)) (fR 3))) (fB (f2 gLt (f1 gLen (fR 2)) (fR 3)))) (sRet (fC .none)) sNx)
  (sSeq (sPar2 5 6 (cD (f2 gIx (fR 1) (f2 gSub (fR 3) (fC (.int 1))))) (cD (f2 gIx (fR 2) (f2 gSub (fR 3) (fC (.int 1))))))
  (sSeq (sIf (fB (f2 gNe (f1 gIsStr (fR 5)) (f1 gIsStr (fR 6)))) (sRet (fC .none)) sNx)
  (sIf (fB (f2 gNe (fR 5) (fR 6))) (sRet (f2 gIx (fL (fLst (fCons (fC (.int 1)) (fCons (f1 gNeg (fC (.int 1))) fNil)))) (f1 gInt (f2 gEq (f2 gLt (fR 5) (fR 6)) (f2 gEq (fR 4) (fC (.str "up"))))))) sNx)))))
  (sRet (fC (.int 0))))
def F_law_held : List D → Option D := runFn 3 N_law_held B_law_held
abbrev N_law_arranged : List PySem.Str := ["_law_row", "_law_order_here", "_law_line", "_law_k", "_law_at"]
def B_law_arranged : Rho → Option Out := (sSeq (sSetF 2 (fLst fNil))
  (sSeq (sFor (iR1 (f1 gLen (fR 0))) (gN 3) (sSeq (sSet 4 (f1 gLen (fR 2)))
  (sSeq (sWhile 100 (tAndF (fB (f2 gGt (fR 4) (fC (.int 0)))) (fB (f2 gEq (fCall F_law_held (fCons (fV 1) (fCons (f2 gIx (fR 0) (fR 3)) (fCons (f2 gIx (fR 0) (f2 gIx (fR 2) (f2 gSub (fR 4) (fC (.int 1))))) fNil)))) (f1 gNeg (fC (.int 1)))))) (sSet 4 (f2 gSub (fR 4) (fC (.int 1)))))
  (sIns 2 (fV 4) (fV 3)))))
  (sRet (f1 gTupOf (fR 2)))))
def F_law_arranged : List D → Option D := runFn 2 N_law_arranged B_law_arranged
abbrev N_law_spoilt : List PySem.Str := ["_law_row", "_law_xs", "_law_turn", "_law_thing", "_law_column", "_law_other", "_law_at", "_law_x"]
def B_law_spoilt : Rho → Option Out := (sSeq (sSetF 0 (fF1 gListOf (fR 0)))
  (sSeq (sFor (iR1 (f2 gMin2 (f2 gMod (f2 gIx (fR 1) (fC (.int 0))) (fC (.int 4))) (f1 gLen (fR 0)))) (gN 2) (sSeq (sPar2 6 7 (cD (f2 gMod (f2 gIx (fR 1) (f2 gAdd (fC (.int 1)) (f2 gMul (fC (.int 2)) (fR 2)))) (f1 gLen (fR 0)))) (cD (f2 gIx (fR 1) (f2 gAdd (fC (.int 2)) (f2 gMul (fC (.int 2)) (fR 2))))))
  (sSeq (sSet 3 (f2 gIx (fR 0) (fR 6)))
  (sSeq (sSet 4 (f2 gMod (f2 gDiv (fR 7) (fC (.int 5))) (f1 gLen (fR 3))))
  (sSeq (sSet 5 (fTup (fCons (fC (.str "ab")) fNil)))
  (sSeq (sIf (fB (f1 gIsStr (f2 gIx (fR 3) (fR 4)))) (sSet 5 (fTup (fCons (fC (.int 7)) fNil))) sNx)
  (sIf (tAndF (fB (f2 gGt (fR 4) (fC (.int 0)))) (fB (f2 gLt (f2 gMod (fR 7) (fC (.int 5))) (fC (.int 2))))) (sSetIx 0 (fSl (fR 3) oNone (oSome (fV 4))) (fV 6)) (sSetIx 0 (f2 gAdd (f2 gAdd (fSl (fR 3) oNone (oSome (fV 4))) (fR 5)) (fSl (fR 3) (oSome (f2 gAdd (fR 4) (fC (.int 1)))) oNone)) (fV 6)))))))))
  (sRet (f1 gTupOf (fR 0)))))
def F_law_spoilt : List D → Option D := runFn 2 N_law_spoilt B_law_spoilt
abbrev N_law_places : List PySem.Str := ["_law_row", "_law_order_here", "_law_k", "_law_line", "_law_places_here", "_law_at"]
def B_law_places : Rho → Option Out := (sSeq (sPar2 3 4 (cF (fLst fNil)) (cF (fLst fNil)))
  (sSeq (sFor (iR1 (f1 gLen (fR 0))) (gN 2) (sSeq (sSet 5 (f1 gLen (fR 3)))
  (sSeq (sWhile 100 (tAndF (fB (f2 gGt (fR 5) (fC (.int 0)))) (fB (f2 gEq (fCall F_law_held (fCons (fV 1) (fCons (f2 gIx (fR 0) (fR 2)) (fCons (f2 gIx (fR 0) (f2 gIx (fR 3) (f2 gSub (fR 5) (fC (.int 1))))) fNil)))) (f1 gNeg (fC (.int 1)))))) (sSeq (sSet 5 (f2 gSub (fR 5) (fC (.int 1))))
  (sApp 4 (fV 5))))
  (sIns 3 (fV 5) (fV 2)))))
  (sRet (f1 gTupOf (fR 4)))))
def F_law_places : List D → Option D := runFn 2 N_law_places B_law_places
abbrev N_law_piles : List PySem.Str := ["_law_row", "_law_order_here", "_law_k", "_law_piles_here", "_law_backs", "_law_at", "_law_stays_here", "_law_number"]
def B_law_piles : Rho → Option Out := (sSeq (sPar2 3 4 (cF (fLst fNil)) cE)
  (sSeq (sFor (iR1 (f1 gLen (fR 0))) (gN 2) (sSeq (sSet 5 (fC (.int 0)))
  (sSeq (sWhile 100 (tAndF (fB (f2 gLt (fR 5) (f1 gLen (fR 3)))) (fB (f2 gNe (fCall F_law_held (fCons (fV 1) (fCons (f2 gIx (fR 0) (fR 2)) (fCons (f2 gIx (fR 0) (f2 gIx (f2 gIx (fR 3) (fR 5)) (f1 gNeg (fC (.int 1))))) fNil)))) (f1 gNeg (fC (.int 1)))))) (sSet 5 (f2 gAdd (fR 5) (fC (.int 1)))))
  (sSeq (sPut 4 (fC .none) (fV 2))
  (sSeq (sIf (fB (f2 gGt (fR 5) (fC (.int 0)))) (sPut 4 (f2 gIx (f2 gIx (fR 3) (f2 gSub (fR 5) (fC (.int 1)))) (f1 gNeg (fC (.int 1)))) (fV 2)) sNx)
  (sSeq (sIf (fB (f2 gEq (fR 5) (f1 gLen (fR 3)))) (sApp 3 (fTup fNil)) sNx)
  (sSetIx 3 (f2 gAdd (f2 gIx (fR 3) (fR 5)) (fTup (fCons (fV 2) fNil))) (fV 5))))))))
  (sSeq (sAsg (fTup (fCons (fTup fNil) (fCons (fC .none) fNil))) (gT [6, 7]))
  (sSeq (sIf (fB (f2 gNe (fR 3) (fL (fLst fNil)))) (sSet 7 (f2 gIx (f2 gIx (fR 3) (f1 gNeg (fC (.int 1)))) (f1 gNeg (fC (.int 1))))) sNx)
  (sSeq (sWhile 100 (fB (f2 gIsNot (fR 7) (fC .none))) (sPar2 6 7 (cD (f2 gAdd (fTup (fCons (fV 7) fNil)) (fR 6))) (cD (fGet 4 (fV 7)))))
  (sRet (fTup (fCons (fV 6) (fCons (f1 gTupOf (fR 3)) fNil)))))))))
def F_law_piles : List D → Option D := runFn 2 N_law_piles B_law_piles
abbrev N_law_starts : List PySem.Str := ["_law_row", "_law_order_here", "_law_k", "_law_starts_here", "_law_first_here"]
def B_law_starts : Rho → Option Out := (sSeq (sPar2 3 4 (cF (fLst fNil)) (cD (fC .none)))
  (sSeq (sFor (iR1 (f1 gLen (fR 0))) (gN 2) (sIf (fB (f2 gIs (fR 4) (fC .none))) (sIf (tOrF (fB (f2 gEq (fR 2) (fC (.int 0)))) (fB (f2 gNe (f2 gIx (fR 3) (f1 gNeg (fC (.int 1)))) (f2 gSub (fR 2) (fC (.int 1)))))) (sApp 3 (fV 2)) (sSet 4 (f2 gEq (fCall F_law_held (fCons (fV 1) (fCons (f2 gIx (fR 0) (fR 2)) (fCons (f2 gIx (fR 0) (f2 gSub (fR 2) (fC (.int 1)))) fNil)))) (f1 gNeg (fC (.int 1)))))) (sIf (fB (f2 gNe (f2 gEq (fCall F_law_held (fCons (fV 1) (fCons (f2 gIx (fR 0) (fR 2)) (fCons (f2 gIx (fR 0) (f2 gSub (fR 2) (fC (.int 1)))) fNil)))) (f1 gNeg (fC (.int 1)))) (fR 4))) (sSeq (sApp 3 (fV 2))
  (sSet 4 (fC .none))) sNx)))
  (sRet (f1 gTupOf (fR 3)))))
def F_law_starts : List D → Option D := runFn 2 N_law_starts B_law_starts
abbrev N_law_sound : List PySem.Str := ["_law_claims", "_law_claim", "_law_paper", "_law_due", "_law_told"]
def B_law_sound : Rho → Option Out := (sSeq (sFor (iL (fV 0)) (gT [1, 2, 3]) (sSeq (sSet 4 (fCall F_holds (fCons (fV 1) (fCons (fV 2) fNil))))
  (sIf (tOrF (tNotF (fB (f1 gIsBool (fR 4)))) (tAndF (fB (fV 4)) (tNotF (fB (fV 3))))) (sRet (fC (.bool false))) sNx)))
  (sRet (fC (.bool true))))
def F_law_sound : List D → Option D := runFn 1 N_law_sound B_law_sound
abbrev N_law_all_held : List PySem.Str := ["_law_row", "_law_order_here", "_law_y", "_law_x"]
def B_law_all_held : Rho → Option Out := (sSeq (sFor (iR1 (f1 gLen (fR 0))) (gN 2) (sFor (iR1 (fR 2)) (gN 3) (sIf (fB (f2 gIs (fCall F_law_held (fCons (fV 1) (fCons (f2 gIx (fR 0) (fR 3)) (fCons (f2 gIx (fR 0) (fR 2)) fNil)))) (fC .none))) (sRet (fC (.bool false))) sNx)))
  (sRet (fC (.bool true))))
def F_law_all_held : List D → Option D := runFn 2 N_law_all_held B_law_all_held
abbrev N_law_wrong : List PySem.Str := ["_law_row", "_law_order_here", "_law_wrong_here", "_law_y", "_law_x"]
def B_law_wrong : Rho → Option Out := (sSeq (sSet 2 (fC (.int 0)))
  (sSeq (sFor (iR1 (f1 gLen (fR 0))) (gN 3) (sSet 2 (f2 gAdd (fR 2) (f1 gLen (fL (fLc (iR1 (fR 3)) (gN 4) (fB (f2 gEq (fCall F_law_held (fCons (fV 1) (fCons (f2 gIx (fR 0) (fR 3)) (fCons (f2 gIx (fR 0) (fR 4)) fNil)))) (f1 gNeg (fC (.int 1))))) (fV 4) (List.map (fun p : PySem.Str × Nat => p.2) [("_law_x", 4)])))))))
  (sRet (fV 2))))
def F_law_wrong : List D → Option D := runFn 2 N_law_wrong B_law_wrong
abbrev N_law_most_stay : List PySem.Str := ["_law_row", "_law_order_here", "_law_most", "_law_y", "_law_before", "_law_x"]
def B_law_most_stay : Rho → Option Out := (sSeq (sSetF 2 (fLst fNil))
  (sSeq (sFor (iR1 (f1 gLen (fR 0))) (gN 3) (sSeq (sSet 4 (fL (fLc (iR1 (fR 3)) (gN 5) (fB (f2 gIn (fCall F_law_held (fCons (fV 1) (fCons (f2 gIx (fR 0) (fR 5)) (fCons (f2 gIx (fR 0) (fR 3)) fNil)))) (fL (fLst (fCons (f1 gNeg (fC (.int 1))) (fCons (fC (.int 0)) fNil)))))) (f2 gIx (fR 2) (fR 5)) (List.map (fun p : PySem.Str × Nat => p.2) [("_law_x", 5)]))))
  (sApp 2 (f2 gAdd (fC (.int 1)) (f1 gMaxL (f2 gAdd (fL (fLst (fCons (fC (.int 0)) fNil))) (fR 4)))))))
  (sRet (f1 gMaxL (f2 gAdd (fL (fLst (fCons (fC (.int 0)) fNil))) (fR 2))))))
def F_law_most_stay : List D → Option D := runFn 2 N_law_most_stay B_law_most_stay
abbrev N_law_fewest : List PySem.Str := ["_law_row", "_law_order_here", "_law_few", "_law_end", "_law_told", "_law_start", "_law_signs", "_law_k", "_law_sign"]
def B_law_fewest : Rho → Option Out := (sSeq (sSetF 2 (fLst (fCons (fC (.int 0)) fNil)))
  (sSeq (sFor (iR2 (fC (.int 1)) (f2 gAdd (f1 gLen (fR 0)) (fC (.int 1)))) (gN 3) (sSeq (sSetF 4 (fLst fNil))
  (sSeq (sFor (iR1 (fR 3)) (gN 5) (sSeq (sSet 6 (fL (fLc (iR2 (fR 5) (f2 gSub (fR 3) (fC (.int 1)))) (gN 7) tYesF (fCall F_law_held (fCons (fV 1) (fCons (f2 gIx (fR 0) (fR 7)) (fCons (f2 gIx (fR 0) (f2 gAdd (fR 7) (fC (.int 1)))) fNil)))) (List.map (fun p : PySem.Str × Nat => p.2) [("_law_k", 7)]))))
  (sIf (tOrF (fB (f1 gAll (fL (fLc (iL (fV 6)) (gN 8) tYesF (f2 gIn (fR 8) (fL (fLst (fCons (f1 gNeg (fC (.int 1))) (fCons (fC (.int 0)) fNil))))) (List.map (fun p : PySem.Str × Nat => p.2) [("_law_sign", 8)]))))) (fB (f1 gAll (fL (fLc (iL (fV 6)) (gN 8) tYesF (f2 gEq (fR 8) (fC (.int 1))) (List.map (fun p : PySem.Str × Nat => p.2) [("_law_sign", 8)])))))) (sApp 4 (f2 gAdd (f2 gIx (fR 2) (fR 5)) (fC (.int 1)))) sNx)))
  (sApp 2 (f1 gMinL (fR 4))))))
  (sRet (f2 gIx (fR 2) (f1 gNeg (fC (.int 1)))))))
def F_law_fewest : List D → Option D := runFn 2 N_law_fewest B_law_fewest
abbrev N_law_exchanged : List PySem.Str := ["_law_line", "_law_at"]
def B_law_exchanged : Rho → Option Out := (sSeq (sIf (fB (f2 gLt (f1 gLen (fR 0)) (fC (.int 2)))) (sRet (fV 0)) sNx)
  (sSeq (sSet 1 (f2 gMod (fR 1) (f2 gSub (f1 gLen (fR 0)) (fC (.int 1)))))
  (sRet (f2 gAdd (f2 gAdd (fSl (fR 0) oNone (oSome (fV 1))) (fTup (fCons (f2 gIx (fR 0) (f2 gAdd (fR 1) (fC (.int 1)))) (fCons (f2 gIx (fR 0) (fR 1)) fNil)))) (fSl (fR 0) (oSome (f2 gAdd (fR 1) (fC (.int 2)))) oNone)))))
def F_law_exchanged : List D → Option D := runFn 2 N_law_exchanged B_law_exchanged
abbrev N_law_lines : List PySem.Str := ["_law_row", "_law_order_here", "_law_xs", "_law_at", "_law_bent", "_law_some", "_law_one", "_law_held_here", "_law_line", "_law_many", "_law_places_here", "_law_wrong_here", "_law_paper"]
def B_law_lines : Rho → Option Out := (sSeq (sPar2 7 8 (cD (fCall F_law_all_held (fCons (fV 0) (fCons (fV 1) fNil)))) (cD (fCall F_law_arranged (fCons (fV 0) (fCons (fV 1) fNil)))))
  (sSeq (sPar3 9 10 11 (cD (f1 gLen (fR 0))) (cD (fCall F_law_places (fCons (fV 0) (fCons (fV 1) fNil)))) (cD (fCall F_law_wrong (fCons (fV 0) (fCons (fV 1) fNil)))))
  (sSeq (sSet 3 (f2 gMod (f2 gIx (fR 2) (fC (.int 0))) (f2 gMax2 (fC (.int 1)) (f2 gSub (fR 9) (fC (.int 1))))))
  (sSeq (sSet 4 (fCall F_law_exchanged (fCons (fV 8) (fCons (f2 gIx (fR 2) (fC (.int 1))) fNil))))
  (sSeq (sSetF 5 (fLst fNil))
  (sSeq (sFor (iL (fL (fLst (fCons (fV 8) (fCons (f1 gRgT (fR 9)) (fCons (f1 gRevT (fR 8)) (fCons (fV 4) (fCons (fCall F_law_exchanged (fCons (fV 4) (fCons (f2 gIx (fR 2) (fC (.int 2))) fNil))) (fCons (f2 gAdd (fSl (fR 8) oNone (oSome (fC (.int 1)))) (fR 8)) fNil))))))))) (gN 6) (sSeq (sApp 5 (fTup (fCons (fTup (fCons (fC (.str "held")) (fCons (fV 0) (fCons (fV 1) fNil)))) (fCons (fV 6) (fCons (fV 7) fNil)))))
  (sSeq (sApp 5 (fTup (fCons (fTup (fCons (fC (.str "ordered")) (fCons (fV 0) (fCons (fV 1) (fCons (fV 6) fNil))))) (fCons (fC .none) (fCons (fAnd (fV 7) (f2 gEq (fR 6) (fR 8))) fNil)))))
  (sSeq (sFor (iL (fL (fLst (fCons (fV 10) (fCons (f2 gAdd (fR 10) (fTup (fCons (fV 3) (fCons (fV 3) fNil)))) (fCons (f2 gAdd (fTup (fCons (fV 3) (fCons (fV 3) fNil))) (fR 10)) (fCons (fSl (fR 10) oNone (oSome (f1 gNeg (fC (.int 1))))) (fCons (fSl (fR 10) (oSome (fC (.int 1))) oNone) (fCons (fTup fNil) (fCons (f2 gAdd (fR 10) (fTup (fCons (fV 3) fNil))) fNil)))))))))) (gN 12) (sApp 5 (fTup (fCons (fTup (fCons (fC (.str "wrong")) (fCons (fV 0) (fCons (fV 1) (fCons (f1 gLen (fR 12)) fNil))))) (fCons (fTup (fCons (fV 6) (fCons (fV 12) fNil))) (fCons (fAnd (fV 7) (f2 gEq (f1 gLen (fR 12)) (fR 11))) fNil))))))
  (sApp 5 (fTup (fCons (fTup (fCons (fC (.str "wrong")) (fCons (fV 0) (fCons (fV 1) (fCons (f2 gAdd (f2 gAdd (fR 11) (fC (.int 1))) (f2 gMod (f2 gIx (fR 2) (fC (.int 3))) (fC (.int 3)))) fNil))))) (fCons (fTup (fCons (fV 6) (fCons (fV 10) fNil))) (fCons (fC (.bool false)) fNil)))))))))
  (sRet (fR 5))))))))
def F_law_lines : List D → Option D := runFn 3 N_law_lines B_law_lines
abbrev N_law_stays : List PySem.Str := ["_law_row", "_law_order_here", "_law_xs", "_law_two", "_law_line", "_law_tuples", "_law_ways", "_law_some", "_law_one", "_law_stays_here", "_law_falls", "_law_many", "_law_most", "_law_at", "_law_every", "_law_alone", "_law_other", "_law_how", "_law_k"]
def B_law_stays : Rho → Option Out := (sSeq (sAsg (fCall F_law_piles (fCons (fV 0) (fCons (fV 1) fNil))) (gT [9, 10]))
  (sSeq (sPar3 11 12 13 (cD (f1 gLen (fR 0))) (cD (fCall F_law_most_stay (fCons (fV 0) (fCons (fV 1) fNil)))) (cD (f2 gMod (f2 gIx (fR 2) (fC (.int 0))) (f2 gMax2 (fC (.int 1)) (f1 gLen (fR 10))))))
  (sSeq (sPar2 14 15 (cD (f1 gRgT (fR 11))) (cD (f1 gTupOf (fL (fLc (iR1 (fR 11)) (gN 18) tYesF (fTup (fCons (fV 18) fNil)) (List.map (fun p : PySem.Str × Nat => p.2) [("_law_k", 18)]))))))
  (sSeq (sSet 3 (fV 10))
  (sSeq (sIf (fB (f2 gGt (f1 gLen (fR 10)) (fC (.int 1)))) (sSeq (sSet 13 (f2 gMod (fR 13) (f2 gSub (f1 gLen (fR 10)) (fC (.int 1)))))
  (sSet 3 (f2 gAdd (f2 gAdd (fSl (fR 10) oNone (oSome (fV 13))) (fTup (fCons (f1 gTupOf (f1 gSorted (f2 gAdd (f2 gIx (fR 10) (fR 13)) (f2 gIx (fR 10) (f2 gAdd (fR 13) (fC (.int 1))))))) fNil))) (fSl (fR 10) (oSome (f2 gAdd (fR 13) (fC (.int 2)))) oNone)))) sNx)
  (sSeq (sSet 4 (fCall F_law_arranged (fCons (fV 0) (fCons (fV 1) fNil))))
  (sSeq (sSet 5 (fL (fLst (fCons (fV 10) (fCons (fV 15) (fCons (fTup (fCons (fV 14) fNil)) (fCons (f2 gAdd (fR 10) (fTup (fCons (fTup fNil) fNil))) (fCons (fSl (fR 10) (oSome (fC (.int 1))) oNone) (fCons (fSl (fR 10) oNone (oSome (f1 gNeg (fC (.int 1))))) (fCons (f2 gAdd (fR 10) (fSl (fR 10) oNone (oSome (fC (.int 1))))) (fCons (fV 3) (fCons (fTup (fCons (f1 gRevT (fR 4)) fNil)) (fCons (fTup fNil) fNil)))))))))))))
  (sSeq (sSet 6 (fL (fLst (fCons (fV 9) (fCons (fV 14) (fCons (fV 4) (fCons (fSl (fR 9) oNone (oSome (fC (.int 1)))) (fCons (fSl (fR 9) (oSome (fC (.int 1))) oNone) (fCons (f2 gAdd (fR 9) (fSl (fR 9) (oSome (f1 gNeg (fC (.int 1)))) oNone)) (fCons (fSl (fR 14) oNone (oSome (f1 gLen (fR 10)))) (fCons (fTup fNil) fNil)))))))))))
  (sSeq (sSetF 7 (fLst fNil))
  (sSeq (sFor (iL (fV 6)) (gN 8) (sFor (iL (fV 5)) (gN 16) (sFor (iL (fL (fLst (fCons (f1 gLen (fR 8)) (fCons (f1 gLen (fR 16)) fNil))))) (gN 17) (sApp 7 (fTup (fCons (fTup (fCons (fC (.str "stays")) (fCons (fV 0) (fCons (fV 1) (fCons (fV 17) fNil))))) (fCons (fTup (fCons (fV 8) (fCons (fV 16) fNil))) (fCons (f2 gEq (fR 17) (fR 12)) fNil))))))))
  (sRet (fR 7))))))))))))
def F_law_stays : List D → Option D := runFn 3 N_law_stays B_law_stays
abbrev N_law_runs : List PySem.Str := ["_law_row", "_law_order_here", "_law_xs", "_law_at", "_law_every", "_law_some", "_law_paper", "_law_split", "_law_k", "_law_starts_here", "_law_few", "_law_many"]
def B_law_runs : Rho → Option Out := (sSeq (sAsg (fTup (fCons (fCall F_law_starts (fCons (fV 0) (fCons (fV 1) fNil))) (fCons (fCall F_law_fewest (fCons (fV 0) (fCons (fV 1) fNil))) (fCons (f1 gLen (fR 0)) fNil)))) (gT [9, 10, 11]))
  (sSeq (sSet 3 (f2 gMod (f2 gIx (fR 2) (fC (.int 0))) (f2 gMax2 (fC (.int 1)) (f1 gLen (fR 9)))))
  (sSeq (sSet 4 (f1 gRgT (fR 11)))
  (sSeq (sSetF 5 (fLst fNil))
  (sSeq (sFor (iL (fL (fLst (fCons (fV 9) (fCons (fV 4) (fCons (fSl (fR 4) oNone (oSome (fC (.int 1)))) (fCons (f1 gEvT (fR 4)) (fCons (f2 gAdd (fSl (fR 9) oNone (oSome (fV 3))) (fSl (fR 9) (oSome (f2 gAdd (fR 3) (fC (.int 1)))) oNone)) (fCons (fSl (fR 9) (oSome (fC (.int 1))) oNone) (fCons (fSl (fR 9) oNone (oSome (f1 gNeg (fC (.int 1))))) (fCons (fTup fNil) fNil))))))))))) (gN 6) (sSeq (sApp 5 (fTup (fCons (fTup (fCons (fC (.str "runs")) (fCons (fV 0) (fCons (fV 1) (fCons (f1 gLen (fR 6)) fNil))))) (fCons (fV 6) (fCons (f2 gEq (f1 gLen (fR 6)) (fR 10)) fNil)))))
  (sApp 5 (fTup (fCons (fTup (fCons (fC (.str "runs")) (fCons (fV 0) (fCons (fV 1) (fCons (f2 gAdd (f2 gAdd (fR 10) (fC (.int 1))) (f2 gMod (f2 gIx (fR 2) (fC (.int 1))) (fC (.int 3)))) fNil))))) (fCons (fV 6) (fCons (fC (.bool false)) fNil)))))))
  (sSeq (sSet 7 (fL (fLc (iT (fV 4)) (gN 8) (fB (f2 gNotIn (fR 8) (fR 9))) (fV 8) (List.map (fun p : PySem.Str × Nat => p.2) [("_law_k", 8)]))))
  (sSeq (sFor (iL (fV 7)) (gN 8) (sApp 5 (fTup (fCons (fTup (fCons (fC (.str "runs")) (fCons (fV 0) (fCons (fV 1) (fCons (f2 gAdd (fR 10) (fC (.int 1))) fNil))))) (fCons (f1 gTupOf (f1 gSorted (f2 gAdd (fR 9) (fTup (fCons (fV 8) fNil))))) (fCons (fC (.bool false)) fNil))))))
  (sRet (fR 5)))))))))
def F_law_runs : List D → Option D := runFn 3 N_law_runs B_law_runs
abbrev N_law_shown : List PySem.Str := ["_law_row", "_law_order_here", "_law_pairs", "_law_y", "_law_line", "_law_places_here", "_law_held_here", "_law_starts_here", "_law_stays_here", "_law_falls", "_law_x"]
def B_law_shown : Rho → Option Out := (sSeq (sPar3 4 5 6 (cD (fCall F_law_arranged (fCons (fV 0) (fCons (fV 1) fNil)))) (cD (fCall F_law_places (fCons (fV 0) (fCons (fV 1) fNil)))) (cD (fCall F_law_all_held (fCons (fV 0) (fCons (fV 1) fNil)))))
  (sSeq (sSetF 2 (fLst fNil))
  (sSeq (sFor (iR1 (f1 gLen (fR 0))) (gN 3) (sExt 2 (fLc (iR1 (fR 3)) (gN 10) tYesF (fCall F_holds (fCons (fTup (fCons (fC (.str "unheld")) (fCons (fV 0) (fCons (fV 1) fNil)))) (fCons (fTup (fCons (fV 10) (fCons (fV 3) fNil))) fNil))) (List.map (fun p : PySem.Str × Nat => p.2) [("_law_x", 10)]))))
  (sSeq (sIf (tOrF (fB (f2 gNe (fCall F_holds (fCons (fTup (fCons (fC (.str "held")) (fCons (fV 0) (fCons (fV 1) fNil)))) (fCons (fV 4) fNil))) (fR 6))) (fB (f2 gEq (f1 gAny (fR 2)) (fR 6)))) (sRet (fC (.bool false))) sNx)
  (sSeq (sIf (tNotF (fB (fV 6))) (sRet (fC (.bool true))) sNx)
  (sSeq (sAsg (f2 gAdd (fTup (fCons (fCall F_law_starts (fCons (fV 0) (fCons (fV 1) fNil))) fNil)) (fCall F_law_piles (fCons (fV 0) (fCons (fV 1) fNil)))) (gT [7, 8, 9]))
  (sSeq (sIf (tOrF (fB (f2 gNe (f1 gLen (fR 7)) (fCall F_law_fewest (fCons (fV 0) (fCons (fV 1) fNil))))) (tNotF (fB (fCall F_holds (fCons (fTup (fCons (fC (.str "runs")) (fCons (fV 0) (fCons (fV 1) (fCons (f1 gLen (fR 7)) fNil))))) (fCons (fV 7) fNil)))))) (sRet (fC (.bool false))) sNx)
  (sSeq (sIf (tOrF (fB (f2 gNe (f1 gLen (fR 9)) (fCall F_law_most_stay (fCons (fV 0) (fCons (fV 1) fNil))))) (tNotF (fB (fCall F_holds (fCons (fTup (fCons (fC (.str "stays")) (fCons (fV 0) (fCons (fV 1) (fCons (f1 gLen (fR 9)) fNil))))) (fCons (fTup (fCons (fV 8) (fCons (fV 9) fNil))) fNil)))))) (sRet (fC (.bool false))) sNx)
  (sRet (fAnd (f2 gEq (f1 gLen (fR 5)) (fCall F_law_wrong (fCons (fV 0) (fCons (fV 1) fNil)))) (fCall F_holds (fCons (fTup (fCons (fC (.str "wrong")) (fCons (fV 0) (fCons (fV 1) (fCons (f1 gLen (fR 5)) fNil))))) (fCons (fTup (fCons (fV 4) (fCons (fV 5) fNil))) fNil)))))))))))))
def F_law_shown : List D → Option D := runFn 2 N_law_shown B_law_shown
abbrev N_law : List PySem.Str := ["_law_script", "_law_k", "_law_ys", "_law_xs", "_law_row", "_law_order_here", "_law_claims"]
def B_law : Rho → Option Out := (sSeq (sFor (iR1 (f2 gMax2 (fC (.int 2)) (f2 gMin2 (f1 gLen (fR 0)) (fC (.int 4))))) (gN 1) (sSeq (sSet 2 (fCall F_law_draws (fCons (fCall F_law_cell (fCons (fV 0) (fCons (fV 1) fNil))) (fCons (fC (.int 60)) fNil))))
  (sSeq (sSet 3 (fSl (fR 2) (oSome (fC (.int 32))) oNone))
  (sSeq (sSet 4 (fCall F_law_things (fCons (fV 3) (fCons (f2 gMod (f2 gDiv (f2 gIx (fR 2) (fC (.int 0))) (fC (.int 2))) (fC (.int 8))) fNil))))
  (sSeq (sIf (fB (f2 gEq (f2 gMod (f2 gIx (fR 2) (fC (.int 0))) (fC (.int 2))) (fC (.int 1)))) (sSet 4 (fCall F_law_spoilt (fCons (fV 4) (fCons (fSl (fR 2) (oSome (fC (.int 2))) oNone) fNil)))) sNx)
  (sSeq (sSet 5 (fCall F_law_order (fCons (fSl (fR 2) (oSome (fC (.int 9))) oNone) (fCons (f2 gAdd (fC (.int 1)) (f2 gMod (f2 gIx (fR 3) (fC (.int 1))) (fC (.int 3)))) fNil))))
  (sSeq (sIf (tNotF (fB (fCall F_law_shown (fCons (fV 4) (fCons (fV 5) fNil))))) (sRet (fC (.bool false))) sNx)
  (sSeq (sSet 6 (f2 gAdd (fCall F_law_lines (fCons (fV 4) (fCons (fV 5) (fCons (fSl (fR 2) (oSome (fC (.int 24))) oNone) fNil)))) (fCall F_law_stays (fCons (fV 4) (fCons (fV 5) (fCons (fSl (fR 2) (oSome (fC (.int 28))) oNone) fNil))))))
  (sIf (tNotF (fB (fCall F_law_sound (fCons (f2 gAdd (fR 6) (fCall F_law_runs (fCons (fV 4) (fCons (fV 5) (fCons (fSl (fR 2) (oSome (fC (.int 29))) oNone) fNil))))) fNil)))) (sRet (fC (.bool false))) sNx)))))))))
  (sRet (fC (.bool true))))
def F_law : List D → Option D := runFn 1 N_law B_law
end NM
namespace NM
open PySem PySem.Spec PyProof.Rows L2 DL
def top (i : Nat) : Stmt := PySem.Challenge.pw_nearmerge_k52_whole_never_both.main.body.getD i (.Pass ⟨0, 0, 0, 0⟩)
abbrev s_is_whole : Stmt := top 3
abbrev s_is_key : Stmt := top 4
abbrev s_is_thing : Stmt := top 5
abbrev s_is_row : Stmt := top 6
abbrev s_is_part : Stmt := top 7
abbrev s_is_order : Stmt := top 8
abbrev s_compared : Stmt := top 9
abbrev s_are_wholes : Stmt := top 11
abbrev s_do_grow : Stmt := top 12
abbrev s_is_line_of : Stmt := top 13
abbrev s_is_all_of : Stmt := top 14
abbrev s_is_right_ahead : Stmt := top 15
abbrev s_comes_ahead : Stmt := top 16
abbrev s_does_rise : Stmt := top 17
abbrev s_does_fall : Stmt := top 18
abbrev s_is_ordered : Stmt := top 19
abbrev s_judge_held : Stmt := top 31
abbrev s_judge_unheld : Stmt := top 32
abbrev s_exchanged : Stmt := top 33
abbrev s_judge_wrong : Stmt := top 34
abbrev s_is_fall : Stmt := top 35
abbrev s_judge_stays : Stmt := top 36
abbrev s_is_run : Stmt := top 37
abbrev s_judge_runs : Stmt := top 38
abbrev s_holds_of_row : Stmt := top 50
abbrev s_holds_of_more : Stmt := top 51
abbrev s_holds : Stmt := top 53
abbrev s_law_cell : Stmt := top 55
abbrev s_law_draws : Stmt := top 56
abbrev s_law_word : Stmt := top 57
abbrev s_law_first : Stmt := top 58
abbrev s_law_things : Stmt := top 59
abbrev s_law_order : Stmt := top 60
abbrev s_law_held : Stmt := top 61
abbrev s_law_arranged : Stmt := top 62
abbrev s_law_spoilt : Stmt := top 63
abbrev s_law_places : Stmt := top 64
abbrev s_law_piles : Stmt := top 65
abbrev s_law_starts : Stmt := top 66
abbrev s_law_sound : Stmt := top 67
abbrev s_law_all_held : Stmt := top 68
abbrev s_law_wrong : Stmt := top 69
abbrev s_law_most_stay : Stmt := top 70
abbrev s_law_fewest : Stmt := top 71
abbrev s_law_exchanged : Stmt := top 72
abbrev s_law_lines : Stmt := top 73
abbrev s_law_stays : Stmt := top 74
abbrev s_law_runs : Stmt := top 75
abbrev s_law_shown : Stmt := top 76
abbrev s_law : Stmt := top 77
abbrev FnP (K : PySem.W.Frag) (x : PySem.Str) (st : Stmt) (f : Addr) (fd : FuncData) : Prop := FunD K x x (defArgs st) (defBody st) (defScope st) [] [] f fd
theorem sc_is_whole : FnScope N_is_whole ["x"] (defScope s_is_whole) := ⟨rfl, rfl, rfl, by decide +kernel, rfl, by decide +kernel, by decide +kernel⟩
theorem sc_is_key : FnScope N_is_key ["x"] (defScope s_is_key) := ⟨rfl, rfl, rfl, by decide +kernel, rfl, by decide +kernel, by decide +kernel⟩
theorem sc_is_thing : FnScope N_is_thing ["x"] (defScope s_is_thing) := ⟨rfl, rfl, rfl, by decide +kernel, rfl, by decide +kernel, by decide +kernel⟩
theorem sc_is_row : FnScope N_is_row ["x"] (defScope s_is_row) := ⟨rfl, rfl, rfl, by decide +kernel, rfl, by decide +kernel, by decide +kernel⟩
theorem sc_is_part : FnScope N_is_part ["x"] (defScope s_is_part) := ⟨rfl, rfl, rfl, by decide +kernel, rfl, by decide +kernel, by decide +kernel⟩
theorem sc_is_order : FnScope N_is_order ["x"] (defScope s_is_order) := ⟨rfl, rfl, rfl, by decide +kernel, rfl, by decide +kernel, by decide +kernel⟩
theorem sc_compared : FnScope N_compared ["order", "x", "y"] (defScope s_compared) := ⟨rfl, rfl, rfl, by decide +kernel, rfl, by decide +kernel, by decide +kernel⟩
theorem sc_are_wholes : FnScope N_are_wholes ["thing"] (defScope s_are_wholes) := ⟨rfl, rfl, rfl, by decide +kernel, rfl, by decide +kernel, by decide +kernel⟩
theorem sc_do_grow : FnScope N_do_grow ["things"] (defScope s_do_grow) := ⟨rfl, rfl, rfl, by decide +kernel, rfl, by decide +kernel, by decide +kernel⟩
theorem sc_is_line_of : FnScope N_is_line_of ["many", "thing"] (defScope s_is_line_of) := ⟨rfl, rfl, rfl, by decide +kernel, rfl, by decide +kernel, by decide +kernel⟩
theorem sc_is_all_of : FnScope N_is_all_of ["many", "thing"] (defScope s_is_all_of) := ⟨rfl, rfl, rfl, by decide +kernel, rfl, by decide +kernel, by decide +kernel⟩
theorem sc_is_right_ahead : FnScope N_is_right_ahead ["row", "order", "x", "y"] (defScope s_is_right_ahead) := ⟨rfl, rfl, rfl, by decide +kernel, rfl, by decide +kernel, by decide +kernel⟩
theorem sc_comes_ahead : FnScope N_comes_ahead ["row", "order", "x", "y"] (defScope s_comes_ahead) := ⟨rfl, rfl, rfl, by decide +kernel, rfl, by decide +kernel, by decide +kernel⟩
theorem sc_does_rise : FnScope N_does_rise ["row", "order", "line"] (defScope s_does_rise) := ⟨rfl, rfl, rfl, by decide +kernel, rfl, by decide +kernel, by decide +kernel⟩
theorem sc_does_fall : FnScope N_does_fall ["row", "order", "line"] (defScope s_does_fall) := ⟨rfl, rfl, rfl, by decide +kernel, rfl, by decide +kernel, by decide +kernel⟩
theorem sc_is_ordered : FnScope N_is_ordered ["row", "order", "line"] (defScope s_is_ordered) := ⟨rfl, rfl, rfl, by decide +kernel, rfl, by decide +kernel, by decide +kernel⟩
theorem sc_judge_held : FnScope N_judge_held ["row", "order", "paper"] (defScope s_judge_held) := ⟨rfl, rfl, rfl, by decide +kernel, rfl, by decide +kernel, by decide +kernel⟩
theorem sc_judge_unheld : FnScope N_judge_unheld ["row", "order", "paper"] (defScope s_judge_unheld) := ⟨rfl, rfl, rfl, by decide +kernel, rfl, by decide +kernel, by decide +kernel⟩
theorem sc_exchanged : FnScope N_exchanged ["many", "places"] (defScope s_exchanged) := ⟨rfl, rfl, rfl, by decide +kernel, rfl, by decide +kernel, by decide +kernel⟩
theorem sc_judge_wrong : FnScope N_judge_wrong ["row", "order", "how", "paper"] (defScope s_judge_wrong) := ⟨rfl, rfl, rfl, by decide +kernel, rfl, by decide +kernel, by decide +kernel⟩
theorem sc_is_fall : FnScope N_is_fall ["row", "order", "thing"] (defScope s_is_fall) := ⟨rfl, rfl, rfl, by decide +kernel, rfl, by decide +kernel, by decide +kernel⟩
theorem sc_judge_stays : FnScope N_judge_stays ["row", "order", "how", "paper"] (defScope s_judge_stays) := ⟨rfl, rfl, rfl, by decide +kernel, rfl, by decide +kernel, by decide +kernel⟩
theorem sc_is_run : FnScope N_is_run ["row", "order", "start", "end"] (defScope s_is_run) := ⟨rfl, rfl, rfl, by decide +kernel, rfl, by decide +kernel, by decide +kernel⟩
theorem sc_judge_runs : FnScope N_judge_runs ["row", "order", "how", "paper"] (defScope s_judge_runs) := ⟨rfl, rfl, rfl, by decide +kernel, rfl, by decide +kernel, by decide +kernel⟩
theorem sc_holds_of_row : FnScope N_holds_of_row ["claim", "paper"] (defScope s_holds_of_row) := ⟨rfl, rfl, rfl, by decide +kernel, rfl, by decide +kernel, by decide +kernel⟩
theorem sc_holds_of_more : FnScope N_holds_of_more ["claim", "paper"] (defScope s_holds_of_more) := ⟨rfl, rfl, rfl, by decide +kernel, rfl, by decide +kernel, by decide +kernel⟩
theorem sc_holds : FnScope N_holds ["claim", "paper"] (defScope s_holds) := ⟨rfl, rfl, rfl, by decide +kernel, rfl, by decide +kernel, by decide +kernel⟩
theorem sc_law_cell : FnScope N_law_cell ["_law_script", "_law_k"] (defScope s_law_cell) := ⟨rfl, rfl, rfl, by decide +kernel, rfl, by decide +kernel, by decide +kernel⟩
theorem sc_law_draws : FnScope N_law_draws ["_law_cell_here", "_law_many"] (defScope s_law_draws) := ⟨rfl, rfl, rfl, by decide +kernel, rfl, by decide +kernel, by decide +kernel⟩
theorem sc_law_word : FnScope N_law_word ["_law_x", "_law_y"] (defScope s_law_word) := ⟨rfl, rfl, rfl, by decide +kernel, rfl, by decide +kernel, by decide +kernel⟩
theorem sc_law_first : FnScope N_law_first ["_law_kind", "_law_y", "_law_k", "_law_a", "_law_b"] (defScope s_law_first) := ⟨rfl, rfl, rfl, by decide +kernel, rfl, by decide +kernel, by decide +kernel⟩
theorem sc_law_things : FnScope N_law_things ["_law_xs", "_law_many"] (defScope s_law_things) := ⟨rfl, rfl, rfl, by decide +kernel, rfl, by decide +kernel, by decide +kernel⟩
theorem sc_law_order : FnScope N_law_order ["_law_xs", "_law_wide"] (defScope s_law_order) := ⟨rfl, rfl, rfl, by decide +kernel, rfl, by decide +kernel, by decide +kernel⟩
theorem sc_law_held : FnScope N_law_held ["_law_order_here", "_law_x", "_law_y"] (defScope s_law_held) := ⟨rfl, rfl, rfl, by decide +kernel, rfl, by decide +kernel, by decide +kernel⟩
theorem sc_law_arranged : FnScope N_law_arranged ["_law_row", "_law_order_here"] (defScope s_law_arranged) := ⟨rfl, rfl, rfl, by decide +kernel, rfl, by decide +kernel, by decide +kernel⟩
theorem sc_law_spoilt : FnScope N_law_spoilt ["_law_row", "_law_xs"] (defScope s_law_spoilt) := ⟨rfl, rfl, rfl, by decide +kernel, rfl, by decide +kernel, by decide +kernel⟩
theorem sc_law_places : FnScope N_law_places ["_law_row", "_law_order_here"] (defScope s_law_places) := ⟨rfl, rfl, rfl, by decide +kernel, rfl, by decide +kernel, by decide +kernel⟩
theorem sc_law_piles : FnScope N_law_piles ["_law_row", "_law_order_here"] (defScope s_law_piles) := ⟨rfl, rfl, rfl, by decide +kernel, rfl, by decide +kernel, by decide +kernel⟩
theorem sc_law_starts : FnScope N_law_starts ["_law_row", "_law_order_here"] (defScope s_law_starts) := ⟨rfl, rfl, rfl, by decide +kernel, rfl, by decide +kernel, by decide +kernel⟩
theorem sc_law_sound : FnScope N_law_sound ["_law_claims"] (defScope s_law_sound) := ⟨rfl, rfl, rfl, by decide +kernel, rfl, by decide +kernel, by decide +kernel⟩
theorem sc_law_all_held : FnScope N_law_all_held ["_law_row", "_law_order_here"] (defScope s_law_all_held) := ⟨rfl, rfl, rfl, by decide +kernel, rfl, by decide +kernel, by decide +kernel⟩
theorem sc_law_wrong : FnScope N_law_wrong ["_law_row", "_law_order_here"] (defScope s_law_wrong) := ⟨rfl, rfl, rfl, by decide +kernel, rfl, by decide +kernel, by decide +kernel⟩
theorem sc_law_most_stay : FnScope N_law_most_stay ["_law_row", "_law_order_here"] (defScope s_law_most_stay) := ⟨rfl, rfl, rfl, by decide +kernel, rfl, by decide +kernel, by decide +kernel⟩
theorem sc_law_fewest : FnScope N_law_fewest ["_law_row", "_law_order_here"] (defScope s_law_fewest) := ⟨rfl, rfl, rfl, by decide +kernel, rfl, by decide +kernel, by decide +kernel⟩
theorem sc_law_exchanged : FnScope N_law_exchanged ["_law_line", "_law_at"] (defScope s_law_exchanged) := ⟨rfl, rfl, rfl, by decide +kernel, rfl, by decide +kernel, by decide +kernel⟩
theorem sc_law_lines : FnScope N_law_lines ["_law_row", "_law_order_here", "_law_xs"] (defScope s_law_lines) := ⟨rfl, rfl, rfl, by decide +kernel, rfl, by decide +kernel, by decide +kernel⟩
theorem sc_law_stays : FnScope N_law_stays ["_law_row", "_law_order_here", "_law_xs"] (defScope s_law_stays) := ⟨rfl, rfl, rfl, by decide +kernel, rfl, by decide +kernel, by decide +kernel⟩
theorem sc_law_runs : FnScope N_law_runs ["_law_row", "_law_order_here", "_law_xs"] (defScope s_law_runs) := ⟨rfl, rfl, rfl, by decide +kernel, rfl, by decide +kernel, by decide +kernel⟩
theorem sc_law_shown : FnScope N_law_shown ["_law_row", "_law_order_here"] (defScope s_law_shown) := ⟨rfl, rfl, rfl, by decide +kernel, rfl, by decide +kernel, by decide +kernel⟩
theorem sc_law : FnScope N_law ["_law_script"] (defScope s_law) := ⟨rfl, rfl, rfl, by decide +kernel, rfl, by decide +kernel, by decide +kernel⟩
end NM
namespace NM
open PySem PySem.Spec PyProof.Rows L2 DL
theorem ok_is_whole {P : Program} {w : World} {K : PySem.W.Frag} {mg : Str → Option Value} {base : Heap} {f : Addr} {fd : FuncData} (Bt : Bt mg) (F : FnP K "is_whole" s_is_whole f fd) (hm : mg "is_whole" = some (.ref f)) : Cl P w K mg base 1 "is_whole" F_is_whole := by
  refine fn_d (N := N_is_whole) (g := B_is_whole) F hm sc_is_whole (fun _ _ _ _ _ _ us hl => match us, hl with | [_], _ => rfl) fun cdv A outer s H E hr => ?_
  exact (db_one (ds_ret (de_and (de_isi kit_int Bt.isi Bt.int PyProof.Rows.boot_int (dr_var 0)) (de_one (DL.de_not (de_isi kit_bool Bt.isi Bt.bool PyProof.Rows.boot_bool (dr_var 0)))))))
theorem ok_is_key {P : Program} {w : World} {K : PySem.W.Frag} {mg : Str → Option Value} {base : Heap} {f : Addr} {fd : FuncData} (Bt : Bt mg) (F : FnP K "is_key" s_is_key f fd) (hm : mg "is_key" = some (.ref f)) (c_is_whole : Cl P w K mg base 1 "is_whole" F_is_whole) : Cl P w K mg base 2 "is_key" F_is_key := by
  refine fn_d (N := N_is_key) (g := B_is_key) F hm sc_is_key (fun _ _ _ _ _ _ us hl => match us, hl with | [_], _ => rfl) fun cdv A outer s H E hr => ?_
  exact (db_cons (ds_if (dt_val (de_call c_is_whole hr (by decide) (da_cons (de_var 0) da_nil))) (db_one (ds_ret (de_chain or_lt g2_lt or_lt g2_lt (dr_of (de_un un_neg g1_neg (dr_of de_int))) (dr_var 0) (dr_of de_int)))) db_nil)
  (db_cons (ds_if (dt_w (dw_or (dt_not (dt_val (de_isi kit_str Bt.isi Bt.str PyProof.Rows.boot_str (dr_var 0)))) (dw_or1 (dt_not (dt_chain op_le g2_le op_le g2_le (dr_of de_int) (dr_of (de_call1 call_len c1_len Bt.len PySem.boot_len (dr_var 0))) (dr_of de_int)))))) (db_one (ds_ret de_bl)) db_nil)
  (db_one (ds_ret (de_call1 (cr_all rfl) c1_all Bt.all PyProof.Rows.boot_all (dr_of (de_fresh (df_lc rfl sc_is_key.nd (di_str (de_var 0)) (blkOk_by (N := N_is_key) (sc := defScope s_is_key) (own := [("sign", 1)]) (by decide +kernel)) (by decide) (fun _ _ _ _ _ => (dg_name 1 sc_is_key.nd)) (fun _ _ _ _ _ => dts_nil) (fun _ _ _ _ _ => (de_cmp or_in g2_in (dr_var 1) (dr_of (de_globS Bt.letters)) rfl))))))))))
theorem ok_is_thing {P : Program} {w : World} {K : PySem.W.Frag} {mg : Str → Option Value} {base : Heap} {f : Addr} {fd : FuncData} (Bt : Bt mg) (F : FnP K "is_thing" s_is_thing f fd) (hm : mg "is_thing" = some (.ref f)) (c_is_key : Cl P w K mg base 2 "is_key" F_is_key) : Cl P w K mg base 3 "is_thing" F_is_thing := by
  refine fn_d (N := N_is_thing) (g := B_is_thing) F hm sc_is_thing (fun _ _ _ _ _ _ us hl => match us, hl with | [_], _ => rfl) fun cdv A outer s H E hr => ?_
  exact (db_one (ds_ret (de_and (de_isi kit_tup Bt.isi Bt.tuple PyProof.Rows.boot_tuple (dr_var 0)) (de_and (de_chain op_le g2_le op_le g2_le (dr_of de_int) (dr_of (de_call1 call_len c1_len Bt.len PySem.boot_len (dr_var 0))) (dr_of de_int)) (de_one (de_call1 (cr_all rfl) c1_all Bt.all PyProof.Rows.boot_all (dr_of (de_fresh (df_lc rfl sc_is_thing.nd (di_tup (de_var 0)) (blkOk_by (N := N_is_thing) (sc := defScope s_is_thing) (own := [("key", 1)]) (by decide +kernel)) (by decide) (fun _ _ _ _ _ => (dg_name 1 sc_is_thing.nd)) (fun _ _ _ _ _ => dts_nil) (fun _ _ _ _ _ => (de_call c_is_key hr (by decide) (da_cons (de_var 1) da_nil))))))))))))
theorem ok_is_row {P : Program} {w : World} {K : PySem.W.Frag} {mg : Str → Option Value} {base : Heap} {f : Addr} {fd : FuncData} (Bt : Bt mg) (F : FnP K "is_row" s_is_row f fd) (hm : mg "is_row" = some (.ref f)) (c_is_thing : Cl P w K mg base 3 "is_thing" F_is_thing) : Cl P w K mg base 4 "is_row" F_is_row := by
  refine fn_d (N := N_is_row) (g := B_is_row) F hm sc_is_row (fun _ _ _ _ _ _ us hl => match us, hl with | [_], _ => rfl) fun cdv A outer s H E hr => ?_
  exact (db_one (ds_ret (de_and (de_isi kit_tup Bt.isi Bt.tuple PyProof.Rows.boot_tuple (dr_var 0)) (de_and (de_cmp op_le g2_le (dr_of (de_call1 call_len c1_len Bt.len PySem.boot_len (dr_var 0))) (dr_of (de_globI Bt.most)) (nomark _)) (de_one (de_call1 (cr_all rfl) c1_all Bt.all PyProof.Rows.boot_all (dr_of (de_fresh (df_lc rfl sc_is_row.nd (di_tup (de_var 0)) (blkOk_by (N := N_is_row) (sc := defScope s_is_row) (own := [("thing", 1)]) (by decide +kernel)) (by decide) (fun _ _ _ _ _ => (dg_name 1 sc_is_row.nd)) (fun _ _ _ _ _ => dts_nil) (fun _ _ _ _ _ => (de_call c_is_thing hr (by decide) (da_cons (de_var 1) da_nil))))))))))))
theorem ok_is_part {P : Program} {w : World} {K : PySem.W.Frag} {mg : Str → Option Value} {base : Heap} {f : Addr} {fd : FuncData} (Bt : Bt mg) (F : FnP K "is_part" s_is_part f fd) (hm : mg "is_part" = some (.ref f)) (c_is_whole : Cl P w K mg base 1 "is_whole" F_is_whole) : Cl P w K mg base 2 "is_part" F_is_part := by
  refine fn_d (N := N_is_part) (g := B_is_part) F hm sc_is_part (fun _ _ _ _ _ _ us hl => match us, hl with | [_], _ => rfl) fun cdv A outer s H E hr => ?_
  exact (db_cons (ds_if (dt_w (dw_or (dt_not (dt_val (de_isi kit_tup Bt.isi Bt.tuple PyProof.Rows.boot_tuple (dr_var 0)))) (dw_or (dt_cmp (op_neD hr.units) g2_ne (dr_of (de_call1 call_len c1_len Bt.len PySem.boot_len (dr_var 0))) (dr_of de_int) (nomark _)) (dw_or (dt_not (dt_val (de_call c_is_whole hr (by decide) (da_cons (de_ix (dr_var 0) (dr_of de_int) (fun _ _ => rfl)) da_nil)))) (dw_or1 (dt_not (dt_val (de_isi kit_str Bt.isi Bt.str PyProof.Rows.boot_str (dr_of (de_ix (dr_var 0) (dr_of de_int) (fun _ _ => rfl))))))))))) (db_one (ds_ret de_bl)) db_nil)
  (db_one (ds_ret (de_and (de_chain op_le g2_le op_le g2_le (dr_of de_int) (dr_of (de_ix (dr_var 0) (dr_of de_int) (fun _ _ => rfl))) (dr_of de_int)) (de_one (de_cmp or_in g2_in (dr_of (de_ix (dr_var 0) (dr_of de_int) (fun _ _ => rfl))) (dr_of (de_tup (da_cons de_str (da_cons de_str da_nil)))) rfl))))))
theorem ok_is_order {P : Program} {w : World} {K : PySem.W.Frag} {mg : Str → Option Value} {base : Heap} {f : Addr} {fd : FuncData} (Bt : Bt mg) (F : FnP K "is_order" s_is_order f fd) (hm : mg "is_order" = some (.ref f)) (c_is_part : Cl P w K mg base 2 "is_part" F_is_part) : Cl P w K mg base 3 "is_order" F_is_order := by
  refine fn_d (N := N_is_order) (g := B_is_order) F hm sc_is_order (fun _ _ _ _ _ _ us hl => match us, hl with | [_], _ => rfl) fun cdv A outer s H E hr => ?_
  exact (db_cons (ds_if (dt_w (dw_or (dt_not (dt_val (de_isi kit_tup Bt.isi Bt.tuple PyProof.Rows.boot_tuple (dr_var 0)))) (dw_or1 (dt_not (dt_chain op_le g2_le op_le g2_le (dr_of de_int) (dr_of (de_call1 call_len c1_len Bt.len PySem.boot_len (dr_var 0))) (dr_of de_int)))))) (db_one (ds_ret de_bl)) db_nil)
  (db_cons (ds_setF 1 sc_is_order.nd (df_lst da_nil))
  (db_cons (ds_for PassesOwn.never rfl (di_tup (de_var 0)) (dg_name 2 sc_is_order.nd) (db_cons (ds_if (dt_w (dw_or (dt_not (dt_val (de_call c_is_part hr (by decide) (da_cons (de_var 2) da_nil)))) (dw_or1 (dt_cmp or_in g2_in (dr_of (de_ix (dr_var 2) (dr_of de_int) (fun _ _ => rfl))) (dr_var 1) rfl)))) (db_one (ds_ret de_bl)) db_nil)
  (db_one (ds_app 1 (de_ix (dr_var 2) (dr_of de_int) (fun _ _ => rfl))))))
  (db_one (ds_ret de_bl)))))
theorem ok_compared {P : Program} {w : World} {K : PySem.W.Frag} {mg : Str → Option Value} {base : Heap} {f : Addr} {fd : FuncData} (Bt : Bt mg) (F : FnP K "compared" s_compared f fd) (hm : mg "compared" = some (.ref f)) : Cl P w K mg base 1 "compared" F_compared := by
  refine fn_d (N := N_compared) (g := B_compared) F hm sc_compared (fun _ _ _ _ _ _ us hl => match us, hl with | [_, _, _], _ => rfl) fun cdv A outer s H E hr => ?_
  exact (db_cons (ds_for PassesOwn.never rfl (di_tup (de_var 0)) (dg_tup rfl (dgs_cons 3 sc_compared.nd (dgs_cons 4 sc_compared.nd dgs_nil))) (db_cons (ds_if (dt_cmp or_lt g2_lt (dr_of (de_call2 (call_min2 rfl) c2_min Bt.min PyProof.Rows.boot_min (dr_of (de_call1 call_len c1_len Bt.len PySem.boot_len (dr_var 1))) (dr_of (de_call1 call_len c1_len Bt.len PySem.boot_len (dr_var 2))))) (dr_var 3) (nomark _)) (db_one (ds_ret de_non)) db_nil)
  (db_cons (ds_set 5 sc_compared.nd (de_ix (dr_var 1) (dr_of (de_bin op_sub g2_sub (dr_var 3) (dr_of de_int))) (fun _ _ => rfl)))
  (db_cons (ds_set 6 sc_compared.nd (de_ix (dr_var 2) (dr_of (de_bin op_sub g2_sub (dr_var 3) (dr_of de_int))) (fun _ _ => rfl)))
  (db_cons (ds_if (dt_cmp (op_neD hr.units) g2_ne (dr_of (de_isi kit_str Bt.isi Bt.str PyProof.Rows.boot_str (dr_var 5))) (dr_of (de_isi kit_str Bt.isi Bt.str PyProof.Rows.boot_str (dr_var 6))) (nomark _)) (db_one (ds_ret de_non)) db_nil)
  (db_one (ds_if (dt_cmp (op_neD hr.units) g2_ne (dr_var 5) (dr_var 6) (nomark _)) (db_cons (ds_if (dt_cmp (op_eqD hr.units) g2_eq (dr_of (de_cmp or_lt g2_lt (dr_var 5) (dr_var 6) (nomark _))) (dr_of (de_cmp (op_eqD hr.units) g2_eq (dr_var 4) (dr_of de_str) (nomark _))) (nomark _)) (db_one (ds_ret (de_un un_neg g1_neg (dr_of de_int)))) db_nil)
  (db_one (ds_ret de_int))) db_nil)))))))
  (db_one (ds_ret de_int)))
theorem ok_are_wholes {P : Program} {w : World} {K : PySem.W.Frag} {mg : Str → Option Value} {base : Heap} {f : Addr} {fd : FuncData} (Bt : Bt mg) (F : FnP K "are_wholes" s_are_wholes f fd) (hm : mg "are_wholes" = some (.ref f)) (c_is_whole : Cl P w K mg base 1 "is_whole" F_is_whole) : Cl P w K mg base 2 "are_wholes" F_are_wholes := by
  refine fn_d (N := N_are_wholes) (g := B_are_wholes) F hm sc_are_wholes (fun _ _ _ _ _ _ us hl => match us, hl with | [_], _ => rfl) fun cdv A outer s H E hr => ?_
  exact (db_one (ds_ret (de_and (de_isi kit_tup Bt.isi Bt.tuple PyProof.Rows.boot_tuple (dr_var 0)) (de_one (de_call1 (cr_all rfl) c1_all Bt.all PyProof.Rows.boot_all (dr_of (de_fresh (df_lc rfl sc_are_wholes.nd (di_tup (de_var 0)) (blkOk_by (N := N_are_wholes) (sc := defScope s_are_wholes) (own := [("part", 1)]) (by decide +kernel)) (by decide) (fun _ _ _ _ _ => (dg_name 1 sc_are_wholes.nd)) (fun _ _ _ _ _ => dts_nil) (fun _ _ _ _ _ => (de_call c_is_whole hr (by decide) (da_cons (de_var 1) da_nil)))))))))))
theorem ok_do_grow {P : Program} {w : World} {K : PySem.W.Frag} {mg : Str → Option Value} {base : Heap} {f : Addr} {fd : FuncData} (Bt : Bt mg) (F : FnP K "do_grow" s_do_grow f fd) (hm : mg "do_grow" = some (.ref f)) : Cl P w K mg base 1 "do_grow" F_do_grow := by
  refine fn_d (N := N_do_grow) (g := B_do_grow) F hm sc_do_grow (fun _ _ _ _ _ _ us hl => match us, hl with | [_], _ => rfl) fun cdv A outer s H E hr => ?_
  exact (db_one (ds_ret (de_call1 (cr_all rfl) c1_all Bt.all PyProof.Rows.boot_all (dr_of (de_fresh (df_lc rfl sc_do_grow.nd (di_range1 Bt.range (dr_of (de_bin op_sub g2_sub (dr_of (de_call1 call_len c1_len Bt.len PySem.boot_len (dr_var 0))) (dr_of de_int)))) (blkOk_by (N := N_do_grow) (sc := defScope s_do_grow) (own := [("k", 1)]) (by decide +kernel)) (by decide) (fun _ _ _ _ _ => (dg_name 1 sc_do_grow.nd)) (fun _ _ _ _ _ => dts_nil) (fun _ _ _ _ _ => (de_cmp or_lt g2_lt (dr_of (de_ix (dr_var 0) (dr_var 1) (fun _ _ => rfl))) (dr_of (de_ix (dr_var 0) (dr_of (de_bin or_add g2_add (dr_var 1) (dr_of de_int))) (fun _ _ => rfl))) (nomark _)))))))))
theorem ok_is_line_of {P : Program} {w : World} {K : PySem.W.Frag} {mg : Str → Option Value} {base : Heap} {f : Addr} {fd : FuncData} (Bt : Bt mg) (F : FnP K "is_line_of" s_is_line_of f fd) (hm : mg "is_line_of" = some (.ref f)) (c_are_wholes : Cl P w K mg base 2 "are_wholes" F_are_wholes) : Cl P w K mg base 3 "is_line_of" F_is_line_of := by
  refine fn_d (N := N_is_line_of) (g := B_is_line_of) F hm sc_is_line_of (fun _ _ _ _ _ _ us hl => match us, hl with | [_, _], _ => rfl) fun cdv A outer s H E hr => ?_
  exact (db_cons (ds_if (dt_w (dw_or (dt_not (dt_val (de_call c_are_wholes hr (by decide) (da_cons (de_var 1) da_nil)))) (dw_or1 (dt_cmp or_lt g2_lt (dr_of (de_lenset Bt.len Bt.set (dr_var 1))) (dr_of (de_call1 call_len c1_len Bt.len PySem.boot_len (dr_var 1))) (nomark _))))) (db_one (ds_ret de_bl)) db_nil)
  (db_one (ds_ret (de_call1 (cr_all rfl) c1_all Bt.all PyProof.Rows.boot_all (dr_of (de_fresh (df_lc rfl sc_is_line_of.nd (di_tup (de_var 1)) (blkOk_by (N := N_is_line_of) (sc := defScope s_is_line_of) (own := [("number", 2)]) (by decide +kernel)) (by decide) (fun _ _ _ _ _ => (dg_name 2 sc_is_line_of.nd)) (fun _ _ _ _ _ => dts_nil) (fun _ _ _ _ _ => (de_chain op_le g2_le or_lt g2_lt (dr_of de_int) (dr_var 2) (dr_var 0))))))))))
theorem ok_is_all_of {P : Program} {w : World} {K : PySem.W.Frag} {mg : Str → Option Value} {base : Heap} {f : Addr} {fd : FuncData} (Bt : Bt mg) (F : FnP K "is_all_of" s_is_all_of f fd) (hm : mg "is_all_of" = some (.ref f)) (c_is_line_of : Cl P w K mg base 3 "is_line_of" F_is_line_of) : Cl P w K mg base 4 "is_all_of" F_is_all_of := by
  refine fn_d (N := N_is_all_of) (g := B_is_all_of) F hm sc_is_all_of (fun _ _ _ _ _ _ us hl => match us, hl with | [_, _], _ => rfl) fun cdv A outer s H E hr => ?_
  exact (db_one (ds_ret (de_and (de_call c_is_line_of hr (by decide) (da_cons (de_var 0) (da_cons (de_var 1) da_nil))) (de_one (de_cmp (op_eqD hr.units) g2_eq (dr_of (de_call1 call_len c1_len Bt.len PySem.boot_len (dr_var 1))) (dr_var 0) (nomark _))))))
theorem ok_is_right_ahead {P : Program} {w : World} {K : PySem.W.Frag} {mg : Str → Option Value} {base : Heap} {f : Addr} {fd : FuncData} (Bt : Bt mg) (F : FnP K "is_right_ahead" s_is_right_ahead f fd) (hm : mg "is_right_ahead" = some (.ref f)) (c_compared : Cl P w K mg base 1 "compared" F_compared) : Cl P w K mg base 2 "is_right_ahead" F_is_right_ahead := by
  refine fn_d (N := N_is_right_ahead) (g := B_is_right_ahead) F hm sc_is_right_ahead (fun _ _ _ _ _ _ us hl => match us, hl with | [_, _, _, _], _ => rfl) fun cdv A outer s H E hr => ?_
  exact (db_cons (ds_set 4 sc_is_right_ahead.nd (de_call c_compared hr (by decide) (da_cons (de_var 1) (da_cons (de_ix (dr_var 0) (dr_var 2) (fun _ _ => rfl)) (da_cons (de_ix (dr_var 0) (dr_var 3) (fun _ _ => rfl)) da_nil)))))
  (db_one (ds_ret (de_and (de_cmp op_notN g2_isnot (dr_var 4) (dr_of de_non) (nomark _)) (de_one (de_cmp or_lt g2_lt (dr_var 4) (dr_of de_int) (nomark _)))))))
theorem ok_comes_ahead {P : Program} {w : World} {K : PySem.W.Frag} {mg : Str → Option Value} {base : Heap} {f : Addr} {fd : FuncData} (Bt : Bt mg) (F : FnP K "comes_ahead" s_comes_ahead f fd) (hm : mg "comes_ahead" = some (.ref f)) (c_compared : Cl P w K mg base 1 "compared" F_compared) : Cl P w K mg base 2 "comes_ahead" F_comes_ahead := by
  refine fn_d (N := N_comes_ahead) (g := B_comes_ahead) F hm sc_comes_ahead (fun _ _ _ _ _ _ us hl => match us, hl with | [_, _, _, _], _ => rfl) fun cdv A outer s H E hr => ?_
  exact (db_one (ds_ret (de_cmp (op_eqD hr.units) g2_eq (dr_of (de_call c_compared hr (by decide) (da_cons (de_var 1) (da_cons (de_ix (dr_var 0) (dr_var 2) (fun _ _ => rfl)) (da_cons (de_ix (dr_var 0) (dr_var 3) (fun _ _ => rfl)) da_nil))))) (dr_of (de_un un_neg g1_neg (dr_of de_int))) (nomark _))))
theorem ok_does_rise {P : Program} {w : World} {K : PySem.W.Frag} {mg : Str → Option Value} {base : Heap} {f : Addr} {fd : FuncData} (Bt : Bt mg) (F : FnP K "does_rise" s_does_rise f fd) (hm : mg "does_rise" = some (.ref f)) (c_is_right_ahead : Cl P w K mg base 2 "is_right_ahead" F_is_right_ahead) : Cl P w K mg base 3 "does_rise" F_does_rise := by
  refine fn_d (N := N_does_rise) (g := B_does_rise) F hm sc_does_rise (fun _ _ _ _ _ _ us hl => match us, hl with | [_, _, _], _ => rfl) fun cdv A outer s H E hr => ?_
  exact (db_one (ds_ret (de_call1 (cr_all rfl) c1_all Bt.all PyProof.Rows.boot_all (dr_of (de_fresh (df_lc rfl sc_does_rise.nd (di_range1 Bt.range (dr_of (de_bin op_sub g2_sub (dr_of (de_call1 call_len c1_len Bt.len PySem.boot_len (dr_var 2))) (dr_of de_int)))) (blkOk_by (N := N_does_rise) (sc := defScope s_does_rise) (own := [("k", 3)]) (by decide +kernel)) (by decide) (fun _ _ _ _ _ => (dg_name 3 sc_does_rise.nd)) (fun _ _ _ _ _ => dts_nil) (fun _ _ _ _ _ => (de_call c_is_right_ahead hr (by decide) (da_cons (de_var 0) (da_cons (de_var 1) (da_cons (de_ix (dr_var 2) (dr_var 3) (fun _ _ => rfl)) (da_cons (de_ix (dr_var 2) (dr_of (de_bin or_add g2_add (dr_var 3) (dr_of de_int))) (fun _ _ => rfl)) da_nil))))))))))))
theorem ok_does_fall {P : Program} {w : World} {K : PySem.W.Frag} {mg : Str → Option Value} {base : Heap} {f : Addr} {fd : FuncData} (Bt : Bt mg) (F : FnP K "does_fall" s_does_fall f fd) (hm : mg "does_fall" = some (.ref f)) (c_comes_ahead : Cl P w K mg base 2 "comes_ahead" F_comes_ahead) : Cl P w K mg base 3 "does_fall" F_does_fall := by
  refine fn_d (N := N_does_fall) (g := B_does_fall) F hm sc_does_fall (fun _ _ _ _ _ _ us hl => match us, hl with | [_, _, _], _ => rfl) fun cdv A outer s H E hr => ?_
  exact (db_one (ds_ret (de_call1 (cr_all rfl) c1_all Bt.all PyProof.Rows.boot_all (dr_of (de_fresh (df_lc rfl sc_does_fall.nd (di_range1 Bt.range (dr_of (de_bin op_sub g2_sub (dr_of (de_call1 call_len c1_len Bt.len PySem.boot_len (dr_var 2))) (dr_of de_int)))) (blkOk_by (N := N_does_fall) (sc := defScope s_does_fall) (own := [("k", 3)]) (by decide +kernel)) (by decide) (fun _ _ _ _ _ => (dg_name 3 sc_does_fall.nd)) (fun _ _ _ _ _ => dts_nil) (fun _ _ _ _ _ => (de_call c_comes_ahead hr (by decide) (da_cons (de_var 0) (da_cons (de_var 1) (da_cons (de_ix (dr_var 2) (dr_of (de_bin or_add g2_add (dr_var 3) (dr_of de_int))) (fun _ _ => rfl)) (da_cons (de_ix (dr_var 2) (dr_var 3) (fun _ _ => rfl)) da_nil))))))))))))
theorem ok_is_ordered {P : Program} {w : World} {K : PySem.W.Frag} {mg : Str → Option Value} {base : Heap} {f : Addr} {fd : FuncData} (Bt : Bt mg) (F : FnP K "is_ordered" s_is_ordered f fd) (hm : mg "is_ordered" = some (.ref f)) (c_is_all_of : Cl P w K mg base 4 "is_all_of" F_is_all_of) (c_does_rise : Cl P w K mg base 3 "does_rise" F_does_rise) (c_comes_ahead : Cl P w K mg base 2 "comes_ahead" F_comes_ahead) : Cl P w K mg base 5 "is_ordered" F_is_ordered := by
  refine fn_d (N := N_is_ordered) (g := B_is_ordered) F hm sc_is_ordered (fun _ _ _ _ _ _ us hl => match us, hl with | [_, _, _], _ => rfl) fun cdv A outer s H E hr => ?_
  exact (db_cons (ds_if (dt_w (dw_or (dt_not (dt_val (de_call c_is_all_of hr (by decide) (da_cons (de_call1 call_len c1_len Bt.len PySem.boot_len (dr_var 0)) (da_cons (de_var 2) da_nil))))) (dw_or1 (dt_not (dt_val (de_call c_does_rise hr (by decide) (da_cons (de_var 0) (da_cons (de_var 1) (da_cons (de_var 2) da_nil))))))))) (db_one (ds_ret de_bl)) db_nil)
  (db_cons (ds_for PassesOwn.never rfl (di_range1 Bt.range (dr_of (de_bin op_sub g2_sub (dr_of (de_call1 call_len c1_len Bt.len PySem.boot_len (dr_var 2))) (dr_of de_int)))) (dg_name 3 sc_is_ordered.nd) (db_one (ds_if (dt_w (dw_and (dt_cmp op_gt g2_gt (dr_of (de_ix (dr_var 2) (dr_var 3) (fun _ _ => rfl))) (dr_of (de_ix (dr_var 2) (dr_of (de_bin or_add g2_add (dr_var 3) (dr_of de_int))) (fun _ _ => rfl))) (nomark _)) (dw_and1 (dt_not (dt_val (de_call c_comes_ahead hr (by decide) (da_cons (de_var 0) (da_cons (de_var 1) (da_cons (de_ix (dr_var 2) (dr_var 3) (fun _ _ => rfl)) (da_cons (de_ix (dr_var 2) (dr_of (de_bin or_add g2_add (dr_var 3) (dr_of de_int))) (fun _ _ => rfl)) da_nil)))))))))) (db_one (ds_ret de_bl)) db_nil)))
  (db_one (ds_ret de_bl))))
theorem ok_judge_held {P : Program} {w : World} {K : PySem.W.Frag} {mg : Str → Option Value} {base : Heap} {f : Addr} {fd : FuncData} (Bt : Bt mg) (F : FnP K "judge_held" s_judge_held f fd) (hm : mg "judge_held" = some (.ref f)) (c_is_all_of : Cl P w K mg base 4 "is_all_of" F_is_all_of) (c_does_rise : Cl P w K mg base 3 "does_rise" F_does_rise) : Cl P w K mg base 5 "judge_held" F_judge_held := by
  refine fn_d (N := N_judge_held) (g := B_judge_held) F hm sc_judge_held (fun _ _ _ _ _ _ us hl => match us, hl with | [_, _, _], _ => rfl) fun cdv A outer s H E hr => ?_
  exact (db_one (ds_ret (de_and (de_call c_is_all_of hr (by decide) (da_cons (de_call1 call_len c1_len Bt.len PySem.boot_len (dr_var 0)) (da_cons (de_var 2) da_nil))) (de_one (de_call c_does_rise hr (by decide) (da_cons (de_var 0) (da_cons (de_var 1) (da_cons (de_var 2) da_nil))))))))
theorem ok_judge_unheld {P : Program} {w : World} {K : PySem.W.Frag} {mg : Str → Option Value} {base : Heap} {f : Addr} {fd : FuncData} (Bt : Bt mg) (F : FnP K "judge_unheld" s_judge_unheld f fd) (hm : mg "judge_unheld" = some (.ref f)) (c_are_wholes : Cl P w K mg base 2 "are_wholes" F_are_wholes) (c_compared : Cl P w K mg base 1 "compared" F_compared) : Cl P w K mg base 3 "judge_unheld" F_judge_unheld := by
  refine fn_d (N := N_judge_unheld) (g := B_judge_unheld) F hm sc_judge_unheld (fun _ _ _ _ _ _ us hl => match us, hl with | [_, _, _], _ => rfl) fun cdv A outer s H E hr => ?_
  exact (db_cons (ds_if (dt_w (dw_or (dt_not (dt_val (de_call c_are_wholes hr (by decide) (da_cons (de_var 2) da_nil)))) (dw_or1 (dt_cmp (op_neD hr.units) g2_ne (dr_of (de_call1 call_len c1_len Bt.len PySem.boot_len (dr_var 2))) (dr_of de_int) (nomark _))))) (db_one (ds_ret de_bl)) db_nil)
  (db_cons (ds_asg (de_var 2) (dg_tup rfl (dgs_cons 3 sc_judge_unheld.nd (dgs_cons 4 sc_judge_unheld.nd dgs_nil))))
  (db_one (ds_ret (de_and (de_chain3 op_le g2_le or_lt g2_lt or_lt g2_lt (dr_of de_int) (dr_var 3) (dr_var 4) (dr_of (de_call1 call_len c1_len Bt.len PySem.boot_len (dr_var 0)))) (de_one (de_cmp op_isN g2_is (dr_of (de_call c_compared hr (by decide) (da_cons (de_var 1) (da_cons (de_ix (dr_var 0) (dr_var 3) (fun _ _ => rfl)) (da_cons (de_ix (dr_var 0) (dr_var 4) (fun _ _ => rfl)) da_nil))))) (dr_of de_non) (nomark _))))))))
theorem ok_exchanged {P : Program} {w : World} {K : PySem.W.Frag} {mg : Str → Option Value} {base : Heap} {f : Addr} {fd : FuncData} (Bt : Bt mg) (F : FnP K "exchanged" s_exchanged f fd) (hm : mg "exchanged" = some (.ref f)) : Cl P w K mg base 1 "exchanged" F_exchanged := by
  refine fn_d (N := N_exchanged) (g := B_exchanged) F hm sc_exchanged (fun _ _ _ _ _ _ us hl => match us, hl with | [_, _], _ => rfl) fun cdv A outer s H E hr => ?_
  exact (db_cons (ds_setF 2 sc_exchanged.nd (df_listRg1 rfl Bt.list Bt.range (dr_var 0)))
  (db_cons (ds_for PassesOwn.never rfl (di_tup (de_var 1)) (dg_name 3 sc_exchanged.nd) (db_cons (ds_if (dt_w (dw_or (dt_not (dt_chain op_le g2_le or_lt g2_lt (dr_of de_int) (dr_var 3) (dr_of (de_bin op_sub g2_sub (dr_var 0) (dr_of de_int))))) (dw_or1 (dt_cmp op_gt g2_gt (dr_of (de_ix (dr_var 2) (dr_var 3) (fun _ _ => rfl))) (dr_of (de_ix (dr_var 2) (dr_of (de_bin or_add g2_add (dr_var 3) (dr_of de_int))) (fun _ _ => rfl))) (nomark _))))) (db_one (ds_ret de_non)) db_nil)
  (db_one (ds_swap 2 (de_ix (dr_var 2) (dr_of (de_bin or_add g2_add (dr_var 3) (dr_of de_int))) (fun _ _ => rfl)) (de_ix (dr_var 2) (dr_var 3) (fun _ _ => rfl)) (de_var 3) (de_bin or_add g2_add (dr_var 3) (dr_of de_int)) rfl))))
  (db_one (ds_ret (de_callT1 call_tuple_of c1_tup Bt.tuple PyProof.Rows.boot_tuple (dr_var 2))))))
theorem ok_judge_wrong {P : Program} {w : World} {K : PySem.W.Frag} {mg : Str → Option Value} {base : Heap} {f : Addr} {fd : FuncData} (Bt : Bt mg) (F : FnP K "judge_wrong" s_judge_wrong f fd) (hm : mg "judge_wrong" = some (.ref f)) (c_exchanged : Cl P w K mg base 1 "exchanged" F_exchanged) (c_is_ordered : Cl P w K mg base 5 "is_ordered" F_is_ordered) (c_are_wholes : Cl P w K mg base 2 "are_wholes" F_are_wholes) : Cl P w K mg base 6 "judge_wrong" F_judge_wrong := by
  refine fn_d (N := N_judge_wrong) (g := B_judge_wrong) F hm sc_judge_wrong (fun _ _ _ _ _ _ us hl => match us, hl with | [_, _, _, _], _ => rfl) fun cdv A outer s H E hr => ?_
  exact (db_cons (ds_if (dt_w (dw_or (dt_not (dt_val (de_isi kit_tup Bt.isi Bt.tuple PyProof.Rows.boot_tuple (dr_var 3)))) (dw_or1 (dt_cmp (op_neD hr.units) g2_ne (dr_of (de_call1 call_len c1_len Bt.len PySem.boot_len (dr_var 3))) (dr_of de_int) (nomark _))))) (db_one (ds_ret de_bl)) db_nil)
  (db_cons (ds_asg (de_var 3) (dg_tup rfl (dgs_cons 4 sc_judge_wrong.nd (dgs_cons 5 sc_judge_wrong.nd dgs_nil))))
  (db_cons (ds_if (dt_w (dw_or (dt_not (dt_val (de_call c_is_ordered hr (by decide) (da_cons (de_var 0) (da_cons (de_var 1) (da_cons (de_var 4) da_nil)))))) (dw_or (dt_not (dt_val (de_call c_are_wholes hr (by decide) (da_cons (de_var 5) da_nil)))) (dw_or1 (dt_cmp (op_neD hr.units) g2_ne (dr_of (de_call1 call_len c1_len Bt.len PySem.boot_len (dr_var 5))) (dr_var 2) (nomark _)))))) (db_one (ds_ret de_bl)) db_nil)
  (db_one (ds_ret (de_cmp (op_eqD hr.units) g2_eq (dr_of (de_call c_exchanged hr (by decide) (da_cons (de_call1 call_len c1_len Bt.len PySem.boot_len (dr_var 0)) (da_cons (de_var 5) da_nil)))) (dr_var 4) (nomark _)))))))
theorem ok_is_fall {P : Program} {w : World} {K : PySem.W.Frag} {mg : Str → Option Value} {base : Heap} {f : Addr} {fd : FuncData} (Bt : Bt mg) (F : FnP K "is_fall" s_is_fall f fd) (hm : mg "is_fall" = some (.ref f)) (c_is_line_of : Cl P w K mg base 3 "is_line_of" F_is_line_of) (c_do_grow : Cl P w K mg base 1 "do_grow" F_do_grow) (c_does_fall : Cl P w K mg base 3 "does_fall" F_does_fall) : Cl P w K mg base 4 "is_fall" F_is_fall := by
  refine fn_d (N := N_is_fall) (g := B_is_fall) F hm sc_is_fall (fun _ _ _ _ _ _ us hl => match us, hl with | [_, _, _], _ => rfl) fun cdv A outer s H E hr => ?_
  exact (db_one (ds_ret (de_and (de_call c_is_line_of hr (by decide) (da_cons (de_call1 call_len c1_len Bt.len PySem.boot_len (dr_var 0)) (da_cons (de_var 2) da_nil))) (de_and (de_cmp (op_neD hr.units) g2_ne (dr_var 2) (dr_of (de_tup da_nil)) (nomark _)) (de_and (de_call c_do_grow hr (by decide) (da_cons (de_var 2) da_nil)) (de_one (de_call c_does_fall hr (by decide) (da_cons (de_var 0) (da_cons (de_var 1) (da_cons (de_var 2) da_nil))))))))))
theorem ok_judge_stays {P : Program} {w : World} {K : PySem.W.Frag} {mg : Str → Option Value} {base : Heap} {f : Addr} {fd : FuncData} (Bt : Bt mg) (F : FnP K "judge_stays" s_judge_stays f fd) (hm : mg "judge_stays" = some (.ref f)) (c_is_line_of : Cl P w K mg base 3 "is_line_of" F_is_line_of) (c_do_grow : Cl P w K mg base 1 "do_grow" F_do_grow) (c_does_rise : Cl P w K mg base 3 "does_rise" F_does_rise) (c_is_fall : Cl P w K mg base 4 "is_fall" F_is_fall) : Cl P w K mg base 5 "judge_stays" F_judge_stays := by
  refine fn_d (N := N_judge_stays) (g := B_judge_stays) F hm sc_judge_stays (fun _ _ _ _ _ _ us hl => match us, hl with | [_, _, _, _], _ => rfl) fun cdv A outer s H E hr => ?_
  exact (db_cons (ds_if (dt_w (dw_or (dt_not (dt_val (de_isi kit_tup Bt.isi Bt.tuple PyProof.Rows.boot_tuple (dr_var 3)))) (dw_or1 (dt_cmp (op_neD hr.units) g2_ne (dr_of (de_call1 call_len c1_len Bt.len PySem.boot_len (dr_var 3))) (dr_of de_int) (nomark _))))) (db_one (ds_ret de_bl)) db_nil)
  (db_cons (ds_asg (de_var 3) (dg_tup rfl (dgs_cons 6 sc_judge_stays.nd (dgs_cons 7 sc_judge_stays.nd dgs_nil))))
  (db_cons (ds_if (dt_w (dw_or (dt_not (dt_val (de_call c_is_line_of hr (by decide) (da_cons (de_call1 call_len c1_len Bt.len PySem.boot_len (dr_var 0)) (da_cons (de_var 6) da_nil))))) (dw_or (dt_not (dt_val (de_call c_do_grow hr (by decide) (da_cons (de_var 6) da_nil)))) (dw_or1 (dt_not (dt_val (de_call c_does_rise hr (by decide) (da_cons (de_var 0) (da_cons (de_var 1) (da_cons (de_var 6) da_nil)))))))))) (db_one (ds_ret de_bl)) db_nil)
  (db_cons (ds_if (dt_w (dw_or (dt_not (dt_val (de_isi kit_tup Bt.isi Bt.tuple PyProof.Rows.boot_tuple (dr_var 7)))) (dw_or1 (dt_not (dt_val (de_call1 (cr_all rfl) c1_all Bt.all PyProof.Rows.boot_all (dr_of (de_fresh (df_lc rfl sc_judge_stays.nd (di_tup (de_var 7)) (blkOk_by (N := N_judge_stays) (sc := defScope s_judge_stays) (own := [("part", 5)]) (by decide +kernel)) (by decide) (fun _ _ _ _ _ => (dg_name 5 sc_judge_stays.nd)) (fun _ _ _ _ _ => dts_nil) (fun _ _ _ _ _ => (de_call c_is_fall hr (by decide) (da_cons (de_var 0) (da_cons (de_var 1) (da_cons (de_var 5) da_nil)))))))))))))) (db_one (ds_ret de_bl)) db_nil)
  (db_cons (ds_setF 4 sc_judge_stays.nd (df_lst da_nil))
  (db_cons (ds_for PassesOwn.never rfl (di_tup (de_var 7)) (dg_name 5 sc_judge_stays.nd) (db_one (ds_ext 4 (df_callT1 call_list_of cf_list Bt.list PyProof.Rows.boot_list (dr_var 5)))))
  (db_one (ds_ret (de_and (de_cmp (op_eqD hr.units) g2_eq (dr_of (de_call1 cr_sortA c1_sorted Bt.sorted PyProof.Rows.boot_sorted (dr_var 4))) (dr_of (de_fresh (df_listRg1 rfl Bt.list Bt.range (dr_of (de_call1 call_len c1_len Bt.len PySem.boot_len (dr_var 0)))))) (nomark _)) (de_and (de_cmp (op_eqD hr.units) g2_eq (dr_of (de_call1 call_len c1_len Bt.len PySem.boot_len (dr_var 6))) (dr_var 2) (nomark _)) (de_one (de_cmp (op_eqD hr.units) g2_eq (dr_of (de_call1 call_len c1_len Bt.len PySem.boot_len (dr_var 7))) (dr_var 2) (nomark _)))))))))))))
theorem ok_is_run {P : Program} {w : World} {K : PySem.W.Frag} {mg : Str → Option Value} {base : Heap} {f : Addr} {fd : FuncData} (Bt : Bt mg) (F : FnP K "is_run" s_is_run f fd) (hm : mg "is_run" = some (.ref f)) (c_does_rise : Cl P w K mg base 3 "does_rise" F_does_rise) (c_does_fall : Cl P w K mg base 3 "does_fall" F_does_fall) : Cl P w K mg base 4 "is_run" F_is_run := by
  refine fn_d (N := N_is_run) (g := B_is_run) F hm sc_is_run (fun _ _ _ _ _ _ us hl => match us, hl with | [_, _, _, _], _ => rfl) fun cdv A outer s H E hr => ?_
  exact (db_cons (ds_set 4 sc_is_run.nd (de_tupRg2 rfl Bt.tuple Bt.range (dr_var 2) (dr_var 3)))
  (db_one (ds_ret (de_or (de_call c_does_rise hr (by decide) (da_cons (de_var 0) (da_cons (de_var 1) (da_cons (de_var 4) da_nil)))) (de_one (de_call c_does_fall hr (by decide) (da_cons (de_var 0) (da_cons (de_var 1) (da_cons (de_var 4) da_nil)))))))))
theorem ok_judge_runs {P : Program} {w : World} {K : PySem.W.Frag} {mg : Str → Option Value} {base : Heap} {f : Addr} {fd : FuncData} (Bt : Bt mg) (F : FnP K "judge_runs" s_judge_runs f fd) (hm : mg "judge_runs" = some (.ref f)) (c_is_line_of : Cl P w K mg base 3 "is_line_of" F_is_line_of) (c_do_grow : Cl P w K mg base 1 "do_grow" F_do_grow) (c_is_run : Cl P w K mg base 4 "is_run" F_is_run) : Cl P w K mg base 5 "judge_runs" F_judge_runs := by
  refine fn_d (N := N_judge_runs) (g := B_judge_runs) F hm sc_judge_runs (fun _ _ _ _ _ _ us hl => match us, hl with | [_, _, _, _], _ => rfl) fun cdv A outer s H E hr => ?_
  exact (db_cons (ds_if (dt_w (dw_or (dt_not (dt_val (de_call c_is_line_of hr (by decide) (da_cons (de_call1 call_len c1_len Bt.len PySem.boot_len (dr_var 0)) (da_cons (de_var 3) da_nil))))) (dw_or (dt_not (dt_val (de_call c_do_grow hr (by decide) (da_cons (de_var 3) da_nil)))) (dw_or1 (dt_cmp (op_neD hr.units) g2_ne (dr_of (de_call1 call_len c1_len Bt.len PySem.boot_len (dr_var 3))) (dr_var 2) (nomark _)))))) (db_one (ds_ret de_bl)) db_nil)
  (db_cons (ds_if (dt_w (dw_or (dt_cmp (op_eqD hr.units) g2_eq (dr_var 3) (dr_of (de_tup da_nil)) (nomark _)) (dw_or1 (dt_cmp (op_neD hr.units) g2_ne (dr_of (de_ix (dr_var 3) (dr_of de_int) (fun _ _ => rfl))) (dr_of de_int) (nomark _))))) (db_one (ds_ret (de_cmp (op_eqD hr.units) g2_eq (dr_var 0) (dr_of (de_tup da_nil)) (nomark _)))) db_nil)
  (db_cons (ds_set 4 sc_judge_runs.nd (de_bin or_add g2_add (dr_of (de_fresh (df_callT1 call_list_of cf_list Bt.list PyProof.Rows.boot_list (dr_of (de_slice (dr_var 3) (do_some de_int) do_none))))) (dr_of (de_fresh (df_lst (da_cons (de_call1 call_len c1_len Bt.len PySem.boot_len (dr_var 0)) da_nil))))))
  (db_cons (ds_for PassesOwn.never rfl (di_range1 Bt.range (dr_of (de_call1 call_len c1_len Bt.len PySem.boot_len (dr_var 3)))) (dg_name 5 sc_judge_runs.nd) (db_cons (ds_if (dt_not (dt_val (de_call c_is_run hr (by decide) (da_cons (de_var 0) (da_cons (de_var 1) (da_cons (de_ix (dr_var 3) (dr_var 5) (fun _ _ => rfl)) (da_cons (de_ix (dr_var 4) (dr_var 5) (fun _ _ => rfl)) da_nil))))))) (db_one (ds_ret de_bl)) db_nil)
  (db_one (ds_if (dt_w (dw_and (dt_cmp or_lt g2_lt (dr_of (de_ix (dr_var 4) (dr_var 5) (fun _ _ => rfl))) (dr_of (de_call1 call_len c1_len Bt.len PySem.boot_len (dr_var 0))) (nomark _)) (dw_and1 (dt_val (de_call c_is_run hr (by decide) (da_cons (de_var 0) (da_cons (de_var 1) (da_cons (de_ix (dr_var 3) (dr_var 5) (fun _ _ => rfl)) (da_cons (de_bin or_add g2_add (dr_of (de_ix (dr_var 4) (dr_var 5) (fun _ _ => rfl))) (dr_of de_int)) da_nil))))))))) (db_one (ds_ret de_bl)) db_nil))))
  (db_one (ds_ret de_bl))))))
theorem ok_holds_of_row {P : Program} {w : World} {K : PySem.W.Frag} {mg : Str → Option Value} {base : Heap} {f : Addr} {fd : FuncData} (Bt : Bt mg) (F : FnP K "holds_of_row" s_holds_of_row f fd) (hm : mg "holds_of_row" = some (.ref f)) (c_judge_unheld : Cl P w K mg base 3 "judge_unheld" F_judge_unheld) (c_judge_held : Cl P w K mg base 5 "judge_held" F_judge_held) (c_is_row : Cl P w K mg base 4 "is_row" F_is_row) (c_is_order : Cl P w K mg base 3 "is_order" F_is_order) : Cl P w K mg base 6 "holds_of_row" F_holds_of_row := by
  refine fn_d (N := N_holds_of_row) (g := B_holds_of_row) F hm sc_holds_of_row (fun _ _ _ _ _ _ us hl => match us, hl with | [_, _], _ => rfl) fun cdv A outer s H E hr => ?_
  exact (db_cons (ds_asg (de_var 0) (dg_tup rfl (dgs_cons 2 sc_holds_of_row.nd (dgs_cons 3 sc_holds_of_row.nd (dgs_cons 4 sc_holds_of_row.nd dgs_nil)))))
  (db_cons (ds_if (dt_w (dw_or (dt_not (dt_val (de_call c_is_row hr (by decide) (da_cons (de_var 3) da_nil)))) (dw_or1 (dt_not (dt_val (de_call c_is_order hr (by decide) (da_cons (de_var 4) da_nil))))))) (db_one (ds_ret de_bl)) db_nil)
  (db_cons (ds_if (dt_cmp (op_eqD hr.units) g2_eq (dr_var 2) (dr_of de_str) (nomark _)) (db_one (ds_ret (de_call c_judge_held hr (by decide) (da_cons (de_var 3) (da_cons (de_var 4) (da_cons (de_var 1) da_nil)))))) db_nil)
  (db_one (ds_ret (de_call c_judge_unheld hr (by decide) (da_cons (de_var 3) (da_cons (de_var 4) (da_cons (de_var 1) da_nil)))))))))
theorem ok_holds_of_more {P : Program} {w : World} {K : PySem.W.Frag} {mg : Str → Option Value} {base : Heap} {f : Addr} {fd : FuncData} (Bt : Bt mg) (F : FnP K "holds_of_more" s_holds_of_more f fd) (hm : mg "holds_of_more" = some (.ref f)) (c_judge_runs : Cl P w K mg base 5 "judge_runs" F_judge_runs) (c_is_whole : Cl P w K mg base 1 "is_whole" F_is_whole) (c_judge_wrong : Cl P w K mg base 6 "judge_wrong" F_judge_wrong) (c_judge_stays : Cl P w K mg base 5 "judge_stays" F_judge_stays) (c_is_row : Cl P w K mg base 4 "is_row" F_is_row) (c_is_order : Cl P w K mg base 3 "is_order" F_is_order) (c_is_ordered : Cl P w K mg base 5 "is_ordered" F_is_ordered) : Cl P w K mg base 7 "holds_of_more" F_holds_of_more := by
  refine fn_d (N := N_holds_of_more) (g := B_holds_of_more) F hm sc_holds_of_more (fun _ _ _ _ _ _ us hl => match us, hl with | [_, _], _ => rfl) fun cdv A outer s H E hr => ?_
  exact (db_cons (ds_asg (de_var 0) (dg_tup rfl (dgs_cons 2 sc_holds_of_more.nd (dgs_cons 3 sc_holds_of_more.nd (dgs_cons 4 sc_holds_of_more.nd (dgs_cons 5 sc_holds_of_more.nd dgs_nil))))))
  (db_cons (ds_if (dt_w (dw_or (dt_not (dt_val (de_call c_is_row hr (by decide) (da_cons (de_var 3) da_nil)))) (dw_or1 (dt_not (dt_val (de_call c_is_order hr (by decide) (da_cons (de_var 4) da_nil))))))) (db_one (ds_ret de_bl)) db_nil)
  (db_cons (ds_if (dt_cmp (op_eqD hr.units) g2_eq (dr_var 2) (dr_of de_str) (nomark _)) (db_one (ds_ret (de_and (de_cmp op_isN g2_is (dr_var 1) (dr_of de_non) (nomark _)) (de_one (de_call c_is_ordered hr (by decide) (da_cons (de_var 3) (da_cons (de_var 4) (da_cons (de_var 5) da_nil)))))))) db_nil)
  (db_cons (ds_if (dt_not (dt_val (de_call c_is_whole hr (by decide) (da_cons (de_var 5) da_nil)))) (db_one (ds_ret de_bl)) db_nil)
  (db_cons (ds_if (dt_cmp (op_eqD hr.units) g2_eq (dr_var 2) (dr_of de_str) (nomark _)) (db_one (ds_ret (de_call c_judge_wrong hr (by decide) (da_cons (de_var 3) (da_cons (de_var 4) (da_cons (de_var 5) (da_cons (de_var 1) da_nil))))))) db_nil)
  (db_cons (ds_if (dt_cmp (op_eqD hr.units) g2_eq (dr_var 2) (dr_of de_str) (nomark _)) (db_one (ds_ret (de_call c_judge_stays hr (by decide) (da_cons (de_var 3) (da_cons (de_var 4) (da_cons (de_var 5) (da_cons (de_var 1) da_nil))))))) db_nil)
  (db_one (ds_ret (de_call c_judge_runs hr (by decide) (da_cons (de_var 3) (da_cons (de_var 4) (da_cons (de_var 5) (da_cons (de_var 1) da_nil)))))))))))))
theorem ok_holds {P : Program} {w : World} {K : PySem.W.Frag} {mg : Str → Option Value} {base : Heap} {f : Addr} {fd : FuncData} (Bt : Bt mg) (F : FnP K "holds" s_holds f fd) (hm : mg "holds" = some (.ref f)) (c_holds_of_more : Cl P w K mg base 7 "holds_of_more" F_holds_of_more) (c_holds_of_row : Cl P w K mg base 6 "holds_of_row" F_holds_of_row) (c_is_whole : Cl P w K mg base 1 "is_whole" F_is_whole) : Cl P w K mg base 8 "holds" F_holds := by
  refine fn_d (N := N_holds) (g := B_holds) F hm sc_holds (fun _ _ _ _ _ _ us hl => match us, hl with | [_, _], _ => rfl) fun cdv A outer s H E hr => ?_
  exact (db_cons (ds_if (dt_w (dw_or (dt_not (dt_val (de_isi kit_tup Bt.isi Bt.tuple PyProof.Rows.boot_tuple (dr_var 0)))) (dw_or (dt_not (dt_chain op_le g2_le op_le g2_le (dr_of de_int) (dr_of (de_call1 call_len c1_len Bt.len PySem.boot_len (dr_var 0))) (dr_of de_int))) (dw_or1 (dt_not (dt_val (de_isi kit_str Bt.isi Bt.str PyProof.Rows.boot_str (dr_of (de_ix (dr_var 0) (dr_of de_int) (fun _ _ => rfl)))))))))) (db_one (ds_ret de_bl)) db_nil)
  (db_cons (ds_if (dt_w (dw_and (dt_cmp (op_eqD hr.units) g2_eq (dr_of (de_call1 call_len c1_len Bt.len PySem.boot_len (dr_var 0))) (dr_of de_int) (nomark _)) (dw_and1 (dt_cmp or_in g2_in (dr_of (de_ix (dr_var 0) (dr_of de_int) (fun _ _ => rfl))) (dr_of (de_tup (da_cons de_str (da_cons de_str (da_cons de_str (da_cons de_str da_nil)))))) rfl)))) (db_one (ds_ret (de_call c_holds_of_more hr (by decide) (da_cons (de_var 0) (da_cons (de_var 1) da_nil))))) db_nil)
  (db_cons (ds_if (dt_w (dw_and (dt_cmp (op_eqD hr.units) g2_eq (dr_of (de_call1 call_len c1_len Bt.len PySem.boot_len (dr_var 0))) (dr_of de_int) (nomark _)) (dw_and1 (dt_cmp or_in g2_in (dr_of (de_ix (dr_var 0) (dr_of de_int) (fun _ _ => rfl))) (dr_of (de_tup (da_cons de_str (da_cons de_str (da_cons de_str da_nil))))) rfl)))) (db_one ds_no) db_nil)
  (db_cons (ds_if (dt_w (dw_and (dt_cmp (op_eqD hr.units) g2_eq (dr_of (de_call1 call_len c1_len Bt.len PySem.boot_len (dr_var 0))) (dr_of de_int) (nomark _)) (dw_and1 (dt_cmp or_in g2_in (dr_of (de_ix (dr_var 0) (dr_of de_int) (fun _ _ => rfl))) (dr_of (de_tup (da_cons de_str (da_cons de_str da_nil)))) rfl)))) (db_one (ds_ret (de_call c_holds_of_row hr (by decide) (da_cons (de_var 0) (da_cons (de_var 1) da_nil))))) db_nil)
  db_no))))
theorem ok_law_cell {P : Program} {w : World} {K : PySem.W.Frag} {mg : Str → Option Value} {base : Heap} {f : Addr} {fd : FuncData} (Bt : Bt mg) (F : FnP K "_law_cell" s_law_cell f fd) (hm : mg "_law_cell" = some (.ref f)) : Cl P w K mg base 1 "_law_cell" F_law_cell := by
  refine fn_d (N := N_law_cell) (g := B_law_cell) F hm sc_law_cell (fun _ _ _ _ _ _ us hl => match us, hl with | [_, _], _ => rfl) fun cdv A outer s H E hr => ?_
  exact (db_cons (ds_if (dt_cmp or_lt g2_lt (dr_var 1) (dr_of (de_call1 call_len c1_len Bt.len PySem.boot_len (dr_var 0))) (nomark _)) (db_one (ds_ret (de_ix (dr_var 0) (dr_var 1) (fun _ _ => rfl)))) db_nil)
  (db_cons (ds_set 2 sc_law_cell.nd (de_bin op_mod g2_mod (dr_of (de_bin op_mul g2_mul (dr_of de_int) (dr_of (de_bin or_add g2_add (dr_of (de_bin or_add g2_add (dr_of (de_bin op_mul g2_mul (dr_var 1) (dr_var 1))) (dr_of (de_bin op_mul g2_mul (dr_of de_int) (dr_var 1))))) (dr_of de_int))))) (dr_of de_int)))
  (db_cons (ds_for PassesOwn.never rfl (di_list (de_slice (dr_var 0) do_none (do_some de_int))) (dg_name 3 sc_law_cell.nd) (db_one (ds_set 2 sc_law_cell.nd (de_bin op_mod g2_mod (dr_of (de_bin or_add g2_add (dr_of (de_bin op_mul g2_mul (dr_var 2) (dr_of de_int))) (dr_var 3))) (dr_of de_int)))))
  (db_one (ds_ret (de_var 2))))))
theorem ok_law_draws {P : Program} {w : World} {K : PySem.W.Frag} {mg : Str → Option Value} {base : Heap} {f : Addr} {fd : FuncData} (Bt : Bt mg) (F : FnP K "_law_draws" s_law_draws f fd) (hm : mg "_law_draws" = some (.ref f)) : Cl P w K mg base 1 "_law_draws" F_law_draws := by
  refine fn_d (N := N_law_draws) (g := B_law_draws) F hm sc_law_draws (fun _ _ _ _ _ _ us hl => match us, hl with | [_, _], _ => rfl) fun cdv A outer s H E hr => ?_
  exact (db_cons (ds_set 2 sc_law_draws.nd (de_ix (dr_of (de_fresh (df_lst (da_cons de_int (da_cons (de_var 0) da_nil))))) (dr_of (de_callT1 call_int1 c1_int Bt.int PyProof.Rows.boot_int (dr_of (de_cmp op_ge g2_ge (dr_var 0) (dr_of (de_bin op_pow g2_pow (dr_of de_int) (dr_of de_int))) (nomark _))))) (fun _ _ => rfl)))
  (db_cons (ds_set 3 sc_law_draws.nd (de_bin op_mod g2_mod (dr_of (de_bin or_add g2_add (dr_of (de_bin op_mul g2_mul (dr_of (de_bin op_mod g2_mod (dr_var 0) (dr_of de_int))) (dr_of de_int))) (dr_of de_int))) (dr_of de_int)))
  (db_cons (ds_setF 4 sc_law_draws.nd (df_lst da_nil))
  (db_cons (ds_for PassesOwn.never rfl (di_range1 Bt.range (dr_var 1)) (dg_name 5 sc_law_draws.nd) (db_cons (ds_set 3 sc_law_draws.nd (de_bin op_mod g2_mod (dr_of (de_bin or_add g2_add (dr_of (de_bin or_add g2_add (dr_of (de_bin op_mul g2_mul (dr_var 3) (dr_of (de_bin or_add g2_add (dr_of (de_bin op_mod g2_mod (dr_var 3) (dr_of de_int))) (dr_of de_int))))) (dr_of (de_bin op_mul g2_mul (dr_of de_int) (dr_var 5))))) (dr_of de_int))) (dr_of de_int)))
  (db_cons (ds_app 4 (de_ix (dr_of (de_fresh (df_lst (da_cons (de_var 3) (da_cons (de_bin op_mod g2_mod (dr_var 2) (dr_of de_int)) da_nil))))) (dr_of (de_callT1 call_int1 c1_int Bt.int PyProof.Rows.boot_int (dr_of (de_cmp op_gt g2_gt (dr_var 2) (dr_of de_int) (nomark _))))) (fun _ _ => rfl)))
  (db_one (ds_set 2 sc_law_draws.nd (de_bin op_fdiv g2_div (dr_var 2) (dr_of de_int)))))))
  (db_one (ds_retV 4))))))
theorem ok_law_word {P : Program} {w : World} {K : PySem.W.Frag} {mg : Str → Option Value} {base : Heap} {f : Addr} {fd : FuncData} (Bt : Bt mg) (F : FnP K "_law_word" s_law_word f fd) (hm : mg "_law_word" = some (.ref f)) : Cl P w K mg base 1 "_law_word" F_law_word := by
  refine fn_d (N := N_law_word) (g := B_law_word) F hm sc_law_word (fun _ _ _ _ _ _ us hl => match us, hl with | [_, _], _ => rfl) fun cdv A outer s H E hr => ?_
  exact (db_cons (ds_set 2 sc_law_word.nd (de_bin or_add g2_add (dr_of (de_bin op_mul g2_mul (dr_var 0) (dr_of de_int))) (dr_var 1)))
  (db_cons (ds_set 3 sc_law_word.nd de_str)
  (db_cons (ds_for PassesOwn.never rfl (di_range1 Bt.range (dr_of (de_bin or_add g2_add (dr_of de_int) (dr_of (de_bin op_mod g2_mod (dr_var 1) (dr_of de_int)))))) (dg_name 4 sc_law_word.nd) (db_cons (ds_set 3 sc_law_word.nd (de_bin or_add g2_add (dr_var 3) (dr_of (de_ix (dr_of de_str) (dr_of (de_bin op_mod g2_mod (dr_var 2) (dr_of de_int))) (fun _ _ => rfl)))))
  (db_one (ds_set 2 sc_law_word.nd (de_bin op_fdiv g2_div (dr_var 2) (dr_of de_int))))))
  (db_one (ds_ret (de_var 3))))))
theorem ok_law_first {P : Program} {w : World} {K : PySem.W.Frag} {mg : Str → Option Value} {base : Heap} {f : Addr} {fd : FuncData} (Bt : Bt mg) (F : FnP K "_law_first" s_law_first f fd) (hm : mg "_law_first" = some (.ref f)) (c_law_word : Cl P w K mg base 1 "_law_word" F_law_word) : Cl P w K mg base 2 "_law_first" F_law_first := by
  refine fn_d (N := N_law_first) (g := B_law_first) F hm sc_law_first (fun _ _ _ _ _ _ us hl => match us, hl with | [_, _, _, _, _], _ => rfl) fun cdv A outer s H E hr => ?_
  exact (db_cons (ds_if (dt_cmp (op_eqD hr.units) g2_eq (dr_var 0) (dr_of de_int) (nomark _)) (db_one (ds_ret (de_bin op_mod g2_mod (dr_var 3) (dr_of de_int)))) db_nil)
  (db_cons (ds_if (dt_cmp (op_eqD hr.units) g2_eq (dr_var 0) (dr_of de_int) (nomark _)) (db_one (ds_ret (de_bin op_sub g2_sub (dr_of (de_bin op_mod g2_mod (dr_of (de_bin or_add g2_add (dr_of (de_bin op_mul g2_mul (dr_var 3) (dr_of de_int))) (dr_var 4))) (dr_of de_int))) (dr_of de_int)))) db_nil)
  (db_cons (ds_if (dt_cmp (op_eqD hr.units) g2_eq (dr_var 0) (dr_of de_int) (nomark _)) (db_one (ds_ret (de_call c_law_word hr (by decide) (da_cons (de_var 3) (da_cons (de_var 4) da_nil))))) db_nil)
  (db_cons (ds_if (dt_cmp (op_eqD hr.units) g2_eq (dr_var 0) (dr_of de_int) (nomark _)) (db_cons (ds_set 5 sc_law_first.nd (de_bin or_add g2_add (dr_of de_int) (dr_of (de_bin op_mod g2_mod (dr_var 1) (dr_of de_int)))))
  (db_cons (ds_set 6 sc_law_first.nd (de_bin op_mod g2_mod (dr_var 2) (dr_var 5)))
  (db_one (ds_ret (de_bin or_add g2_add (dr_of (de_bin op_mul g2_mul (dr_of (de_ix (dr_of (de_fresh (df_lst (da_cons (de_var 6) (da_cons (de_bin op_sub g2_sub (dr_var 5) (dr_var 6)) da_nil))))) (dr_of (de_bin op_mod g2_mod (dr_of (de_bin op_fdiv g2_div (dr_of (de_bin op_fdiv g2_div (dr_var 1) (dr_of de_int))) (dr_of (de_bin or_add g2_add (dr_of (de_bin op_fdiv g2_div (dr_var 2) (dr_var 5))) (dr_of de_int))))) (dr_of de_int))) (fun _ _ => rfl))) (dr_of de_int))) (dr_of (de_bin op_mod g2_mod (dr_var 3) (dr_of de_int)))))))) db_nil)
  (db_cons (ds_if (dt_cmp (op_eqD hr.units) g2_eq (dr_var 0) (dr_of de_int) (nomark _)) (db_one (ds_ret (de_ix (dr_of (de_fresh (df_lst (da_cons (de_var 2) (da_cons (de_bin op_mod g2_mod (dr_var 4) (dr_of de_int)) da_nil))))) (dr_of (de_callT1 call_int1 c1_int Bt.int PyProof.Rows.boot_int (dr_of (de_cmp (op_eqD hr.units) g2_eq (dr_of (de_bin op_mod g2_mod (dr_var 3) (dr_of de_int))) (dr_of de_int) (nomark _))))) (fun _ _ => rfl)))) db_nil)
  (db_one (ds_ret (de_bin op_mod g2_mod (dr_of (de_bin op_mul g2_mul (dr_var 2) (dr_of (de_bin or_add g2_add (dr_of de_int) (dr_of (de_bin op_mod g2_mod (dr_var 1) (dr_of de_int))))))) (dr_of de_int)))))))))
theorem ok_law_things {P : Program} {w : World} {K : PySem.W.Frag} {mg : Str → Option Value} {base : Heap} {f : Addr} {fd : FuncData} (Bt : Bt mg) (F : FnP K "_law_things" s_law_things f fd) (hm : mg "_law_things" = some (.ref f)) (c_law_first : Cl P w K mg base 2 "_law_first" F_law_first) : Cl P w K mg base 3 "_law_things" F_law_things := by
  refine fn_d (N := N_law_things) (g := B_law_things) F hm sc_law_things (fun _ _ _ _ _ _ us hl => match us, hl with | [_, _], _ => rfl) fun cdv A outer s H E hr => ?_
  exact (db_cons (ds_setF 2 sc_law_things.nd (df_lst da_nil))
  (db_cons (ds_for PassesOwn.never rfl (di_range1 Bt.range (dr_var 1)) (dg_name 3 sc_law_things.nd) (db_cons (ds_par2 5 6 rfl sc_law_things.nd (dc_of (de_ix (dr_var 0) (dr_of (de_bin or_add g2_add (dr_of de_int) (dr_of (de_bin op_mul g2_mul (dr_of de_int) (dr_var 3))))) (fun _ _ => rfl))) (dc_of (de_ix (dr_var 0) (dr_of (de_bin or_add g2_add (dr_of de_int) (dr_of (de_bin op_mul g2_mul (dr_of de_int) (dr_var 3))))) (fun _ _ => rfl))))
  (db_cons (ds_set 4 sc_law_things.nd (de_tup (da_cons (de_call c_law_first hr (by decide) (da_cons (de_bin op_mod g2_mod (dr_of (de_ix (dr_var 0) (dr_of de_int) (fun _ _ => rfl))) (dr_of de_int)) (da_cons (de_ix (dr_var 0) (dr_of de_int) (fun _ _ => rfl)) (da_cons (de_var 3) (da_cons (de_var 5) (da_cons (de_var 6) da_nil)))))) (da_cons (de_bin op_mod g2_mod (dr_of (de_bin op_fdiv g2_div (dr_var 6) (dr_of de_int))) (dr_of de_int)) (da_cons (de_ix (dr_of de_str) (dr_of (de_bin op_mod g2_mod (dr_of (de_bin op_fdiv g2_div (dr_var 5) (dr_of de_int))) (dr_of de_int))) (fun _ _ => rfl)) da_nil)))))
  (db_one (ds_app 2 (de_slice (dr_var 4) do_none (do_some (de_bin or_add g2_add (dr_of de_int) (dr_of (de_bin op_mod g2_mod (dr_of (de_ix (dr_var 0) (dr_of de_int) (fun _ _ => rfl))) (dr_of de_int)))))))))))
  (db_one (ds_ret (de_callT1 call_tuple_of c1_tup Bt.tuple PyProof.Rows.boot_tuple (dr_var 2))))))
theorem ok_law_order {P : Program} {w : World} {K : PySem.W.Frag} {mg : Str → Option Value} {base : Heap} {f : Addr} {fd : FuncData} (Bt : Bt mg) (F : FnP K "_law_order" s_law_order f fd) (hm : mg "_law_order" = some (.ref f)) : Cl P w K mg base 1 "_law_order" F_law_order := by
  refine fn_d (N := N_law_order) (g := B_law_order) F hm sc_law_order (fun _ _ _ _ _ _ us hl => match us, hl with | [_, _], _ => rfl) fun cdv A outer s H E hr => ?_
  exact (db_cons (ds_set 2 sc_law_order.nd (de_bin op_mod g2_mod (dr_of (de_ix (dr_var 0) (dr_of de_int) (fun _ _ => rfl))) (dr_var 1)))
  (db_cons (ds_set 3 sc_law_order.nd (de_slice (dr_of (de_rep (df_slice (dr_of (de_fresh (df_lst (da_cons de_int (da_cons de_int (da_cons de_int da_nil)))))) do_none (do_some (de_var 1))) de_int)) (do_some (de_var 2)) (do_some (de_bin or_add g2_add (dr_var 2) (dr_var 1)))))
  (db_cons (ds_if (dt_cmp (op_eqD hr.units) g2_eq (dr_of (de_bin op_mod g2_mod (dr_of (de_ix (dr_var 0) (dr_of de_int) (fun _ _ => rfl))) (dr_of de_int))) (dr_of de_int) (nomark _)) (db_one (ds_set 3 sc_law_order.nd (de_revL (dr_var 3)))) db_nil)
  (db_cons (ds_set 3 sc_law_order.nd (de_slice (dr_var 3) do_none (do_some (de_bin or_add g2_add (dr_of de_int) (dr_of (de_bin op_mod g2_mod (dr_of (de_ix (dr_var 0) (dr_of de_int) (fun _ _ => rfl))) (dr_var 1)))))))
  (db_one (ds_ret (de_callT1 call_tuple_of c1_tup Bt.tuple PyProof.Rows.boot_tuple (dr_of (de_fresh (df_lc rfl sc_law_order.nd (di_enum Bt.enumerate (de_var 3)) (blkOk_by (N := N_law_order) (sc := defScope s_law_order) (own := [("_law_k", 4), ("_law_column", 5)]) (by decide +kernel)) (by decide) (fun _ _ _ _ _ => (dg_tup rfl (dgs_cons 4 sc_law_order.nd (dgs_cons 5 sc_law_order.nd dgs_nil)))) (fun _ _ _ _ _ => dts_nil) (fun _ _ _ _ _ => (de_tup (da_cons (de_var 5) (da_cons (de_ix (dr_of (de_fresh (df_lst (da_cons de_str (da_cons de_str da_nil))))) (dr_of (de_bin op_mod g2_mod (dr_of (de_ix (dr_var 0) (dr_of (de_bin or_add g2_add (dr_of de_int) (dr_var 4))) (fun _ _ => rfl))) (dr_of de_int))) (fun _ _ => rfl)) da_nil))))))))))))))
theorem ok_law_held {P : Program} {w : World} {K : PySem.W.Frag} {mg : Str → Option Value} {base : Heap} {f : Addr} {fd : FuncData} (Bt : Bt mg) (F : FnP K "_law_held" s_law_held f fd) (hm : mg "_law_held" = some (.ref f)) : Cl P w K mg base 1 "_law_held" F_law_held := by
  refine fn_d (N := N_law_held) (g := B_law_held) F hm sc_law_held (fun _ _ _ _ _ _ us hl => match us, hl with | [_, _, _], _ => rfl) fun cdv A outer s H E hr => ?_
  exact (db_cons (ds_for PassesOwn.never rfl (di_tup (de_var 0)) (dg_tup rfl (dgs_cons 3 sc_law_held.nd (dgs_cons 4 sc_law_held.nd dgs_nil))) (db_cons (ds_if (dt_w (dw_or (dt_cmp or_lt g2_lt (dr_of (de_call1 call_len c1_len Bt.len PySem.boot_len (dr_var 1))) (dr_var 3) (nomark _)) (dw_or1 (dt_cmp or_lt g2_lt (dr_of (de_call1 call_len c1_len Bt.len PySem.boot_len (dr_var 2))) (dr_var 3) (nomark _))))) (db_one (ds_ret de_non)) db_nil)
  (db_cons (ds_par2 5 6 rfl sc_law_held.nd (dc_of (de_ix (dr_var 1) (dr_of (de_bin op_sub g2_sub (dr_var 3) (dr_of de_int))) (fun _ _ => rfl))) (dc_of (de_ix (dr_var 2) (dr_of (de_bin op_sub g2_sub (dr_var 3) (dr_of de_int))) (fun _ _ => rfl))))
  (db_cons (ds_if (dt_cmp (op_neD hr.units) g2_ne (dr_of (de_isi kit_str Bt.isi Bt.str PyProof.Rows.boot_str (dr_var 5))) (dr_of (de_isi kit_str Bt.isi Bt.str PyProof.Rows.boot_str (dr_var 6))) (nomark _)) (db_one (ds_ret de_non)) db_nil)
  (db_one (ds_if (dt_cmp (op_neD hr.units) g2_ne (dr_var 5) (dr_var 6) (nomark _)) (db_one (ds_ret (de_ix (dr_of (de_fresh (df_lst (da_cons de_int (da_cons (de_un un_neg g1_neg (dr_of de_int)) da_nil))))) (dr_of (de_callT1 call_int1 c1_int Bt.int PyProof.Rows.boot_int (dr_of (de_cmp (op_eqD hr.units) g2_eq (dr_of (de_cmp or_lt g2_lt (dr_var 5) (dr_var 6) (nomark _))) (dr_of (de_cmp (op_eqD hr.units) g2_eq (dr_var 4) (dr_of de_str) (nomark _))) (nomark _))))) (fun _ _ => rfl)))) db_nil))))))
  (db_one (ds_ret de_int)))
theorem ok_law_arranged {P : Program} {w : World} {K : PySem.W.Frag} {mg : Str → Option Value} {base : Heap} {f : Addr} {fd : FuncData} (Bt : Bt mg) (F : FnP K "_law_arranged" s_law_arranged f fd) (hm : mg "_law_arranged" = some (.ref f)) (c_law_held : Cl P w K mg base 1 "_law_held" F_law_held) : Cl P w K mg base 2 "_law_arranged" F_law_arranged := by
  refine fn_d (N := N_law_arranged) (g := B_law_arranged) F hm sc_law_arranged (fun _ _ _ _ _ _ us hl => match us, hl with | [_, _], _ => rfl) fun cdv A outer s H E hr => ?_
  exact (db_cons (ds_setF 2 sc_law_arranged.nd (df_lst da_nil))
  (db_cons (ds_for PassesOwn.never rfl (di_range1 Bt.range (dr_of (de_call1 call_len c1_len Bt.len PySem.boot_len (dr_var 0)))) (dg_name 3 sc_law_arranged.nd) (db_cons (ds_set 4 sc_law_arranged.nd (de_call1 call_len c1_len Bt.len PySem.boot_len (dr_var 2)))
  (db_cons (ds_while 100 PassesOwn.never (dt_w (dw_and (dt_cmp op_gt g2_gt (dr_var 4) (dr_of de_int) (nomark _)) (dw_and1 (dt_cmp (op_eqD hr.units) g2_eq (dr_of (de_call c_law_held hr (by decide) (da_cons (de_var 1) (da_cons (de_ix (dr_var 0) (dr_var 3) (fun _ _ => rfl)) (da_cons (de_ix (dr_var 0) (dr_of (de_ix (dr_var 2) (dr_of (de_bin op_sub g2_sub (dr_var 4) (dr_of de_int))) (fun _ _ => rfl))) (fun _ _ => rfl)) da_nil))))) (dr_of (de_un un_neg g1_neg (dr_of de_int))) (nomark _))))) (db_one (ds_set 4 sc_law_arranged.nd (de_bin op_sub g2_sub (dr_var 4) (dr_of de_int)))))
  (db_one (ds_ins 2 (de_var 4) (de_var 3))))))
  (db_one (ds_ret (de_callT1 call_tuple_of c1_tup Bt.tuple PyProof.Rows.boot_tuple (dr_var 2))))))
theorem ok_law_spoilt {P : Program} {w : World} {K : PySem.W.Frag} {mg : Str → Option Value} {base : Heap} {f : Addr} {fd : FuncData} (Bt : Bt mg) (F : FnP K "_law_spoilt" s_law_spoilt f fd) (hm : mg "_law_spoilt" = some (.ref f)) : Cl P w K mg base 1 "_law_spoilt" F_law_spoilt := by
  refine fn_d (N := N_law_spoilt) (g := B_law_spoilt) F hm sc_law_spoilt (fun _ _ _ _ _ _ us hl => match us, hl with | [_, _], _ => rfl) fun cdv A outer s H E hr => ?_
  exact (db_cons (ds_setF 0 sc_law_spoilt.nd (df_callT1 call_list_of cf_list Bt.list PyProof.Rows.boot_list (dr_var 0)))
  (db_cons (ds_for PassesOwn.never rfl (di_range1 Bt.range (dr_of (de_call2 (call_min2 rfl) c2_min Bt.min PyProof.Rows.boot_min (dr_of (de_bin op_mod g2_mod (dr_of (de_ix (dr_var 1) (dr_of de_int) (fun _ _ => rfl))) (dr_of de_int))) (dr_of (de_call1 call_len c1_len Bt.len PySem.boot_len (dr_var 0)))))) (dg_name 2 sc_law_spoilt.nd) (db_cons (ds_par2 6 7 rfl sc_law_spoilt.nd (dc_of (de_bin op_mod g2_mod (dr_of (de_ix (dr_var 1) (dr_of (de_bin or_add g2_add (dr_of de_int) (dr_of (de_bin op_mul g2_mul (dr_of de_int) (dr_var 2))))) (fun _ _ => rfl))) (dr_of (de_call1 call_len c1_len Bt.len PySem.boot_len (dr_var 0))))) (dc_of (de_ix (dr_var 1) (dr_of (de_bin or_add g2_add (dr_of de_int) (dr_of (de_bin op_mul g2_mul (dr_of de_int) (dr_var 2))))) (fun _ _ => rfl))))
  (db_cons (ds_set 3 sc_law_spoilt.nd (de_ix (dr_var 0) (dr_var 6) (fun _ _ => rfl)))
  (db_cons (ds_set 4 sc_law_spoilt.nd (de_bin op_mod g2_mod (dr_of (de_bin op_fdiv g2_div (dr_var 7) (dr_of de_int))) (dr_of (de_call1 call_len c1_len Bt.len PySem.boot_len (dr_var 3)))))
  (db_cons (ds_set 5 sc_law_spoilt.nd (de_tup (da_cons de_str da_nil)))
  (db_cons (ds_if (dt_val (de_isi kit_str Bt.isi Bt.str PyProof.Rows.boot_str (dr_of (de_ix (dr_var 3) (dr_var 4) (fun _ _ => rfl))))) (db_one (ds_set 5 sc_law_spoilt.nd (de_tup (da_cons de_int da_nil)))) db_nil)
  (db_one (ds_if (dt_w (dw_and (dt_cmp op_gt g2_gt (dr_var 4) (dr_of de_int) (nomark _)) (dw_and1 (dt_cmp or_lt g2_lt (dr_of (de_bin op_mod g2_mod (dr_var 7) (dr_of de_int))) (dr_of de_int) (nomark _))))) (db_one (ds_setIx 0 (de_slice (dr_var 3) do_none (do_some (de_var 4))) (de_var 6))) (db_one (ds_setIx 0 (de_bin or_add g2_add (dr_of (de_bin or_add g2_add (dr_of (de_slice (dr_var 3) do_none (do_some (de_var 4)))) (dr_var 5))) (dr_of (de_slice (dr_var 3) (do_some (de_bin or_add g2_add (dr_var 4) (dr_of de_int))) do_none))) (de_var 6)))))))))))
  (db_one (ds_ret (de_callT1 call_tuple_of c1_tup Bt.tuple PyProof.Rows.boot_tuple (dr_var 0))))))
theorem ok_law_places {P : Program} {w : World} {K : PySem.W.Frag} {mg : Str → Option Value} {base : Heap} {f : Addr} {fd : FuncData} (Bt : Bt mg) (F : FnP K "_law_places" s_law_places f fd) (hm : mg "_law_places" = some (.ref f)) (c_law_held : Cl P w K mg base 1 "_law_held" F_law_held) : Cl P w K mg base 2 "_law_places" F_law_places := by
  refine fn_d (N := N_law_places) (g := B_law_places) F hm sc_law_places (fun _ _ _ _ _ _ us hl => match us, hl with | [_, _], _ => rfl) fun cdv A outer s H E hr => ?_
  exact (db_cons (ds_par2 3 4 rfl sc_law_places.nd (dc_fresh (df_lst da_nil)) (dc_fresh (df_lst da_nil)))
  (db_cons (ds_for PassesOwn.never rfl (di_range1 Bt.range (dr_of (de_call1 call_len c1_len Bt.len PySem.boot_len (dr_var 0)))) (dg_name 2 sc_law_places.nd) (db_cons (ds_set 5 sc_law_places.nd (de_call1 call_len c1_len Bt.len PySem.boot_len (dr_var 3)))
  (db_cons (ds_while 100 PassesOwn.never (dt_w (dw_and (dt_cmp op_gt g2_gt (dr_var 5) (dr_of de_int) (nomark _)) (dw_and1 (dt_cmp (op_eqD hr.units) g2_eq (dr_of (de_call c_law_held hr (by decide) (da_cons (de_var 1) (da_cons (de_ix (dr_var 0) (dr_var 2) (fun _ _ => rfl)) (da_cons (de_ix (dr_var 0) (dr_of (de_ix (dr_var 3) (dr_of (de_bin op_sub g2_sub (dr_var 5) (dr_of de_int))) (fun _ _ => rfl))) (fun _ _ => rfl)) da_nil))))) (dr_of (de_un un_neg g1_neg (dr_of de_int))) (nomark _))))) (db_cons (ds_set 5 sc_law_places.nd (de_bin op_sub g2_sub (dr_var 5) (dr_of de_int)))
  (db_one (ds_app 4 (de_var 5)))))
  (db_one (ds_ins 3 (de_var 5) (de_var 2))))))
  (db_one (ds_ret (de_callT1 call_tuple_of c1_tup Bt.tuple PyProof.Rows.boot_tuple (dr_var 4))))))
theorem ok_law_piles {P : Program} {w : World} {K : PySem.W.Frag} {mg : Str → Option Value} {base : Heap} {f : Addr} {fd : FuncData} (Bt : Bt mg) (F : FnP K "_law_piles" s_law_piles f fd) (hm : mg "_law_piles" = some (.ref f)) (c_law_held : Cl P w K mg base 1 "_law_held" F_law_held) : Cl P w K mg base 2 "_law_piles" F_law_piles := by
  refine fn_d (N := N_law_piles) (g := B_law_piles) F hm sc_law_piles (fun _ _ _ _ _ _ us hl => match us, hl with | [_, _], _ => rfl) fun cdv A outer s H E hr => ?_
  exact (db_cons (ds_par2 3 4 rfl sc_law_piles.nd (dc_fresh (df_lst da_nil)) dc_dict)
  (db_cons (ds_for PassesOwn.never rfl (di_range1 Bt.range (dr_of (de_call1 call_len c1_len Bt.len PySem.boot_len (dr_var 0)))) (dg_name 2 sc_law_piles.nd) (db_cons (ds_set 5 sc_law_piles.nd de_int)
  (db_cons (ds_while 100 PassesOwn.never (dt_w (dw_and (dt_cmp or_lt g2_lt (dr_var 5) (dr_of (de_call1 call_len c1_len Bt.len PySem.boot_len (dr_var 3))) (nomark _)) (dw_and1 (dt_cmp (op_neD hr.units) g2_ne (dr_of (de_call c_law_held hr (by decide) (da_cons (de_var 1) (da_cons (de_ix (dr_var 0) (dr_var 2) (fun _ _ => rfl)) (da_cons (de_ix (dr_var 0) (dr_of (de_ix (dr_of (de_ix (dr_var 3) (dr_var 5) (fun _ _ => rfl))) (dr_of (de_un un_neg g1_neg (dr_of de_int))) (fun _ _ => rfl))) (fun _ _ => rfl)) da_nil))))) (dr_of (de_un un_neg g1_neg (dr_of de_int))) (nomark _))))) (db_one (ds_set 5 sc_law_piles.nd (de_bin or_add g2_add (dr_var 5) (dr_of de_int)))))
  (db_cons (ds_put 4 (hu_of hr) de_non (de_var 2))
  (db_cons (ds_if (dt_cmp op_gt g2_gt (dr_var 5) (dr_of de_int) (nomark _)) (db_one (ds_put 4 (hu_of hr) (de_ix (dr_of (de_ix (dr_var 3) (dr_of (de_bin op_sub g2_sub (dr_var 5) (dr_of de_int))) (fun _ _ => rfl))) (dr_of (de_un un_neg g1_neg (dr_of de_int))) (fun _ _ => rfl)) (de_var 2))) db_nil)
  (db_cons (ds_if (dt_cmp (op_eqD hr.units) g2_eq (dr_var 5) (dr_of (de_call1 call_len c1_len Bt.len PySem.boot_len (dr_var 3))) (nomark _)) (db_one (ds_app 3 (de_tup da_nil))) db_nil)
  (db_one (ds_setIx 3 (de_bin or_add g2_add (dr_of (de_ix (dr_var 3) (dr_var 5) (fun _ _ => rfl))) (dr_of (de_tup (da_cons (de_var 2) da_nil)))) (de_var 5)))))))))
  (db_cons (ds_asg (de_tup (da_cons (de_tup da_nil) (da_cons de_non da_nil))) (dg_tup rfl (dgs_cons 6 sc_law_piles.nd (dgs_cons 7 sc_law_piles.nd dgs_nil))))
  (db_cons (ds_if (dt_cmp (op_neD hr.units) g2_ne (dr_var 3) (dr_of (de_fresh (df_lst da_nil))) (nomark _)) (db_one (ds_set 7 sc_law_piles.nd (de_ix (dr_of (de_ix (dr_var 3) (dr_of (de_un un_neg g1_neg (dr_of de_int))) (fun _ _ => rfl))) (dr_of (de_un un_neg g1_neg (dr_of de_int))) (fun _ _ => rfl)))) db_nil)
  (db_cons (ds_while 100 PassesOwn.never (dt_cmp op_notN g2_isnot (dr_var 7) (dr_of de_non) (nomark _)) (db_one (ds_par2 6 7 rfl sc_law_piles.nd (dc_of (de_bin or_add g2_add (dr_of (de_tup (da_cons (de_var 7) da_nil))) (dr_var 6))) (dc_of (de_get 4 (hu_of hr) (de_var 7) (fun _ _ => rfl))))))
  (db_one (ds_ret (de_tup (da_cons (de_var 6) (da_cons (de_callT1 call_tuple_of c1_tup Bt.tuple PyProof.Rows.boot_tuple (dr_var 3)) da_nil))))))))))
theorem ok_law_starts {P : Program} {w : World} {K : PySem.W.Frag} {mg : Str → Option Value} {base : Heap} {f : Addr} {fd : FuncData} (Bt : Bt mg) (F : FnP K "_law_starts" s_law_starts f fd) (hm : mg "_law_starts" = some (.ref f)) (c_law_held : Cl P w K mg base 1 "_law_held" F_law_held) : Cl P w K mg base 2 "_law_starts" F_law_starts := by
  refine fn_d (N := N_law_starts) (g := B_law_starts) F hm sc_law_starts (fun _ _ _ _ _ _ us hl => match us, hl with | [_, _], _ => rfl) fun cdv A outer s H E hr => ?_
  exact (db_cons (ds_par2 3 4 rfl sc_law_starts.nd (dc_fresh (df_lst da_nil)) (dc_of de_non))
  (db_cons (ds_for PassesOwn.never rfl (di_range1 Bt.range (dr_of (de_call1 call_len c1_len Bt.len PySem.boot_len (dr_var 0)))) (dg_name 2 sc_law_starts.nd) (db_one (ds_if (dt_cmp op_isN g2_is (dr_var 4) (dr_of de_non) (nomark _)) (db_one (ds_if (dt_w (dw_or (dt_cmp (op_eqD hr.units) g2_eq (dr_var 2) (dr_of de_int) (nomark _)) (dw_or1 (dt_cmp (op_neD hr.units) g2_ne (dr_of (de_ix (dr_var 3) (dr_of (de_un un_neg g1_neg (dr_of de_int))) (fun _ _ => rfl))) (dr_of (de_bin op_sub g2_sub (dr_var 2) (dr_of de_int))) (nomark _))))) (db_one (ds_app 3 (de_var 2))) (db_one (ds_set 4 sc_law_starts.nd (de_cmp (op_eqD hr.units) g2_eq (dr_of (de_call c_law_held hr (by decide) (da_cons (de_var 1) (da_cons (de_ix (dr_var 0) (dr_var 2) (fun _ _ => rfl)) (da_cons (de_ix (dr_var 0) (dr_of (de_bin op_sub g2_sub (dr_var 2) (dr_of de_int))) (fun _ _ => rfl)) da_nil))))) (dr_of (de_un un_neg g1_neg (dr_of de_int))) (nomark _)))))) (db_one (ds_if (dt_cmp (op_neD hr.units) g2_ne (dr_of (de_cmp (op_eqD hr.units) g2_eq (dr_of (de_call c_law_held hr (by decide) (da_cons (de_var 1) (da_cons (de_ix (dr_var 0) (dr_var 2) (fun _ _ => rfl)) (da_cons (de_ix (dr_var 0) (dr_of (de_bin op_sub g2_sub (dr_var 2) (dr_of de_int))) (fun _ _ => rfl)) da_nil))))) (dr_of (de_un un_neg g1_neg (dr_of de_int))) (nomark _))) (dr_var 4) (nomark _)) (db_cons (ds_app 3 (de_var 2))
  (db_one (ds_set 4 sc_law_starts.nd de_non))) db_nil)))))
  (db_one (ds_ret (de_callT1 call_tuple_of c1_tup Bt.tuple PyProof.Rows.boot_tuple (dr_var 3))))))
theorem ok_law_sound {P : Program} {w : World} {K : PySem.W.Frag} {mg : Str → Option Value} {base : Heap} {f : Addr} {fd : FuncData} (Bt : Bt mg) (F : FnP K "_law_sound" s_law_sound f fd) (hm : mg "_law_sound" = some (.ref f)) (c_holds : Cl P w K mg base 8 "holds" F_holds) : Cl P w K mg base 9 "_law_sound" F_law_sound := by
  refine fn_d (N := N_law_sound) (g := B_law_sound) F hm sc_law_sound (fun _ _ _ _ _ _ us hl => match us, hl with | [_], _ => rfl) fun cdv A outer s H E hr => ?_
  exact (db_cons (ds_for PassesOwn.never rfl (di_list (de_var 0)) (dg_tup rfl (dgs_cons 1 sc_law_sound.nd (dgs_cons 2 sc_law_sound.nd (dgs_cons 3 sc_law_sound.nd dgs_nil)))) (db_cons (ds_set 4 sc_law_sound.nd (de_call c_holds hr (by decide) (da_cons (de_var 1) (da_cons (de_var 2) da_nil))))
  (db_one (ds_if (dt_w (dw_or (dt_not (dt_val (de_isi kit_bool Bt.isi Bt.bool PyProof.Rows.boot_bool (dr_var 4)))) (dw_or1 (dt_w (dw_and (dt_val (de_var 4)) (dw_and1 (dt_not (dt_val (de_var 3))))))))) (db_one (ds_ret de_bl)) db_nil))))
  (db_one (ds_ret de_bl)))
theorem ok_law_all_held {P : Program} {w : World} {K : PySem.W.Frag} {mg : Str → Option Value} {base : Heap} {f : Addr} {fd : FuncData} (Bt : Bt mg) (F : FnP K "_law_all_held" s_law_all_held f fd) (hm : mg "_law_all_held" = some (.ref f)) (c_law_held : Cl P w K mg base 1 "_law_held" F_law_held) : Cl P w K mg base 2 "_law_all_held" F_law_all_held := by
  refine fn_d (N := N_law_all_held) (g := B_law_all_held) F hm sc_law_all_held (fun _ _ _ _ _ _ us hl => match us, hl with | [_, _], _ => rfl) fun cdv A outer s H E hr => ?_
  exact (db_cons (ds_for PassesOwn.never rfl (di_range1 Bt.range (dr_of (de_call1 call_len c1_len Bt.len PySem.boot_len (dr_var 0)))) (dg_name 2 sc_law_all_held.nd) (db_one (ds_for PassesOwn.never rfl (di_range1 Bt.range (dr_var 2)) (dg_name 3 sc_law_all_held.nd) (db_one (ds_if (dt_cmp op_isN g2_is (dr_of (de_call c_law_held hr (by decide) (da_cons (de_var 1) (da_cons (de_ix (dr_var 0) (dr_var 3) (fun _ _ => rfl)) (da_cons (de_ix (dr_var 0) (dr_var 2) (fun _ _ => rfl)) da_nil))))) (dr_of de_non) (nomark _)) (db_one (ds_ret de_bl)) db_nil)))))
  (db_one (ds_ret de_bl)))
theorem ok_law_wrong {P : Program} {w : World} {K : PySem.W.Frag} {mg : Str → Option Value} {base : Heap} {f : Addr} {fd : FuncData} (Bt : Bt mg) (F : FnP K "_law_wrong" s_law_wrong f fd) (hm : mg "_law_wrong" = some (.ref f)) (c_law_held : Cl P w K mg base 1 "_law_held" F_law_held) : Cl P w K mg base 2 "_law_wrong" F_law_wrong := by
  refine fn_d (N := N_law_wrong) (g := B_law_wrong) F hm sc_law_wrong (fun _ _ _ _ _ _ us hl => match us, hl with | [_, _], _ => rfl) fun cdv A outer s H E hr => ?_
  exact (db_cons (ds_set 2 sc_law_wrong.nd de_int)
  (db_cons (ds_for PassesOwn.never rfl (di_range1 Bt.range (dr_of (de_call1 call_len c1_len Bt.len PySem.boot_len (dr_var 0)))) (dg_name 3 sc_law_wrong.nd) (db_one (ds_set 2 sc_law_wrong.nd (de_bin or_add g2_add (dr_var 2) (dr_of (de_call1 call_len c1_len Bt.len PySem.boot_len (dr_of (de_fresh (df_lc rfl sc_law_wrong.nd (di_range1 Bt.range (dr_var 3)) (blkOk_by (N := N_law_wrong) (sc := defScope s_law_wrong) (own := [("_law_x", 4)]) (by decide +kernel)) (by decide) (fun _ _ _ _ _ => (dg_name 4 sc_law_wrong.nd)) (fun _ _ _ _ _ => (dts_one (dt_cmp (op_eqD hr.units) g2_eq (dr_of (de_call c_law_held hr (by decide) (da_cons (de_var 1) (da_cons (de_ix (dr_var 0) (dr_var 3) (fun _ _ => rfl)) (da_cons (de_ix (dr_var 0) (dr_var 4) (fun _ _ => rfl)) da_nil))))) (dr_of (de_un un_neg g1_neg (dr_of de_int))) (nomark _)))) (fun _ _ _ _ _ => (de_var 4)))))))))))
  (db_one (ds_ret (de_var 2)))))
theorem ok_law_most_stay {P : Program} {w : World} {K : PySem.W.Frag} {mg : Str → Option Value} {base : Heap} {f : Addr} {fd : FuncData} (Bt : Bt mg) (F : FnP K "_law_most_stay" s_law_most_stay f fd) (hm : mg "_law_most_stay" = some (.ref f)) (c_law_held : Cl P w K mg base 1 "_law_held" F_law_held) : Cl P w K mg base 2 "_law_most_stay" F_law_most_stay := by
  refine fn_d (N := N_law_most_stay) (g := B_law_most_stay) F hm sc_law_most_stay (fun _ _ _ _ _ _ us hl => match us, hl with | [_, _], _ => rfl) fun cdv A outer s H E hr => ?_
  exact (db_cons (ds_setF 2 sc_law_most_stay.nd (df_lst da_nil))
  (db_cons (ds_for PassesOwn.never rfl (di_range1 Bt.range (dr_of (de_call1 call_len c1_len Bt.len PySem.boot_len (dr_var 0)))) (dg_name 3 sc_law_most_stay.nd) (db_cons (ds_setLc 4 rfl sc_law_most_stay.nd (sw_true rfl rfl rfl (by decide +kernel)) (di_range1 Bt.range (dr_var 3)) (blkOk_by (N := N_law_most_stay) (sc := defScope s_law_most_stay) (own := [("_law_x", 5)]) (by decide +kernel)) (by decide) (fun _ _ _ _ _ => (dg_name 5 sc_law_most_stay.nd)) (fun _ _ _ _ _ => (dts_one (dt_cmp or_in g2_in (dr_of (de_call c_law_held hr (by decide) (da_cons (de_var 1) (da_cons (de_ix (dr_var 0) (dr_var 5) (fun _ _ => rfl)) (da_cons (de_ix (dr_var 0) (dr_var 3) (fun _ _ => rfl)) da_nil))))) (dr_of (de_fresh (df_lst (da_cons (de_un un_neg g1_neg (dr_of de_int)) (da_cons de_int da_nil))))) rfl))) (fun _ _ _ _ _ => (de_ix (dr_var 2) (dr_var 5) (fun _ _ => rfl))))
  (db_one (ds_app 2 (de_bin or_add g2_add (dr_of de_int) (dr_of (de_call1 (cr_max rfl) c1_max Bt.max PyProof.Rows.boot_max (dr_of (de_bin or_add g2_add (dr_of (de_fresh (df_lst (da_cons de_int da_nil)))) (dr_var 4))))))))))
  (db_one (ds_ret (de_call1 (cr_max rfl) c1_max Bt.max PyProof.Rows.boot_max (dr_of (de_bin or_add g2_add (dr_of (de_fresh (df_lst (da_cons de_int da_nil)))) (dr_var 2))))))))
theorem ok_law_fewest {P : Program} {w : World} {K : PySem.W.Frag} {mg : Str → Option Value} {base : Heap} {f : Addr} {fd : FuncData} (Bt : Bt mg) (F : FnP K "_law_fewest" s_law_fewest f fd) (hm : mg "_law_fewest" = some (.ref f)) (c_law_held : Cl P w K mg base 1 "_law_held" F_law_held) : Cl P w K mg base 2 "_law_fewest" F_law_fewest := by
  refine fn_d (N := N_law_fewest) (g := B_law_fewest) F hm sc_law_fewest (fun _ _ _ _ _ _ us hl => match us, hl with | [_, _], _ => rfl) fun cdv A outer s H E hr => ?_
  exact (db_cons (ds_setF 2 sc_law_fewest.nd (df_lst (da_cons de_int da_nil)))
  (db_cons (ds_for PassesOwn.never rfl (di_range2 Bt.range (dr_of de_int) (dr_of (de_bin or_add g2_add (dr_of (de_call1 call_len c1_len Bt.len PySem.boot_len (dr_var 0))) (dr_of de_int)))) (dg_name 3 sc_law_fewest.nd) (db_cons (ds_setF 4 sc_law_fewest.nd (df_lst da_nil))
  (db_cons (ds_for PassesOwn.never rfl (di_range1 Bt.range (dr_var 3)) (dg_name 5 sc_law_fewest.nd) (db_cons (ds_setLc 6 rfl sc_law_fewest.nd (sw_true rfl rfl rfl (by decide +kernel)) (di_range2 Bt.range (dr_var 5) (dr_of (de_bin op_sub g2_sub (dr_var 3) (dr_of de_int)))) (blkOk_by (N := N_law_fewest) (sc := defScope s_law_fewest) (own := [("_law_k", 7)]) (by decide +kernel)) (by decide) (fun _ _ _ _ _ => (dg_name 7 sc_law_fewest.nd)) (fun _ _ _ _ _ => dts_nil) (fun _ _ _ _ _ => (de_call c_law_held hr (by decide) (da_cons (de_var 1) (da_cons (de_ix (dr_var 0) (dr_var 7) (fun _ _ => rfl)) (da_cons (de_ix (dr_var 0) (dr_of (de_bin or_add g2_add (dr_var 7) (dr_of de_int))) (fun _ _ => rfl)) da_nil))))))
  (db_one (ds_if (dt_w (dw_or (dt_val (de_call1 (cr_all rfl) c1_all Bt.all PyProof.Rows.boot_all (dr_of (de_fresh (df_lc rfl sc_law_fewest.nd (di_list (de_var 6)) (blkOk_by (N := N_law_fewest) (sc := defScope s_law_fewest) (own := [("_law_sign", 8)]) (by decide +kernel)) (by decide) (fun _ _ _ _ _ => (dg_name 8 sc_law_fewest.nd)) (fun _ _ _ _ _ => dts_nil) (fun _ _ _ _ _ => (de_cmp or_in g2_in (dr_var 8) (dr_of (de_fresh (df_lst (da_cons (de_un un_neg g1_neg (dr_of de_int)) (da_cons de_int da_nil))))) rfl))))))) (dw_or1 (dt_val (de_call1 (cr_all rfl) c1_all Bt.all PyProof.Rows.boot_all (dr_of (de_fresh (df_lc rfl sc_law_fewest.nd (di_list (de_var 6)) (blkOk_by (N := N_law_fewest) (sc := defScope s_law_fewest) (own := [("_law_sign", 8)]) (by decide +kernel)) (by decide) (fun _ _ _ _ _ => (dg_name 8 sc_law_fewest.nd)) (fun _ _ _ _ _ => dts_nil) (fun _ _ _ _ _ => (de_cmp (op_eqD hr.units) g2_eq (dr_var 8) (dr_of de_int) (nomark _))))))))))) (db_one (ds_app 4 (de_bin or_add g2_add (dr_of (de_ix (dr_var 2) (dr_var 5) (fun _ _ => rfl))) (dr_of de_int)))) db_nil))))
  (db_one (ds_app 2 (de_call1 (cr_min rfl) c1_min Bt.min PyProof.Rows.boot_min (dr_var 4)))))))
  (db_one (ds_ret (de_ix (dr_var 2) (dr_of (de_un un_neg g1_neg (dr_of de_int))) (fun _ _ => rfl))))))
theorem ok_law_exchanged {P : Program} {w : World} {K : PySem.W.Frag} {mg : Str → Option Value} {base : Heap} {f : Addr} {fd : FuncData} (Bt : Bt mg) (F : FnP K "_law_exchanged" s_law_exchanged f fd) (hm : mg "_law_exchanged" = some (.ref f)) : Cl P w K mg base 1 "_law_exchanged" F_law_exchanged := by
  refine fn_d (N := N_law_exchanged) (g := B_law_exchanged) F hm sc_law_exchanged (fun _ _ _ _ _ _ us hl => match us, hl with | [_, _], _ => rfl) fun cdv A outer s H E hr => ?_
  exact (db_cons (ds_if (dt_cmp or_lt g2_lt (dr_of (de_call1 call_len c1_len Bt.len PySem.boot_len (dr_var 0))) (dr_of de_int) (nomark _)) (db_one (ds_ret (de_var 0))) db_nil)
  (db_cons (ds_set 1 sc_law_exchanged.nd (de_bin op_mod g2_mod (dr_var 1) (dr_of (de_bin op_sub g2_sub (dr_of (de_call1 call_len c1_len Bt.len PySem.boot_len (dr_var 0))) (dr_of de_int)))))
  (db_one (ds_ret (de_bin or_add g2_add (dr_of (de_bin or_add g2_add (dr_of (de_slice (dr_var 0) do_none (do_some (de_var 1)))) (dr_of (de_tup (da_cons (de_ix (dr_var 0) (dr_of (de_bin or_add g2_add (dr_var 1) (dr_of de_int))) (fun _ _ => rfl)) (da_cons (de_ix (dr_var 0) (dr_var 1) (fun _ _ => rfl)) da_nil)))))) (dr_of (de_slice (dr_var 0) (do_some (de_bin or_add g2_add (dr_var 1) (dr_of de_int))) do_none)))))))
theorem ok_law_lines {P : Program} {w : World} {K : PySem.W.Frag} {mg : Str → Option Value} {base : Heap} {f : Addr} {fd : FuncData} (Bt : Bt mg) (F : FnP K "_law_lines" s_law_lines f fd) (hm : mg "_law_lines" = some (.ref f)) (c_law_exchanged : Cl P w K mg base 1 "_law_exchanged" F_law_exchanged) (c_law_all_held : Cl P w K mg base 2 "_law_all_held" F_law_all_held) (c_law_arranged : Cl P w K mg base 2 "_law_arranged" F_law_arranged) (c_law_places : Cl P w K mg base 2 "_law_places" F_law_places) (c_law_wrong : Cl P w K mg base 2 "_law_wrong" F_law_wrong) : Cl P w K mg base 3 "_law_lines" F_law_lines := by
  refine fn_d (N := N_law_lines) (g := B_law_lines) F hm sc_law_lines (fun _ _ _ _ _ _ us hl => match us, hl with | [_, _, _], _ => rfl) fun cdv A outer s H E hr => ?_
  exact (db_cons (ds_par2 7 8 rfl sc_law_lines.nd (dc_of (de_call c_law_all_held hr (by decide) (da_cons (de_var 0) (da_cons (de_var 1) da_nil)))) (dc_of (de_call c_law_arranged hr (by decide) (da_cons (de_var 0) (da_cons (de_var 1) da_nil)))))
  (db_cons (ds_par3 9 10 11 rfl sc_law_lines.nd (dc_of (de_call1 call_len c1_len Bt.len PySem.boot_len (dr_var 0))) (dc_of (de_call c_law_places hr (by decide) (da_cons (de_var 0) (da_cons (de_var 1) da_nil)))) (dc_of (de_call c_law_wrong hr (by decide) (da_cons (de_var 0) (da_cons (de_var 1) da_nil)))))
  (db_cons (ds_set 3 sc_law_lines.nd (de_bin op_mod g2_mod (dr_of (de_ix (dr_var 2) (dr_of de_int) (fun _ _ => rfl))) (dr_of (de_call2 (call_max2 rfl) c2_max Bt.max PyProof.Rows.boot_max (dr_of de_int) (dr_of (de_bin op_sub g2_sub (dr_var 9) (dr_of de_int)))))))
  (db_cons (ds_set 4 sc_law_lines.nd (de_call c_law_exchanged hr (by decide) (da_cons (de_var 8) (da_cons (de_ix (dr_var 2) (dr_of de_int) (fun _ _ => rfl)) da_nil))))
  (db_cons (ds_setF 5 sc_law_lines.nd (df_lst da_nil))
  (db_cons (ds_for PassesOwn.never rfl (di_list (de_fresh (df_lst (da_cons (de_var 8) (da_cons (de_tupRg1 rfl Bt.tuple Bt.range (dr_var 9)) (da_cons (de_revT (dr_var 8)) (da_cons (de_var 4) (da_cons (de_call c_law_exchanged hr (by decide) (da_cons (de_var 4) (da_cons (de_ix (dr_var 2) (dr_of de_int) (fun _ _ => rfl)) da_nil))) (da_cons (de_bin or_add g2_add (dr_of (de_slice (dr_var 8) do_none (do_some de_int))) (dr_var 8)) da_nil))))))))) (dg_name 6 sc_law_lines.nd) (db_cons (ds_app 5 (de_tup (da_cons (de_tup (da_cons de_str (da_cons (de_var 0) (da_cons (de_var 1) da_nil)))) (da_cons (de_var 6) (da_cons (de_var 7) da_nil)))))
  (db_cons (ds_app 5 (de_tup (da_cons (de_tup (da_cons de_str (da_cons (de_var 0) (da_cons (de_var 1) (da_cons (de_var 6) da_nil))))) (da_cons de_non (da_cons (de_and (de_var 7) (de_one (de_cmp (op_eqD hr.units) g2_eq (dr_var 6) (dr_var 8) (nomark _)))) da_nil)))))
  (db_cons (ds_for PassesOwn.never rfl (di_list (de_fresh (df_lst (da_cons (de_var 10) (da_cons (de_bin or_add g2_add (dr_var 10) (dr_of (de_tup (da_cons (de_var 3) (da_cons (de_var 3) da_nil))))) (da_cons (de_bin or_add g2_add (dr_of (de_tup (da_cons (de_var 3) (da_cons (de_var 3) da_nil)))) (dr_var 10)) (da_cons (de_slice (dr_var 10) do_none (do_some (de_un un_neg g1_neg (dr_of de_int)))) (da_cons (de_slice (dr_var 10) (do_some de_int) do_none) (da_cons (de_tup da_nil) (da_cons (de_bin or_add g2_add (dr_var 10) (dr_of (de_tup (da_cons (de_var 3) da_nil)))) da_nil)))))))))) (dg_name 12 sc_law_lines.nd) (db_one (ds_app 5 (de_tup (da_cons (de_tup (da_cons de_str (da_cons (de_var 0) (da_cons (de_var 1) (da_cons (de_call1 call_len c1_len Bt.len PySem.boot_len (dr_var 12)) da_nil))))) (da_cons (de_tup (da_cons (de_var 6) (da_cons (de_var 12) da_nil))) (da_cons (de_and (de_var 7) (de_one (de_cmp (op_eqD hr.units) g2_eq (dr_of (de_call1 call_len c1_len Bt.len PySem.boot_len (dr_var 12))) (dr_var 11) (nomark _)))) da_nil)))))))
  (db_one (ds_app 5 (de_tup (da_cons (de_tup (da_cons de_str (da_cons (de_var 0) (da_cons (de_var 1) (da_cons (de_bin or_add g2_add (dr_of (de_bin or_add g2_add (dr_var 11) (dr_of de_int))) (dr_of (de_bin op_mod g2_mod (dr_of (de_ix (dr_var 2) (dr_of de_int) (fun _ _ => rfl))) (dr_of de_int)))) da_nil))))) (da_cons (de_tup (da_cons (de_var 6) (da_cons (de_var 10) da_nil))) (da_cons de_bl da_nil))))))))))
  (db_one (ds_retV 5))))))))
theorem ok_law_stays {P : Program} {w : World} {K : PySem.W.Frag} {mg : Str → Option Value} {base : Heap} {f : Addr} {fd : FuncData} (Bt : Bt mg) (F : FnP K "_law_stays" s_law_stays f fd) (hm : mg "_law_stays" = some (.ref f)) (c_law_piles : Cl P w K mg base 2 "_law_piles" F_law_piles) (c_law_arranged : Cl P w K mg base 2 "_law_arranged" F_law_arranged) (c_law_most_stay : Cl P w K mg base 2 "_law_most_stay" F_law_most_stay) : Cl P w K mg base 3 "_law_stays" F_law_stays := by
  refine fn_d (N := N_law_stays) (g := B_law_stays) F hm sc_law_stays (fun _ _ _ _ _ _ us hl => match us, hl with | [_, _, _], _ => rfl) fun cdv A outer s H E hr => ?_
  exact (db_cons (ds_asg (de_call c_law_piles hr (by decide) (da_cons (de_var 0) (da_cons (de_var 1) da_nil))) (dg_tup rfl (dgs_cons 9 sc_law_stays.nd (dgs_cons 10 sc_law_stays.nd dgs_nil))))
  (db_cons (ds_par3 11 12 13 rfl sc_law_stays.nd (dc_of (de_call1 call_len c1_len Bt.len PySem.boot_len (dr_var 0))) (dc_of (de_call c_law_most_stay hr (by decide) (da_cons (de_var 0) (da_cons (de_var 1) da_nil)))) (dc_of (de_bin op_mod g2_mod (dr_of (de_ix (dr_var 2) (dr_of de_int) (fun _ _ => rfl))) (dr_of (de_call2 (call_max2 rfl) c2_max Bt.max PyProof.Rows.boot_max (dr_of de_int) (dr_of (de_call1 call_len c1_len Bt.len PySem.boot_len (dr_var 10))))))))
  (db_cons (ds_par2 14 15 rfl sc_law_stays.nd (dc_of (de_tupRg1 rfl Bt.tuple Bt.range (dr_var 11))) (dc_of (de_callT1 call_tuple_of c1_tup Bt.tuple PyProof.Rows.boot_tuple (dr_of (de_fresh (df_lc rfl sc_law_stays.nd (di_range1 Bt.range (dr_var 11)) (blkOk_by (N := N_law_stays) (sc := defScope s_law_stays) (own := [("_law_k", 18)]) (by decide +kernel)) (by decide) (fun _ _ _ _ _ => (dg_name 18 sc_law_stays.nd)) (fun _ _ _ _ _ => dts_nil) (fun _ _ _ _ _ => (de_tup (da_cons (de_var 18) da_nil)))))))))
  (db_cons (ds_set 3 sc_law_stays.nd (de_var 10))
  (db_cons (ds_if (dt_cmp op_gt g2_gt (dr_of (de_call1 call_len c1_len Bt.len PySem.boot_len (dr_var 10))) (dr_of de_int) (nomark _)) (db_cons (ds_set 13 sc_law_stays.nd (de_bin op_mod g2_mod (dr_var 13) (dr_of (de_bin op_sub g2_sub (dr_of (de_call1 call_len c1_len Bt.len PySem.boot_len (dr_var 10))) (dr_of de_int)))))
  (db_one (ds_set 3 sc_law_stays.nd (de_bin or_add g2_add (dr_of (de_bin or_add g2_add (dr_of (de_slice (dr_var 10) do_none (do_some (de_var 13)))) (dr_of (de_tup (da_cons (de_callT1 call_tuple_of c1_tup Bt.tuple PyProof.Rows.boot_tuple (dr_of (de_call1 cr_sortA c1_sorted Bt.sorted PyProof.Rows.boot_sorted (dr_of (de_bin or_add g2_add (dr_of (de_ix (dr_var 10) (dr_var 13) (fun _ _ => rfl))) (dr_of (de_ix (dr_var 10) (dr_of (de_bin or_add g2_add (dr_var 13) (dr_of de_int))) (fun _ _ => rfl)))))))) da_nil))))) (dr_of (de_slice (dr_var 10) (do_some (de_bin or_add g2_add (dr_var 13) (dr_of de_int))) do_none)))))) db_nil)
  (db_cons (ds_set 4 sc_law_stays.nd (de_call c_law_arranged hr (by decide) (da_cons (de_var 0) (da_cons (de_var 1) da_nil))))
  (db_cons (ds_set 5 sc_law_stays.nd (de_fresh (df_lst (da_cons (de_var 10) (da_cons (de_var 15) (da_cons (de_tup (da_cons (de_var 14) da_nil)) (da_cons (de_bin or_add g2_add (dr_var 10) (dr_of (de_tup (da_cons (de_tup da_nil) da_nil)))) (da_cons (de_slice (dr_var 10) (do_some de_int) do_none) (da_cons (de_slice (dr_var 10) do_none (do_some (de_un un_neg g1_neg (dr_of de_int)))) (da_cons (de_bin or_add g2_add (dr_var 10) (dr_of (de_slice (dr_var 10) do_none (do_some de_int)))) (da_cons (de_var 3) (da_cons (de_tup (da_cons (de_revT (dr_var 4)) da_nil)) (da_cons (de_tup da_nil) da_nil)))))))))))))
  (db_cons (ds_set 6 sc_law_stays.nd (de_fresh (df_lst (da_cons (de_var 9) (da_cons (de_var 14) (da_cons (de_var 4) (da_cons (de_slice (dr_var 9) do_none (do_some de_int)) (da_cons (de_slice (dr_var 9) (do_some de_int) do_none) (da_cons (de_bin or_add g2_add (dr_var 9) (dr_of (de_slice (dr_var 9) (do_some (de_un un_neg g1_neg (dr_of de_int))) do_none))) (da_cons (de_slice (dr_var 14) do_none (do_some (de_call1 call_len c1_len Bt.len PySem.boot_len (dr_var 10)))) (da_cons (de_tup da_nil) da_nil)))))))))))
  (db_cons (ds_setF 7 sc_law_stays.nd (df_lst da_nil))
  (db_cons (ds_for PassesOwn.never rfl (di_list (de_var 6)) (dg_name 8 sc_law_stays.nd) (db_one (ds_for PassesOwn.never rfl (di_list (de_var 5)) (dg_name 16 sc_law_stays.nd) (db_one (ds_for PassesOwn.never rfl (di_list (de_fresh (df_lst (da_cons (de_call1 call_len c1_len Bt.len PySem.boot_len (dr_var 8)) (da_cons (de_call1 call_len c1_len Bt.len PySem.boot_len (dr_var 16)) da_nil))))) (dg_name 17 sc_law_stays.nd) (db_one (ds_app 7 (de_tup (da_cons (de_tup (da_cons de_str (da_cons (de_var 0) (da_cons (de_var 1) (da_cons (de_var 17) da_nil))))) (da_cons (de_tup (da_cons (de_var 8) (da_cons (de_var 16) da_nil))) (da_cons (de_cmp (op_eqD hr.units) g2_eq (dr_var 17) (dr_var 12) (nomark _)) da_nil)))))))))))
  (db_one (ds_retV 7))))))))))))
theorem ok_law_runs {P : Program} {w : World} {K : PySem.W.Frag} {mg : Str → Option Value} {base : Heap} {f : Addr} {fd : FuncData} (Bt : Bt mg) (F : FnP K "_law_runs" s_law_runs f fd) (hm : mg "_law_runs" = some (.ref f)) (c_law_starts : Cl P w K mg base 2 "_law_starts" F_law_starts) (c_law_fewest : Cl P w K mg base 2 "_law_fewest" F_law_fewest) : Cl P w K mg base 3 "_law_runs" F_law_runs := by
  refine fn_d (N := N_law_runs) (g := B_law_runs) F hm sc_law_runs (fun _ _ _ _ _ _ us hl => match us, hl with | [_, _, _], _ => rfl) fun cdv A outer s H E hr => ?_
  exact (db_cons (ds_asg (de_tup (da_cons (de_call c_law_starts hr (by decide) (da_cons (de_var 0) (da_cons (de_var 1) da_nil))) (da_cons (de_call c_law_fewest hr (by decide) (da_cons (de_var 0) (da_cons (de_var 1) da_nil))) (da_cons (de_call1 call_len c1_len Bt.len PySem.boot_len (dr_var 0)) da_nil)))) (dg_tup rfl (dgs_cons 9 sc_law_runs.nd (dgs_cons 10 sc_law_runs.nd (dgs_cons 11 sc_law_runs.nd dgs_nil)))))
  (db_cons (ds_set 3 sc_law_runs.nd (de_bin op_mod g2_mod (dr_of (de_ix (dr_var 2) (dr_of de_int) (fun _ _ => rfl))) (dr_of (de_call2 (call_max2 rfl) c2_max Bt.max PyProof.Rows.boot_max (dr_of de_int) (dr_of (de_call1 call_len c1_len Bt.len PySem.boot_len (dr_var 9)))))))
  (db_cons (ds_set 4 sc_law_runs.nd (de_tupRg1 rfl Bt.tuple Bt.range (dr_var 11)))
  (db_cons (ds_setF 5 sc_law_runs.nd (df_lst da_nil))
  (db_cons (ds_for PassesOwn.never rfl (di_list (de_fresh (df_lst (da_cons (de_var 9) (da_cons (de_var 4) (da_cons (de_slice (dr_var 4) do_none (do_some de_int)) (da_cons (de_evT (dr_var 4)) (da_cons (de_bin or_add g2_add (dr_of (de_slice (dr_var 9) do_none (do_some (de_var 3)))) (dr_of (de_slice (dr_var 9) (do_some (de_bin or_add g2_add (dr_var 3) (dr_of de_int))) do_none))) (da_cons (de_slice (dr_var 9) (do_some de_int) do_none) (da_cons (de_slice (dr_var 9) do_none (do_some (de_un un_neg g1_neg (dr_of de_int)))) (da_cons (de_tup da_nil) da_nil))))))))))) (dg_name 6 sc_law_runs.nd) (db_cons (ds_app 5 (de_tup (da_cons (de_tup (da_cons de_str (da_cons (de_var 0) (da_cons (de_var 1) (da_cons (de_call1 call_len c1_len Bt.len PySem.boot_len (dr_var 6)) da_nil))))) (da_cons (de_var 6) (da_cons (de_cmp (op_eqD hr.units) g2_eq (dr_of (de_call1 call_len c1_len Bt.len PySem.boot_len (dr_var 6))) (dr_var 10) (nomark _)) da_nil)))))
  (db_one (ds_app 5 (de_tup (da_cons (de_tup (da_cons de_str (da_cons (de_var 0) (da_cons (de_var 1) (da_cons (de_bin or_add g2_add (dr_of (de_bin or_add g2_add (dr_var 10) (dr_of de_int))) (dr_of (de_bin op_mod g2_mod (dr_of (de_ix (dr_var 2) (dr_of de_int) (fun _ _ => rfl))) (dr_of de_int)))) da_nil))))) (da_cons (de_var 6) (da_cons de_bl da_nil))))))))
  (db_cons (ds_setLc 7 rfl sc_law_runs.nd (sw_true rfl rfl rfl (by decide +kernel)) (di_tup (de_var 4)) (blkOk_by (N := N_law_runs) (sc := defScope s_law_runs) (own := [("_law_k", 8)]) (by decide +kernel)) (by decide) (fun _ _ _ _ _ => (dg_name 8 sc_law_runs.nd)) (fun _ _ _ _ _ => (dts_one (dt_cmp op_notIn_seq g2_notin (dr_var 8) (dr_var 9) rfl))) (fun _ _ _ _ _ => (de_var 8)))
  (db_cons (ds_for PassesOwn.never rfl (di_list (de_var 7)) (dg_name 8 sc_law_runs.nd) (db_one (ds_app 5 (de_tup (da_cons (de_tup (da_cons de_str (da_cons (de_var 0) (da_cons (de_var 1) (da_cons (de_bin or_add g2_add (dr_var 10) (dr_of de_int)) da_nil))))) (da_cons (de_callT1 call_tuple_of c1_tup Bt.tuple PyProof.Rows.boot_tuple (dr_of (de_call1 cr_sortA c1_sorted Bt.sorted PyProof.Rows.boot_sorted (dr_of (de_bin or_add g2_add (dr_var 9) (dr_of (de_tup (da_cons (de_var 8) da_nil)))))))) (da_cons de_bl da_nil)))))))
  (db_one (ds_retV 5)))))))))
theorem ok_law_shown {P : Program} {w : World} {K : PySem.W.Frag} {mg : Str → Option Value} {base : Heap} {f : Addr} {fd : FuncData} (Bt : Bt mg) (F : FnP K "_law_shown" s_law_shown f fd) (hm : mg "_law_shown" = some (.ref f)) (c_law_arranged : Cl P w K mg base 2 "_law_arranged" F_law_arranged) (c_law_places : Cl P w K mg base 2 "_law_places" F_law_places) (c_law_all_held : Cl P w K mg base 2 "_law_all_held" F_law_all_held) (c_law_piles : Cl P w K mg base 2 "_law_piles" F_law_piles) (c_holds : Cl P w K mg base 8 "holds" F_holds) (c_law_starts : Cl P w K mg base 2 "_law_starts" F_law_starts) (c_law_fewest : Cl P w K mg base 2 "_law_fewest" F_law_fewest) (c_law_most_stay : Cl P w K mg base 2 "_law_most_stay" F_law_most_stay) (c_law_wrong : Cl P w K mg base 2 "_law_wrong" F_law_wrong) : Cl P w K mg base 9 "_law_shown" F_law_shown := by
  refine fn_d (N := N_law_shown) (g := B_law_shown) F hm sc_law_shown (fun _ _ _ _ _ _ us hl => match us, hl with | [_, _], _ => rfl) fun cdv A outer s H E hr => ?_
  exact (db_cons (ds_par3 4 5 6 rfl sc_law_shown.nd (dc_of (de_call c_law_arranged hr (by decide) (da_cons (de_var 0) (da_cons (de_var 1) da_nil)))) (dc_of (de_call c_law_places hr (by decide) (da_cons (de_var 0) (da_cons (de_var 1) da_nil)))) (dc_of (de_call c_law_all_held hr (by decide) (da_cons (de_var 0) (da_cons (de_var 1) da_nil)))))
  (db_cons (ds_setF 2 sc_law_shown.nd (df_lst da_nil))
  (db_cons (ds_for PassesOwn.never rfl (di_range1 Bt.range (dr_of (de_call1 call_len c1_len Bt.len PySem.boot_len (dr_var 0)))) (dg_name 3 sc_law_shown.nd) (db_one (ds_ext 2 (df_lc rfl sc_law_shown.nd (di_range1 Bt.range (dr_var 3)) (blkOk_by (N := N_law_shown) (sc := defScope s_law_shown) (own := [("_law_x", 10)]) (by decide +kernel)) (by decide) (fun _ _ _ _ _ => (dg_name 10 sc_law_shown.nd)) (fun _ _ _ _ _ => dts_nil) (fun _ _ _ _ _ => (de_call c_holds hr (by decide) (da_cons (de_tup (da_cons de_str (da_cons (de_var 0) (da_cons (de_var 1) da_nil)))) (da_cons (de_tup (da_cons (de_var 10) (da_cons (de_var 3) da_nil))) da_nil))))))))
  (db_cons (ds_if (dt_w (dw_or (dt_cmp (op_neD hr.units) g2_ne (dr_of (de_call c_holds hr (by decide) (da_cons (de_tup (da_cons de_str (da_cons (de_var 0) (da_cons (de_var 1) da_nil)))) (da_cons (de_var 4) da_nil)))) (dr_var 6) (nomark _)) (dw_or1 (dt_cmp (op_eqD hr.units) g2_eq (dr_of (de_call1 (cr_any rfl) c1_any Bt.any PyProof.Rows.boot_any (dr_var 2))) (dr_var 6) (nomark _))))) (db_one (ds_ret de_bl)) db_nil)
  (db_cons (ds_if (dt_not (dt_val (de_var 6))) (db_one (ds_ret de_bl)) db_nil)
  (db_cons (ds_asg (de_bin or_add g2_add (dr_of (de_tup (da_cons (de_call c_law_starts hr (by decide) (da_cons (de_var 0) (da_cons (de_var 1) da_nil))) da_nil))) (dr_of (de_call c_law_piles hr (by decide) (da_cons (de_var 0) (da_cons (de_var 1) da_nil))))) (dg_tup rfl (dgs_cons 7 sc_law_shown.nd (dgs_cons 8 sc_law_shown.nd (dgs_cons 9 sc_law_shown.nd dgs_nil)))))
  (db_cons (ds_if (dt_w (dw_or (dt_cmp (op_neD hr.units) g2_ne (dr_of (de_call1 call_len c1_len Bt.len PySem.boot_len (dr_var 7))) (dr_of (de_call c_law_fewest hr (by decide) (da_cons (de_var 0) (da_cons (de_var 1) da_nil)))) (nomark _)) (dw_or1 (dt_not (dt_val (de_call c_holds hr (by decide) (da_cons (de_tup (da_cons de_str (da_cons (de_var 0) (da_cons (de_var 1) (da_cons (de_call1 call_len c1_len Bt.len PySem.boot_len (dr_var 7)) da_nil))))) (da_cons (de_var 7) da_nil)))))))) (db_one (ds_ret de_bl)) db_nil)
  (db_cons (ds_if (dt_w (dw_or (dt_cmp (op_neD hr.units) g2_ne (dr_of (de_call1 call_len c1_len Bt.len PySem.boot_len (dr_var 9))) (dr_of (de_call c_law_most_stay hr (by decide) (da_cons (de_var 0) (da_cons (de_var 1) da_nil)))) (nomark _)) (dw_or1 (dt_not (dt_val (de_call c_holds hr (by decide) (da_cons (de_tup (da_cons de_str (da_cons (de_var 0) (da_cons (de_var 1) (da_cons (de_call1 call_len c1_len Bt.len PySem.boot_len (dr_var 9)) da_nil))))) (da_cons (de_tup (da_cons (de_var 8) (da_cons (de_var 9) da_nil))) da_nil)))))))) (db_one (ds_ret de_bl)) db_nil)
  (db_one (ds_ret (de_and (de_cmp (op_eqD hr.units) g2_eq (dr_of (de_call1 call_len c1_len Bt.len PySem.boot_len (dr_var 5))) (dr_of (de_call c_law_wrong hr (by decide) (da_cons (de_var 0) (da_cons (de_var 1) da_nil)))) (nomark _)) (de_one (de_call c_holds hr (by decide) (da_cons (de_tup (da_cons de_str (da_cons (de_var 0) (da_cons (de_var 1) (da_cons (de_call1 call_len c1_len Bt.len PySem.boot_len (dr_var 5)) da_nil))))) (da_cons (de_tup (da_cons (de_var 4) (da_cons (de_var 5) da_nil))) da_nil)))))))))))))))
theorem ok_law {P : Program} {w : World} {K : PySem.W.Frag} {mg : Str → Option Value} {base : Heap} {f : Addr} {fd : FuncData} (Bt : Bt mg) (F : FnP K "law" s_law f fd) (c_law_draws : Cl P w K mg base 1 "_law_draws" F_law_draws) (c_law_things : Cl P w K mg base 3 "_law_things" F_law_things) (c_law_order : Cl P w K mg base 1 "_law_order" F_law_order) (c_law_cell : Cl P w K mg base 1 "_law_cell" F_law_cell) (c_law_spoilt : Cl P w K mg base 1 "_law_spoilt" F_law_spoilt) (c_law_shown : Cl P w K mg base 9 "_law_shown" F_law_shown) (c_law_lines : Cl P w K mg base 3 "_law_lines" F_law_lines) (c_law_stays : Cl P w K mg base 3 "_law_stays" F_law_stays) (c_law_sound : Cl P w K mg base 9 "_law_sound" F_law_sound) (c_law_runs : Cl P w K mg base 3 "_law_runs" F_law_runs) : FnOk P w K mg base CX0 10 f fd ["_law_script"] (spD K F_law) := by
  refine fn_ok (N := N_law) (ps := ["_law_script"]) (g := B_law) F sc_law fun cdv A outer s H E hr => ?_
  exact (db_cons (ds_for PassesOwn.never rfl (di_range1 Bt.range (dr_of (de_call2 (call_max2 rfl) c2_max Bt.max PyProof.Rows.boot_max (dr_of de_int) (dr_of (de_call2 (call_min2 rfl) c2_min Bt.min PyProof.Rows.boot_min (dr_of (de_call1 call_len c1_len Bt.len PySem.boot_len (dr_var 0))) (dr_of de_int)))))) (dg_name 1 sc_law.nd) (db_cons (ds_set 2 sc_law.nd (de_call c_law_draws hr (by decide) (da_cons (de_call c_law_cell hr (by decide) (da_cons (de_var 0) (da_cons (de_var 1) da_nil))) (da_cons de_int da_nil))))
  (db_cons (ds_set 3 sc_law.nd (de_slice (dr_var 2) (do_some de_int) do_none))
  (db_cons (ds_set 4 sc_law.nd (de_call c_law_things hr (by decide) (da_cons (de_var 3) (da_cons (de_bin op_mod g2_mod (dr_of (de_bin op_fdiv g2_div (dr_of (de_ix (dr_var 2) (dr_of de_int) (fun _ _ => rfl))) (dr_of de_int))) (dr_of de_int)) da_nil))))
  (db_cons (ds_if (dt_cmp (op_eqD hr.units) g2_eq (dr_of (de_bin op_mod g2_mod (dr_of (de_ix (dr_var 2) (dr_of de_int) (fun _ _ => rfl))) (dr_of de_int))) (dr_of de_int) (nomark _)) (db_one (ds_set 4 sc_law.nd (de_call c_law_spoilt hr (by decide) (da_cons (de_var 4) (da_cons (de_slice (dr_var 2) (do_some de_int) do_none) da_nil))))) db_nil)
  (db_cons (ds_set 5 sc_law.nd (de_call c_law_order hr (by decide) (da_cons (de_slice (dr_var 2) (do_some de_int) do_none) (da_cons (de_bin or_add g2_add (dr_of de_int) (dr_of (de_bin op_mod g2_mod (dr_of (de_ix (dr_var 3) (dr_of de_int) (fun _ _ => rfl))) (dr_of de_int)))) da_nil))))
  (db_cons (ds_if (dt_not (dt_val (de_call c_law_shown hr (by decide) (da_cons (de_var 4) (da_cons (de_var 5) da_nil))))) (db_one (ds_ret de_bl)) db_nil)
  (db_cons (ds_set 6 sc_law.nd (de_bin or_add g2_add (dr_of (de_call c_law_lines hr (by decide) (da_cons (de_var 4) (da_cons (de_var 5) (da_cons (de_slice (dr_var 2) (do_some de_int) do_none) da_nil))))) (dr_of (de_call c_law_stays hr (by decide) (da_cons (de_var 4) (da_cons (de_var 5) (da_cons (de_slice (dr_var 2) (do_some de_int) do_none) da_nil)))))))
  (db_one (ds_if (dt_not (dt_val (de_call c_law_sound hr (by decide) (da_cons (de_bin or_add g2_add (dr_var 6) (dr_of (de_call c_law_runs hr (by decide) (da_cons (de_var 4) (da_cons (de_var 5) (da_cons (de_slice (dr_var 2) (do_some de_int) do_none) da_nil)))))) da_nil)))) (db_one (ds_ret de_bl)) db_nil))))))))))
  (db_one (ds_ret de_bl)))
end NM
set_option maxHeartbeats 0
namespace NM
open PySem PySem.Spec PyProof.Rows L2 DL
def d_is_whole : He.DefD := ⟨("is_whole", none), "is_whole", "is_whole", defArgs s_is_whole, defBody s_is_whole, defScope s_is_whole, [], []⟩
def d_is_key : He.DefD := ⟨("is_key", none), "is_key", "is_key", defArgs s_is_key, defBody s_is_key, defScope s_is_key, [], []⟩
def d_is_thing : He.DefD := ⟨("is_thing", none), "is_thing", "is_thing", defArgs s_is_thing, defBody s_is_thing, defScope s_is_thing, [], []⟩
def d_is_row : He.DefD := ⟨("is_row", none), "is_row", "is_row", defArgs s_is_row, defBody s_is_row, defScope s_is_row, [], []⟩
def d_is_part : He.DefD := ⟨("is_part", none), "is_part", "is_part", defArgs s_is_part, defBody s_is_part, defScope s_is_part, [], []⟩
def d_is_order : He.DefD := ⟨("is_order", none), "is_order", "is_order", defArgs s_is_order, defBody s_is_order, defScope s_is_order, [], []⟩
def d_compared : He.DefD := ⟨("compared", none), "compared", "compared", defArgs s_compared, defBody s_compared, defScope s_compared, [], []⟩
def d_are_wholes : He.DefD := ⟨("are_wholes", none), "are_wholes", "are_wholes", defArgs s_are_wholes, defBody s_are_wholes, defScope s_are_wholes, [], []⟩
def d_do_grow : He.DefD := ⟨("do_grow", none), "do_grow", "do_grow", defArgs s_do_grow, defBody s_do_grow, defScope s_do_grow, [], []⟩
def d_is_line_of : He.DefD := ⟨("is_line_of", none), "is_line_of", "is_line_of", defArgs s_is_line_of, defBody s_is_line_of, defScope s_is_line_of, [], []⟩
def d_is_all_of : He.DefD := ⟨("is_all_of", none), "is_all_of", "is_all_of", defArgs s_is_all_of, defBody s_is_all_of, defScope s_is_all_of, [], []⟩
def d_is_right_ahead : He.DefD := ⟨("is_right_ahead", none), "is_right_ahead", "is_right_ahead", defArgs s_is_right_ahead, defBody s_is_right_ahead, defScope s_is_right_ahead, [], []⟩
def d_comes_ahead : He.DefD := ⟨("comes_ahead", none), "comes_ahead", "comes_ahead", defArgs s_comes_ahead, defBody s_comes_ahead, defScope s_comes_ahead, [], []⟩
def d_does_rise : He.DefD := ⟨("does_rise", none), "does_rise", "does_rise", defArgs s_does_rise, defBody s_does_rise, defScope s_does_rise, [], []⟩
def d_does_fall : He.DefD := ⟨("does_fall", none), "does_fall", "does_fall", defArgs s_does_fall, defBody s_does_fall, defScope s_does_fall, [], []⟩
def d_is_ordered : He.DefD := ⟨("is_ordered", none), "is_ordered", "is_ordered", defArgs s_is_ordered, defBody s_is_ordered, defScope s_is_ordered, [], []⟩
def d_judge_held : He.DefD := ⟨("judge_held", none), "judge_held", "judge_held", defArgs s_judge_held, defBody s_judge_held, defScope s_judge_held, [], []⟩
def d_judge_unheld : He.DefD := ⟨("judge_unheld", none), "judge_unheld", "judge_unheld", defArgs s_judge_unheld, defBody s_judge_unheld, defScope s_judge_unheld, [], []⟩
def d_exchanged : He.DefD := ⟨("exchanged", none), "exchanged", "exchanged", defArgs s_exchanged, defBody s_exchanged, defScope s_exchanged, [], []⟩
def d_judge_wrong : He.DefD := ⟨("judge_wrong", none), "judge_wrong", "judge_wrong", defArgs s_judge_wrong, defBody s_judge_wrong, defScope s_judge_wrong, [], []⟩
def d_is_fall : He.DefD := ⟨("is_fall", none), "is_fall", "is_fall", defArgs s_is_fall, defBody s_is_fall, defScope s_is_fall, [], []⟩
def d_judge_stays : He.DefD := ⟨("judge_stays", none), "judge_stays", "judge_stays", defArgs s_judge_stays, defBody s_judge_stays, defScope s_judge_stays, [], []⟩
def d_is_run : He.DefD := ⟨("is_run", none), "is_run", "is_run", defArgs s_is_run, defBody s_is_run, defScope s_is_run, [], []⟩
def d_judge_runs : He.DefD := ⟨("judge_runs", none), "judge_runs", "judge_runs", defArgs s_judge_runs, defBody s_judge_runs, defScope s_judge_runs, [], []⟩
def d_holds_of_row : He.DefD := ⟨("holds_of_row", none), "holds_of_row", "holds_of_row", defArgs s_holds_of_row, defBody s_holds_of_row, defScope s_holds_of_row, [], []⟩
def d_holds_of_more : He.DefD := ⟨("holds_of_more", none), "holds_of_more", "holds_of_more", defArgs s_holds_of_more, defBody s_holds_of_more, defScope s_holds_of_more, [], []⟩
def d_holds : He.DefD := ⟨("holds", none), "holds", "holds", defArgs s_holds, defBody s_holds, defScope s_holds, [], []⟩
def d_law_cell : He.DefD := ⟨("_law_cell", none), "_law_cell", "_law_cell", defArgs s_law_cell, defBody s_law_cell, defScope s_law_cell, [], []⟩
def d_law_draws : He.DefD := ⟨("_law_draws", none), "_law_draws", "_law_draws", defArgs s_law_draws, defBody s_law_draws, defScope s_law_draws, [], []⟩
def d_law_word : He.DefD := ⟨("_law_word", none), "_law_word", "_law_word", defArgs s_law_word, defBody s_law_word, defScope s_law_word, [], []⟩
def d_law_first : He.DefD := ⟨("_law_first", none), "_law_first", "_law_first", defArgs s_law_first, defBody s_law_first, defScope s_law_first, [], []⟩
def d_law_things : He.DefD := ⟨("_law_things", none), "_law_things", "_law_things", defArgs s_law_things, defBody s_law_things, defScope s_law_things, [], []⟩
def d_law_order : He.DefD := ⟨("_law_order", none), "_law_order", "_law_order", defArgs s_law_order, defBody s_law_order, defScope s_law_order, [], []⟩
def d_law_held : He.DefD := ⟨("_law_held", none), "_law_held", "_law_held", defArgs s_law_held, defBody s_law_held, defScope s_law_held, [], []⟩
def d_law_arranged : He.DefD := ⟨("_law_arranged", none), "_law_arranged", "_law_arranged", defArgs s_law_arranged, defBody s_law_arranged, defScope s_law_arranged, [], []⟩
def d_law_spoilt : He.DefD := ⟨("_law_spoilt", none), "_law_spoilt", "_law_spoilt", defArgs s_law_spoilt, defBody s_law_spoilt, defScope s_law_spoilt, [], []⟩
def d_law_places : He.DefD := ⟨("_law_places", none), "_law_places", "_law_places", defArgs s_law_places, defBody s_law_places, defScope s_law_places, [], []⟩
def d_law_piles : He.DefD := ⟨("_law_piles", none), "_law_piles", "_law_piles", defArgs s_law_piles, defBody s_law_piles, defScope s_law_piles, [], []⟩
def d_law_starts : He.DefD := ⟨("_law_starts", none), "_law_starts", "_law_starts", defArgs s_law_starts, defBody s_law_starts, defScope s_law_starts, [], []⟩
def d_law_sound : He.DefD := ⟨("_law_sound", none), "_law_sound", "_law_sound", defArgs s_law_sound, defBody s_law_sound, defScope s_law_sound, [], []⟩
def d_law_all_held : He.DefD := ⟨("_law_all_held", none), "_law_all_held", "_law_all_held", defArgs s_law_all_held, defBody s_law_all_held, defScope s_law_all_held, [], []⟩
def d_law_wrong : He.DefD := ⟨("_law_wrong", none), "_law_wrong", "_law_wrong", defArgs s_law_wrong, defBody s_law_wrong, defScope s_law_wrong, [], []⟩
def d_law_most_stay : He.DefD := ⟨("_law_most_stay", none), "_law_most_stay", "_law_most_stay", defArgs s_law_most_stay, defBody s_law_most_stay, defScope s_law_most_stay, [], []⟩
def d_law_fewest : He.DefD := ⟨("_law_fewest", none), "_law_fewest", "_law_fewest", defArgs s_law_fewest, defBody s_law_fewest, defScope s_law_fewest, [], []⟩
def d_law_exchanged : He.DefD := ⟨("_law_exchanged", none), "_law_exchanged", "_law_exchanged", defArgs s_law_exchanged, defBody s_law_exchanged, defScope s_law_exchanged, [], []⟩
def d_law_lines : He.DefD := ⟨("_law_lines", none), "_law_lines", "_law_lines", defArgs s_law_lines, defBody s_law_lines, defScope s_law_lines, [], []⟩
def d_law_stays : He.DefD := ⟨("_law_stays", none), "_law_stays", "_law_stays", defArgs s_law_stays, defBody s_law_stays, defScope s_law_stays, [], []⟩
def d_law_runs : He.DefD := ⟨("_law_runs", none), "_law_runs", "_law_runs", defArgs s_law_runs, defBody s_law_runs, defScope s_law_runs, [], []⟩
def d_law_shown : He.DefD := ⟨("_law_shown", none), "_law_shown", "_law_shown", defArgs s_law_shown, defBody s_law_shown, defScope s_law_shown, [], []⟩
def d_law : He.DefD := ⟨("law", none), "law", "law", defArgs s_law, defBody s_law, defScope s_law, [], []⟩
def fn1 : List He.DefD := [d_is_whole, d_is_key, d_is_thing, d_is_row, d_is_part, d_is_order, d_compared, d_are_wholes, d_do_grow, d_is_line_of, d_is_all_of, d_is_right_ahead, d_comes_ahead, d_does_rise, d_does_fall, d_is_ordered, d_judge_held, d_judge_unheld, d_exchanged, d_judge_wrong, d_is_fall, d_judge_stays, d_is_run, d_judge_runs, d_holds_of_row]
def fn2 : List He.DefD := [d_holds_of_more, d_holds, d_law_cell, d_law_draws, d_law_word, d_law_first, d_law_things, d_law_order, d_law_held, d_law_arranged, d_law_spoilt, d_law_places, d_law_piles, d_law_starts, d_law_sound, d_law_all_held, d_law_wrong, d_law_most_stay, d_law_fewest, d_law_exchanged, d_law_lines, d_law_stays, d_law_runs, d_law_shown, d_law]
def fn : List He.DefD := fn1 ++ fn2
def fa0 : List He.Fa := [.int "MOST_THINGS" 60, .str "LETTERS" "abcdefghijklmnopqrstuvwxyz", .free "isinstance", .free "int", .free "bool", .free "str", .free "tuple", .free "all", .free "len", .free "min", .free "range", .free "set", .free "list", .free "sorted", .free "any", .free "max", .free "enumerate", .glo "is_whole", .glo "is_key", .glo "is_thing", .glo "is_row", .glo "is_part", .glo "is_order", .glo "compared", .glo "are_wholes"]
def fa1 : List He.Fa := [.glo "do_grow", .glo "is_line_of", .glo "is_all_of", .glo "is_right_ahead", .glo "comes_ahead", .glo "does_rise", .glo "does_fall", .glo "is_ordered", .glo "judge_held", .glo "judge_unheld", .glo "exchanged", .glo "judge_wrong", .glo "is_fall", .glo "judge_stays", .glo "is_run", .glo "judge_runs", .glo "holds_of_row", .glo "holds_of_more", .glo "holds", .glo "_law_cell", .glo "_law_draws", .glo "_law_word", .glo "_law_first", .glo "_law_things", .glo "_law_order"]
def fa2 : List He.Fa := [.glo "_law_held", .glo "_law_arranged", .glo "_law_spoilt", .glo "_law_places", .glo "_law_piles", .glo "_law_starts", .glo "_law_sound", .glo "_law_all_held", .glo "_law_wrong", .glo "_law_most_stay", .glo "_law_fewest", .glo "_law_exchanged", .glo "_law_lines", .glo "_law_stays", .glo "_law_runs", .glo "_law_shown", .glo "law"]
def fa : List He.Fa := fa0 ++ fa1 ++ fa2
def loose0 : List PySem.Str := ["MOST_THINGS", "LETTERS", "is_whole", "is_key", "is_thing", "is_row", "is_part", "is_order", "compared", "are_wholes", "do_grow", "is_line_of", "is_all_of", "is_right_ahead", "comes_ahead", "does_rise", "does_fall", "is_ordered", "POWERS", "is_told_ask"]
def loose1 : List PySem.Str := ["is_told_book", "does_answer", "is_way", "is_ask_of", "judge_only", "judge_other", "judge_must", "judge_held", "judge_unheld", "exchanged", "judge_wrong", "is_fall", "judge_stays", "is_run", "judge_runs", "RUNS_AT_MOST", "LENGTH_AT_MOST", "are_run_lengths", "stood_behind", "tree_cost"]
def loose2 : List PySem.Str := ["is_table", "is_no_more", "judge_least", "MOST_WAYS_THINGS", "holds_of_row", "holds_of_more", "holds_of_book", "holds", "_law_cell", "_law_draws", "_law_word", "_law_first", "_law_things", "_law_order", "_law_held", "_law_arranged", "_law_spoilt", "_law_places", "_law_piles", "_law_starts"]
def loose3 : List PySem.Str := ["_law_sound", "_law_all_held", "_law_wrong", "_law_most_stay", "_law_fewest", "_law_exchanged", "_law_lines", "_law_stays", "_law_runs", "_law_shown"]
def loose : List PySem.Str := loose0 ++ loose1 ++ loose2 ++ loose3
abbrev R : PySem.W.OpenRow := PySem.W.OpenLaw.row PySem.Challenge.rw_nearmerge_k52_whole_never_both
abbrev hk : PySem.W.Hook := He.hookD 4 fa fn
def ob (s : PySem.W.SharedT) : He.AlD := He.obsDG 4 fa fn (HandSHeadRun.getT s)
theorem ob_eq (s : PySem.W.SharedT) : ob s = hk.obs s.abs := He.obsDG_eq (HandSHeadRun.getT_eq s)
theorem run (w : World) : HandSHeadRun.RunEq R (PySem.W.view R.prog [77]) hk ob 4000 loose w := by
  intro os
  kernel_rfl
theorem facts {P : Program} {w : World} {K : PySem.W.Frag} {h : Heap} {mg : PySem.Str → Option Value} {f : Addr} (X : K.In h) (G : h.Ns mainGlobals mg) (hfa : mg ("law" : PySem.Str) = some (.ref f)) (c : He.SaysD fa fn K) :
    ∃ fd : FuncData, (∀ (s : Shared) (v : Value), BindsTo s fd ⟨[v], []⟩ [("_law_script", v)]) ∧ ∀ base : Heap, K.In base → base.Ns mainGlobals mg → FnOk P w K mg base CX0 10 f fd ["_law_script"] (spD K F_law) := by
  obtain ⟨fd_is_whole, D_is_whole⟩ := c.def_ 0 (d := d_is_whole) rfl
  have m_is_whole := He.glo_ok X G (c.fact 17 (f := .glo "is_whole") rfl)
  obtain ⟨fd_is_key, D_is_key⟩ := c.def_ 1 (d := d_is_key) rfl
  have m_is_key := He.glo_ok X G (c.fact 18 (f := .glo "is_key") rfl)
  obtain ⟨fd_is_thing, D_is_thing⟩ := c.def_ 2 (d := d_is_thing) rfl
  have m_is_thing := He.glo_ok X G (c.fact 19 (f := .glo "is_thing") rfl)
  obtain ⟨fd_is_row, D_is_row⟩ := c.def_ 3 (d := d_is_row) rfl
  have m_is_row := He.glo_ok X G (c.fact 20 (f := .glo "is_row") rfl)
  obtain ⟨fd_is_part, D_is_part⟩ := c.def_ 4 (d := d_is_part) rfl
  have m_is_part := He.glo_ok X G (c.fact 21 (f := .glo "is_part") rfl)
  obtain ⟨fd_is_order, D_is_order⟩ := c.def_ 5 (d := d_is_order) rfl
  have m_is_order := He.glo_ok X G (c.fact 22 (f := .glo "is_order") rfl)
  obtain ⟨fd_compared, D_compared⟩ := c.def_ 6 (d := d_compared) rfl
  have m_compared := He.glo_ok X G (c.fact 23 (f := .glo "compared") rfl)
  obtain ⟨fd_are_wholes, D_are_wholes⟩ := c.def_ 7 (d := d_are_wholes) rfl
  have m_are_wholes := He.glo_ok X G (c.fact 24 (f := .glo "are_wholes") rfl)
  obtain ⟨fd_do_grow, D_do_grow⟩ := c.def_ 8 (d := d_do_grow) rfl
  have m_do_grow := He.glo_ok X G (c.fact 25 (f := .glo "do_grow") rfl)
  obtain ⟨fd_is_line_of, D_is_line_of⟩ := c.def_ 9 (d := d_is_line_of) rfl
  have m_is_line_of := He.glo_ok X G (c.fact 26 (f := .glo "is_line_of") rfl)
  obtain ⟨fd_is_all_of, D_is_all_of⟩ := c.def_ 10 (d := d_is_all_of) rfl
  have m_is_all_of := He.glo_ok X G (c.fact 27 (f := .glo "is_all_of") rfl)
  obtain ⟨fd_is_right_ahead, D_is_right_ahead⟩ := c.def_ 11 (d := d_is_right_ahead) rfl
  have m_is_right_ahead := He.glo_ok X G (c.fact 28 (f := .glo "is_right_ahead") rfl)
  obtain ⟨fd_comes_ahead, D_comes_ahead⟩ := c.def_ 12 (d := d_comes_ahead) rfl
  have m_comes_ahead := He.glo_ok X G (c.fact 29 (f := .glo "comes_ahead") rfl)
  obtain ⟨fd_does_rise, D_does_rise⟩ := c.def_ 13 (d := d_does_rise) rfl
  have m_does_rise := He.glo_ok X G (c.fact 30 (f := .glo "does_rise") rfl)
  obtain ⟨fd_does_fall, D_does_fall⟩ := c.def_ 14 (d := d_does_fall) rfl
  have m_does_fall := He.glo_ok X G (c.fact 31 (f := .glo "does_fall") rfl)
  obtain ⟨fd_is_ordered, D_is_ordered⟩ := c.def_ 15 (d := d_is_ordered) rfl
  have m_is_ordered := He.glo_ok X G (c.fact 32 (f := .glo "is_ordered") rfl)
  obtain ⟨fd_judge_held, D_judge_held⟩ := c.def_ 16 (d := d_judge_held) rfl
  have m_judge_held := He.glo_ok X G (c.fact 33 (f := .glo "judge_held") rfl)
  obtain ⟨fd_judge_unheld, D_judge_unheld⟩ := c.def_ 17 (d := d_judge_unheld) rfl
  have m_judge_unheld := He.glo_ok X G (c.fact 34 (f := .glo "judge_unheld") rfl)
  obtain ⟨fd_exchanged, D_exchanged⟩ := c.def_ 18 (d := d_exchanged) rfl
  have m_exchanged := He.glo_ok X G (c.fact 35 (f := .glo "exchanged") rfl)
  obtain ⟨fd_judge_wrong, D_judge_wrong⟩ := c.def_ 19 (d := d_judge_wrong) rfl
  have m_judge_wrong := He.glo_ok X G (c.fact 36 (f := .glo "judge_wrong") rfl)
  obtain ⟨fd_is_fall, D_is_fall⟩ := c.def_ 20 (d := d_is_fall) rfl
  have m_is_fall := He.glo_ok X G (c.fact 37 (f := .glo "is_fall") rfl)
  obtain ⟨fd_judge_stays, D_judge_stays⟩ := c.def_ 21 (d := d_judge_stays) rfl
  have m_judge_stays := He.glo_ok X G (c.fact 38 (f := .glo "judge_stays") rfl)
  obtain ⟨fd_is_run, D_is_run⟩ := c.def_ 22 (d := d_is_run) rfl
  have m_is_run := He.glo_ok X G (c.fact 39 (f := .glo "is_run") rfl)
  obtain ⟨fd_judge_runs, D_judge_runs⟩ := c.def_ 23 (d := d_judge_runs) rfl
  have m_judge_runs := He.glo_ok X G (c.fact 40 (f := .glo "judge_runs") rfl)
  obtain ⟨fd_holds_of_row, D_holds_of_row⟩ := c.def_ 24 (d := d_holds_of_row) rfl
  have m_holds_of_row := He.glo_ok X G (c.fact 41 (f := .glo "holds_of_row") rfl)
  obtain ⟨fd_holds_of_more, D_holds_of_more⟩ := c.def_ 25 (d := d_holds_of_more) rfl
  have m_holds_of_more := He.glo_ok X G (c.fact 42 (f := .glo "holds_of_more") rfl)
  obtain ⟨fd_holds, D_holds⟩ := c.def_ 26 (d := d_holds) rfl
  have m_holds := He.glo_ok X G (c.fact 43 (f := .glo "holds") rfl)
  obtain ⟨fd_law_cell, D_law_cell⟩ := c.def_ 27 (d := d_law_cell) rfl
  have m_law_cell := He.glo_ok X G (c.fact 44 (f := .glo "_law_cell") rfl)
  obtain ⟨fd_law_draws, D_law_draws⟩ := c.def_ 28 (d := d_law_draws) rfl
  have m_law_draws := He.glo_ok X G (c.fact 45 (f := .glo "_law_draws") rfl)
  obtain ⟨fd_law_word, D_law_word⟩ := c.def_ 29 (d := d_law_word) rfl
  have m_law_word := He.glo_ok X G (c.fact 46 (f := .glo "_law_word") rfl)
  obtain ⟨fd_law_first, D_law_first⟩ := c.def_ 30 (d := d_law_first) rfl
  have m_law_first := He.glo_ok X G (c.fact 47 (f := .glo "_law_first") rfl)
  obtain ⟨fd_law_things, D_law_things⟩ := c.def_ 31 (d := d_law_things) rfl
  have m_law_things := He.glo_ok X G (c.fact 48 (f := .glo "_law_things") rfl)
  obtain ⟨fd_law_order, D_law_order⟩ := c.def_ 32 (d := d_law_order) rfl
  have m_law_order := He.glo_ok X G (c.fact 49 (f := .glo "_law_order") rfl)
  obtain ⟨fd_law_held, D_law_held⟩ := c.def_ 33 (d := d_law_held) rfl
  have m_law_held := He.glo_ok X G (c.fact 50 (f := .glo "_law_held") rfl)
  obtain ⟨fd_law_arranged, D_law_arranged⟩ := c.def_ 34 (d := d_law_arranged) rfl
  have m_law_arranged := He.glo_ok X G (c.fact 51 (f := .glo "_law_arranged") rfl)
  obtain ⟨fd_law_spoilt, D_law_spoilt⟩ := c.def_ 35 (d := d_law_spoilt) rfl
  have m_law_spoilt := He.glo_ok X G (c.fact 52 (f := .glo "_law_spoilt") rfl)
  obtain ⟨fd_law_places, D_law_places⟩ := c.def_ 36 (d := d_law_places) rfl
  have m_law_places := He.glo_ok X G (c.fact 53 (f := .glo "_law_places") rfl)
  obtain ⟨fd_law_piles, D_law_piles⟩ := c.def_ 37 (d := d_law_piles) rfl
  have m_law_piles := He.glo_ok X G (c.fact 54 (f := .glo "_law_piles") rfl)
  obtain ⟨fd_law_starts, D_law_starts⟩ := c.def_ 38 (d := d_law_starts) rfl
  have m_law_starts := He.glo_ok X G (c.fact 55 (f := .glo "_law_starts") rfl)
  obtain ⟨fd_law_sound, D_law_sound⟩ := c.def_ 39 (d := d_law_sound) rfl
  have m_law_sound := He.glo_ok X G (c.fact 56 (f := .glo "_law_sound") rfl)
  obtain ⟨fd_law_all_held, D_law_all_held⟩ := c.def_ 40 (d := d_law_all_held) rfl
  have m_law_all_held := He.glo_ok X G (c.fact 57 (f := .glo "_law_all_held") rfl)
  obtain ⟨fd_law_wrong, D_law_wrong⟩ := c.def_ 41 (d := d_law_wrong) rfl
  have m_law_wrong := He.glo_ok X G (c.fact 58 (f := .glo "_law_wrong") rfl)
  obtain ⟨fd_law_most_stay, D_law_most_stay⟩ := c.def_ 42 (d := d_law_most_stay) rfl
  have m_law_most_stay := He.glo_ok X G (c.fact 59 (f := .glo "_law_most_stay") rfl)
  obtain ⟨fd_law_fewest, D_law_fewest⟩ := c.def_ 43 (d := d_law_fewest) rfl
  have m_law_fewest := He.glo_ok X G (c.fact 60 (f := .glo "_law_fewest") rfl)
  obtain ⟨fd_law_exchanged, D_law_exchanged⟩ := c.def_ 44 (d := d_law_exchanged) rfl
  have m_law_exchanged := He.glo_ok X G (c.fact 61 (f := .glo "_law_exchanged") rfl)
  obtain ⟨fd_law_lines, D_law_lines⟩ := c.def_ 45 (d := d_law_lines) rfl
  have m_law_lines := He.glo_ok X G (c.fact 62 (f := .glo "_law_lines") rfl)
  obtain ⟨fd_law_stays, D_law_stays⟩ := c.def_ 46 (d := d_law_stays) rfl
  have m_law_stays := He.glo_ok X G (c.fact 63 (f := .glo "_law_stays") rfl)
  obtain ⟨fd_law_runs, D_law_runs⟩ := c.def_ 47 (d := d_law_runs) rfl
  have m_law_runs := He.glo_ok X G (c.fact 64 (f := .glo "_law_runs") rfl)
  obtain ⟨fd_law_shown, D_law_shown⟩ := c.def_ 48 (d := d_law_shown) rfl
  have m_law_shown := He.glo_ok X G (c.fact 65 (f := .glo "_law_shown") rfl)
  obtain ⟨fd_law, D_law⟩ := c.def_ 49 (d := d_law) rfl
  have m_law := He.glo_ok X G (c.fact 66 (f := .glo "law") rfl)
  have e := hfa.symm.trans m_law
  cases e
  have Bt : Bt mg := ⟨He.free_ok X G (c.fact 2 (f := .free "isinstance") rfl), He.free_ok X G (c.fact 3 (f := .free "int") rfl), He.free_ok X G (c.fact 4 (f := .free "bool") rfl), He.free_ok X G (c.fact 5 (f := .free "str") rfl), He.free_ok X G (c.fact 6 (f := .free "tuple") rfl), He.free_ok X G (c.fact 7 (f := .free "all") rfl), He.free_ok X G (c.fact 8 (f := .free "len") rfl), He.free_ok X G (c.fact 9 (f := .free "min") rfl), He.free_ok X G (c.fact 10 (f := .free "range") rfl), He.free_ok X G (c.fact 11 (f := .free "set") rfl), He.free_ok X G (c.fact 12 (f := .free "list") rfl), He.free_ok X G (c.fact 13 (f := .free "sorted") rfl), He.free_ok X G (c.fact 14 (f := .free "any") rfl), He.free_ok X G (c.fact 15 (f := .free "max") rfl), He.free_ok X G (c.fact 16 (f := .free "enumerate") rfl), He.int_ok X G (c.fact 0 (f := .int "MOST_THINGS" 60) rfl), He.str_ok X G (c.fact 1 (f := .str "LETTERS" "abcdefghijklmnopqrstuvwxyz") rfl)⟩
  have b := FunD.bindsA (ps := ["_law_script"]) D_law fun _ _ _ _ _ _ us hl => match us, hl with | [_], _ => rfl
  refine ⟨fd_law, fun s v => b s [v] rfl, fun base _ _ => ?_⟩
  have c_is_whole := ok_is_whole (P := P) (w := w) (base := base) Bt D_is_whole m_is_whole 
  have c_compared := ok_compared (P := P) (w := w) (base := base) Bt D_compared m_compared 
  have c_do_grow := ok_do_grow (P := P) (w := w) (base := base) Bt D_do_grow m_do_grow 
  have c_exchanged := ok_exchanged (P := P) (w := w) (base := base) Bt D_exchanged m_exchanged 
  have c_law_cell := ok_law_cell (P := P) (w := w) (base := base) Bt D_law_cell m_law_cell 
  have c_law_draws := ok_law_draws (P := P) (w := w) (base := base) Bt D_law_draws m_law_draws 
  have c_law_word := ok_law_word (P := P) (w := w) (base := base) Bt D_law_word m_law_word 
  have c_law_order := ok_law_order (P := P) (w := w) (base := base) Bt D_law_order m_law_order 
  have c_law_held := ok_law_held (P := P) (w := w) (base := base) Bt D_law_held m_law_held 
  have c_law_spoilt := ok_law_spoilt (P := P) (w := w) (base := base) Bt D_law_spoilt m_law_spoilt 
  have c_law_exchanged := ok_law_exchanged (P := P) (w := w) (base := base) Bt D_law_exchanged m_law_exchanged 
  have c_is_key := ok_is_key (P := P) (w := w) (base := base) Bt D_is_key m_is_key c_is_whole
  have c_is_part := ok_is_part (P := P) (w := w) (base := base) Bt D_is_part m_is_part c_is_whole
  have c_are_wholes := ok_are_wholes (P := P) (w := w) (base := base) Bt D_are_wholes m_are_wholes c_is_whole
  have c_is_right_ahead := ok_is_right_ahead (P := P) (w := w) (base := base) Bt D_is_right_ahead m_is_right_ahead c_compared
  have c_comes_ahead := ok_comes_ahead (P := P) (w := w) (base := base) Bt D_comes_ahead m_comes_ahead c_compared
  have c_law_first := ok_law_first (P := P) (w := w) (base := base) Bt D_law_first m_law_first c_law_word
  have c_law_arranged := ok_law_arranged (P := P) (w := w) (base := base) Bt D_law_arranged m_law_arranged c_law_held
  have c_law_places := ok_law_places (P := P) (w := w) (base := base) Bt D_law_places m_law_places c_law_held
  have c_law_piles := ok_law_piles (P := P) (w := w) (base := base) Bt D_law_piles m_law_piles c_law_held
  have c_law_starts := ok_law_starts (P := P) (w := w) (base := base) Bt D_law_starts m_law_starts c_law_held
  have c_law_all_held := ok_law_all_held (P := P) (w := w) (base := base) Bt D_law_all_held m_law_all_held c_law_held
  have c_law_wrong := ok_law_wrong (P := P) (w := w) (base := base) Bt D_law_wrong m_law_wrong c_law_held
  have c_law_most_stay := ok_law_most_stay (P := P) (w := w) (base := base) Bt D_law_most_stay m_law_most_stay c_law_held
  have c_law_fewest := ok_law_fewest (P := P) (w := w) (base := base) Bt D_law_fewest m_law_fewest c_law_held
  have c_is_thing := ok_is_thing (P := P) (w := w) (base := base) Bt D_is_thing m_is_thing c_is_key
  have c_is_order := ok_is_order (P := P) (w := w) (base := base) Bt D_is_order m_is_order c_is_part
  have c_is_line_of := ok_is_line_of (P := P) (w := w) (base := base) Bt D_is_line_of m_is_line_of c_are_wholes
  have c_does_rise := ok_does_rise (P := P) (w := w) (base := base) Bt D_does_rise m_does_rise c_is_right_ahead
  have c_does_fall := ok_does_fall (P := P) (w := w) (base := base) Bt D_does_fall m_does_fall c_comes_ahead
  have c_judge_unheld := ok_judge_unheld (P := P) (w := w) (base := base) Bt D_judge_unheld m_judge_unheld c_are_wholes c_compared
  have c_law_things := ok_law_things (P := P) (w := w) (base := base) Bt D_law_things m_law_things c_law_first
  have c_law_lines := ok_law_lines (P := P) (w := w) (base := base) Bt D_law_lines m_law_lines c_law_exchanged c_law_all_held c_law_arranged c_law_places c_law_wrong
  have c_law_stays := ok_law_stays (P := P) (w := w) (base := base) Bt D_law_stays m_law_stays c_law_piles c_law_arranged c_law_most_stay
  have c_law_runs := ok_law_runs (P := P) (w := w) (base := base) Bt D_law_runs m_law_runs c_law_starts c_law_fewest
  have c_is_row := ok_is_row (P := P) (w := w) (base := base) Bt D_is_row m_is_row c_is_thing
  have c_is_all_of := ok_is_all_of (P := P) (w := w) (base := base) Bt D_is_all_of m_is_all_of c_is_line_of
  have c_is_fall := ok_is_fall (P := P) (w := w) (base := base) Bt D_is_fall m_is_fall c_is_line_of c_do_grow c_does_fall
  have c_is_run := ok_is_run (P := P) (w := w) (base := base) Bt D_is_run m_is_run c_does_rise c_does_fall
  have c_is_ordered := ok_is_ordered (P := P) (w := w) (base := base) Bt D_is_ordered m_is_ordered c_is_all_of c_does_rise c_comes_ahead
  have c_judge_held := ok_judge_held (P := P) (w := w) (base := base) Bt D_judge_held m_judge_held c_is_all_of c_does_rise
  have c_judge_stays := ok_judge_stays (P := P) (w := w) (base := base) Bt D_judge_stays m_judge_stays c_is_line_of c_do_grow c_does_rise c_is_fall
  have c_judge_runs := ok_judge_runs (P := P) (w := w) (base := base) Bt D_judge_runs m_judge_runs c_is_line_of c_do_grow c_is_run
  have c_judge_wrong := ok_judge_wrong (P := P) (w := w) (base := base) Bt D_judge_wrong m_judge_wrong c_exchanged c_is_ordered c_are_wholes
  have c_holds_of_row := ok_holds_of_row (P := P) (w := w) (base := base) Bt D_holds_of_row m_holds_of_row c_judge_unheld c_judge_held c_is_row c_is_order
  have c_holds_of_more := ok_holds_of_more (P := P) (w := w) (base := base) Bt D_holds_of_more m_holds_of_more c_judge_runs c_is_whole c_judge_wrong c_judge_stays c_is_row c_is_order c_is_ordered
  have c_holds := ok_holds (P := P) (w := w) (base := base) Bt D_holds m_holds c_holds_of_more c_holds_of_row c_is_whole
  have c_law_sound := ok_law_sound (P := P) (w := w) (base := base) Bt D_law_sound m_law_sound c_holds
  have c_law_shown := ok_law_shown (P := P) (w := w) (base := base) Bt D_law_shown m_law_shown c_law_arranged c_law_places c_law_all_held c_law_piles c_holds c_law_starts c_law_fewest c_law_most_stay c_law_wrong
  exact ok_law Bt D_law c_law_draws c_law_things c_law_order c_law_cell c_law_spoilt c_law_shown c_law_lines c_law_stays c_law_sound c_law_runs
end NM
section
set_option maxHeartbeats 0
open PySem PySem.W PySem.Calls PyProof.Rows
theorem NM.law_end (hF : ∀ ns : List Int, ns.length ≤ 63 → NM.F_law [.list (ns.map PyData.int)] = some (.bool true)) : PySem.Challenge.rw_nearmerge_k52_whole_never_both.Holds := by
  w_on; o_law
  refine HandSHeadRun.head_any (r := OpenLaw.row PySem.Challenge.rw_nearmerge_k52_whole_never_both) (q := view (OpenLaw.row PySem.Challenge.rw_nearmerge_k52_whole_never_both).prog [77]) (H := NM.hk) (ob := NM.ob) (M := 4000) (loose := NM.loose) (d := HandSHeadRun.topDef (OpenLaw.row PySem.Challenge.rw_nearmerge_k52_whole_never_both).prog 77) (kwd := []) NM.ob_eq
    (by kernel_rfl) (fun s => by kernel_rfl) NM.run (by kernel_rfl) (by kernel_rfl) (by kernel_rfl) (by rfl) (by first | assumption | decide +kernel) (by decide +kernel) ⟨rfl, rfl, rfl, rfl, rfl, by decide +kernel⟩ ?hw ?hc
  case hw => w_witness2
  case hc =>
    refine L2.walk_ofE (l := PySem.Challenge.rw_nearmerge_k52_whole_never_both) (n := 63) (k := 10) (x := "_law_script") (CX := L2.CX0) rfl (by decide) (by kernel_rfl) ⟨rfl, by decide, by decide⟩ ?F (fun _ _ _ _ z => z)
    intro w mg fa h Y G hmg0
    obtain ⟨K, KX, c⟩ := Y
    have hmg : mg ("law" : PySem.Str) = some (.ref fa) := by
      have e : (HandSHeadRun.topDef (OpenLaw.row PySem.Challenge.rw_nearmerge_k52_whole_never_both).prog 77).name = ("law" : PySem.Str) := by kernel_rfl
      rw [← e]
      exact hmg0
    obtain ⟨fd, hb, hFn⟩ := NM.facts (P := (PySem.Challenge.rw_nearmerge_k52_whole_never_both).prog) (w := w) KX G hmg c
    refine ⟨K, fd, DL.spD K NM.F_law, KX, hb, fun H a ns hl _ hS => ?_, hFn⟩
    exact ⟨H, [.list (ns.map PyData.int)], .bool true, L2.Same.refl _, .cons (.lst hS (DL.DpAll.ofInts ns)) .nil, hF ns hl, fun v F' H' _ q => by cases q; rfl⟩
end
/-! S0: the functions of the D-layer, rule by rule, for simp; things, rows, orders; the comparison -/
namespace NM
open PySem DL
section
variable (ρ : Rho) (f f' f'' f''' : Rho → Option D) (i : Nat)
@[simp] theorem e_fV : fV i ρ = match ρ[i]? with | some (some (.dat d)) => some d | _ => none := rfl
@[simp] theorem e_fR : fR i ρ = match ρ[i]? with | some (some (.dat d)) => some d | some (some (.own xs)) => some (.list xs) | _ => none := rfl
@[simp] theorem e_fC (d : D) : fC d ρ = some d := rfl
@[simp] theorem e_fL (h : Rho → Option (List D)) : fL h ρ = (h ρ).map PyData.list := rfl
@[simp] theorem e_f1 (g : D → Option D) : f1 g f ρ = (f ρ).bind g := rfl
@[simp] theorem e_f2 (g : D → D → Option D) : f2 g f f' ρ = (f ρ).bind fun a => (f' ρ).bind fun b => g a b := rfl
@[simp] theorem e_asB (b : Bool) : asB (.bool b) = some b := rfl
@[simp] theorem e_fB : fB f ρ = (f ρ).bind asB := rfl
@[simp] theorem e_fCh (g g' : D → D → Option D) : fCh g g' f f' f'' ρ = (f ρ).bind fun a => (f' ρ).bind fun b => (g a b).bind fun r => match r with
  | .bool true => (f'' ρ).bind fun c => g' b c
  | .bool false => some (.bool false)
  | _ => none := rfl
@[simp] theorem e_fAnd : fAnd f f' ρ = (f ρ).bind fun a => match a with
  | .bool true => f' ρ
  | .bool false => some (.bool false)
  | _ => none := rfl
@[simp] theorem e_fOr : fOr f f' ρ = (f ρ).bind fun a => match a with
  | .bool true => some (.bool true)
  | .bool false => f' ρ
  | _ => none := rfl
@[simp] theorem e_gNot (b : Bool) : gNot (.bool b) = some (.bool (!b)) := rfl
@[simp] theorem e_tAndF (t t' : Rho → Option Bool) : tAndF t t' ρ = (t ρ).bind fun a => if a then t' ρ else some false := rfl
@[simp] theorem e_tOrF (t t' : Rho → Option Bool) : tOrF t t' ρ = (t ρ).bind fun a => if a then some true else t' ρ := rfl
@[simp] theorem e_tNotF (t : Rho → Option Bool) : tNotF t ρ = (t ρ).map (!·) := rfl
@[simp] theorem e_fCons (g : Rho → Option (List D)) : fCons f g ρ = (f ρ).bind fun d => (g ρ).bind fun ds => some (d :: ds) := rfl
@[simp] theorem e_fNil : fNil ρ = some [] := rfl
@[simp] theorem e_fTup (g : Rho → Option (List D)) : fTup g ρ = (g ρ).bind fun ds => lim ds.length (.tuple ds) := rfl
@[simp] theorem e_fLst (g : Rho → Option (List D)) : fLst g ρ = (g ρ).bind fun ds => lim ds.length ds := rfl
@[simp] theorem e_fCall (F : List D → Option D) (g : Rho → Option (List D)) : fCall F g ρ = (g ρ).bind F := rfl
@[simp] theorem e_fF1 (g : D → Option (List D)) : fF1 g f ρ = (f ρ).bind g := rfl
@[simp] theorem e_fSl (l u : Rho → Option (Option Int)) : fSl f l u ρ = (f ρ).bind fun a => (l ρ).bind fun lo => (u ρ).bind fun hi => gSl a lo hi := rfl
@[simp] theorem e_oNone : oNone ρ = some none := rfl
@[simp] theorem e_asI (i : Int) : asI (.int i) = some i := rfl
@[simp] theorem e_oSome : oSome f ρ = (f ρ).bind fun d => (asI d).map some := rfl
@[simp] theorem e_asL (xs : List D) : asL (.list xs) = some xs := rfl
@[simp] theorem e_asT (xs : List D) : asT (.tuple xs) = some xs := rfl
@[simp] theorem e_asS (x : Str) : asS (.str x) = some x := rfl
@[simp] theorem e_fSlF (l u : Rho → Option (Option Int)) : fSlF f l u ρ = ((f ρ).bind asL).bind fun xs => (l ρ).bind fun lo => (u ρ).bind fun hi => some (cutD xs lo hi) := rfl
@[simp] theorem e_sSeq (g h : Rho → Option Out) : sSeq g h ρ = (g ρ).bind fun o => match o with
  | .nx ρ' => h ρ'
  | .rt d => some (.rt d) := rfl
@[simp] theorem e_sNx : sNx ρ = some (.nx ρ) := rfl
@[simp] theorem e_sIf (t : Rho → Option Bool) (g h : Rho → Option Out) : sIf t g h ρ = (t ρ).bind fun b => if b = true then g ρ else h ρ := rfl
@[simp] theorem e_sRet : sRet f ρ = (f ρ).map .rt := rfl
@[simp] theorem e_sSet : sSet i f ρ = (f ρ).map fun d => .nx (ρ.set i (some (.dat d))) := rfl
@[simp] theorem e_sSetF (g : Rho → Option (List D)) : sSetF i g ρ = (g ρ).map fun xs => .nx (ρ.set i (some (.own xs))) := rfl
@[simp] theorem e_sAsg (g : D → Rho → Option Rho) : sAsg f g ρ = (f ρ).bind fun d => (g d ρ).map .nx := rfl
@[simp] theorem e_sFor (h : Rho → Option (List D)) (g : D → Rho → Option Rho) (b : Rho → Option Out) : sFor h g b ρ = (h ρ).bind fun ds => loopD g b ds ρ := rfl
@[simp] theorem e_gN (d : D) : gN i d ρ = some (ρ.set i (some (.dat d))) := rfl
@[simp] theorem e_gT (is : List Nat) (ds : List D) : gT is (.tuple ds) ρ = setAll is ds ρ := rfl
@[simp] theorem e_setAll0 : setAll [] [] ρ = some ρ := rfl
@[simp] theorem e_setAll (is : List Nat) (d : D) (ds : List D) : setAll (i :: is) (d :: ds) ρ = setAll is ds (ρ.set i (some (.dat d))) := rfl
@[simp] theorem e_ownAt : ownAt ρ i = match ρ[i]? with | some (some (.own xs)) => some xs | _ => none := rfl
@[simp] theorem e_dicAt : dicAt ρ i = match ρ[i]? with | some (some (.dic xs)) => some xs | _ => none := rfl
@[simp] theorem e_sApp : sApp i f ρ = (ownAt ρ i).bind fun xs => (f ρ).bind fun d => lim xs.length (.nx (ρ.set i (some (.own (xs ++ [d]))))) := rfl
@[simp] theorem e_sExt (g : Rho → Option (List D)) : sExt i g ρ = (ownAt ρ i).bind fun xs => (g ρ).bind fun ds => lim (xs.length + ds.length) (.nx (ρ.set i (some (.own (xs ++ ds))))) := rfl
@[simp] theorem e_sIns : sIns i f f' ρ = (ownAt ρ i).bind fun xs => ((f ρ).bind asI).bind fun k => (f' ρ).bind fun d => if 0 ≤ k ∧ k ≤ 100000 ∧ xs.length ≤ 100000 then some (.nx (ρ.set i (some (.own (xs.take k.toNat ++ [d] ++ xs.drop k.toNat))))) else none := rfl
@[simp] theorem e_putIx (d : D) : putIx i f d ρ = (ownAt ρ i).bind fun xs => ((f ρ).bind asI).bind fun k => (L2.ixN xs.length k).map fun j => ρ.set i (some (.own (xs.set j d))) := rfl
@[simp] theorem e_sSetIx : sSetIx i f f' ρ = (f ρ).bind fun d => (putIx i f' d ρ).map .nx := rfl
@[simp] theorem e_sSwap : sSwap i f f' f'' f''' ρ = (f'' ρ).bind fun a => (f''' ρ).bind fun b => (putIx i f a ρ).bind fun ρ1 => (putIx i f' b ρ1).map .nx := rfl
@[simp] theorem e_sPut : sPut i f f' ρ = (f ρ).bind fun d => (dicAt ρ i).bind fun kvs => ((f' ρ).bind asI).bind fun k => lim kvs.length (.nx (ρ.set i (some (.dic (putI kvs k d))))) := rfl
@[simp] theorem e_fGet : fGet i f ρ = (dicAt ρ i).bind fun kvs => ((f ρ).bind asI).bind fun k => valI kvs k := rfl
@[simp] theorem e_cD : cD f ρ = (f ρ).map .dat := rfl
@[simp] theorem e_cF (g : Rho → Option (List D)) : cF g ρ = (g ρ).map .own := rfl
@[simp] theorem e_cE : cE ρ = some (.dic []) := rfl
@[simp] theorem e_sPar2 (j : Nat) (c1 c2 : Rho → Option Cell) : sPar2 i j c1 c2 ρ = (c1 ρ).bind fun a => (c2 ρ).bind fun b => some (.nx ((ρ.set i (some a)).set j (some b))) := rfl
@[simp] theorem e_sPar3 (j l : Nat) (c1 c2 c3 : Rho → Option Cell) : sPar3 i j l c1 c2 c3 ρ = (c1 ρ).bind fun a => (c2 ρ).bind fun b => (c3 ρ).bind fun c => some (.nx (((ρ.set i (some a)).set j (some b)).set l (some c))) := rfl
@[simp] theorem e_iL : iL f ρ = (f ρ).bind asL := rfl
@[simp] theorem e_iT : iT f ρ = (f ρ).bind asT := rfl
@[simp] theorem e_iS : iS f ρ = ((f ρ).bind asS).map chars := rfl
@[simp] theorem e_iE : iE f ρ = ((f ρ).bind asL).map enumD := rfl
@[simp] theorem e_iR1 : iR1 f ρ = ((f ρ).bind asI).bind fun i => if -1000000 ≤ i ∧ i ≤ 1000000 then some (rangeD 0 i.toNat) else none := rfl
@[simp] theorem e_iR2 : iR2 f f' ρ = ((f ρ).bind asI).bind fun i => ((f' ρ).bind asI).bind fun j => if -1000000 ≤ i ∧ i ≤ 1000000 ∧ -1000000 ≤ j ∧ j ≤ 1000000 then some (rangeD i (j - i).toNat) else none := rfl
@[simp] theorem e_fLc (h : Rho → Option (List D)) (g : D → Rho → Option Rho) (t : Rho → Option Bool) (js : List Nat) : fLc h g t f js ρ = (h ρ).bind fun ds => (lim ds.length ()).bind fun _ => lcGo g t f (wipeR ρ js) ds := rfl
@[simp] theorem e_tYesF : tYesF ρ = some true := rfl
@[simp] theorem e_wipe0 : wipeR ρ [] = ρ := rfl
@[simp] theorem e_wipe (is : List Nat) : wipeR ρ (i :: is) = (wipeR ρ is).set i none := rfl
end
/-! operators -/
@[simp] theorem e_gAddI (i j : Int) : gAdd (.int i) (.int j) = some (.int (i + j)) := rfl
@[simp] theorem e_gAddT (x y : List D) : gAdd (.tuple x) (.tuple y) = lim (x.length + y.length) (.tuple (x ++ y)) := rfl
@[simp] theorem e_gAddL (x y : List D) : gAdd (.list x) (.list y) = lim (x.length + y.length) (.list (x ++ y)) := rfl
@[simp] theorem e_gAddS (x y : Str) : gAdd (.str x) (.str y) = lim (x.length + y.length) (.str (x ++ y)) := rfl
@[simp] theorem e_gSub (i j : Int) : DL.gSub (.int i) (.int j) = some (.int (i - j)) := rfl
@[simp] theorem e_gMul (i j : Int) : gMul (.int i) (.int j) = if -18446744073709551616 < i ∧ i < 18446744073709551616 then some (.int (i * j)) else none := rfl
@[simp] theorem e_gMod (i j : Int) : gMod (.int i) (.int j) = if 0 < j then some (.int (i % j)) else none := rfl
@[simp] theorem e_gDiv (i j : Int) : gDiv (.int i) (.int j) = if 0 < j ∧ j < 1073741824 then some (.int (i / j)) else none := rfl
@[simp] theorem e_gLtI (i j : Int) : gLt (.int i) (.int j) = some (.bool (decide (i < j))) := rfl
@[simp] theorem e_gLtS (x y : Str) : gLt (.str x) (.str y) = some (.bool (decide (x.cps.toList < y.cps.toList))) := rfl
@[simp] theorem e_gLe (i j : Int) : gLe (.int i) (.int j) = some (.bool (decide (i ≤ j))) := rfl
@[simp] theorem e_gGt (i j : Int) : gGt (.int i) (.int j) = some (.bool (decide (j < i))) := rfl
@[simp] theorem e_gGe (i j : Int) : gGe (.int i) (.int j) = some (.bool (decide (j ≤ i))) := rfl
@[simp] theorem e_gNeg (i : Int) : gNeg (.int i) = some (.int (-i)) := rfl
@[simp] theorem e_gIs (a : D) : gIs a .none = some (.bool (isNone a)) := rfl
@[simp] theorem e_gIsNot (a : D) : gIsNot a .none = some (.bool (!isNone a)) := rfl
@[simp] theorem e_gLenL (xs : List D) : gLen (.list xs) = some (.int xs.length) := rfl
@[simp] theorem e_gLenT (xs : List D) : gLen (.tuple xs) = some (.int xs.length) := rfl
@[simp] theorem e_gLenS (x : Str) : gLen (.str x) = lim x.length (.int x.length) := rfl
@[simp] theorem e_gIxL (xs : List D) (i : Int) : gIx (.list xs) (.int i) = L2.atI xs i := rfl
@[simp] theorem e_gIxT (xs : List D) (i : Int) : gIx (.tuple xs) (.int i) = L2.atI xs i := rfl
@[simp] theorem e_gSlL (xs : List D) (lo hi : Option Int) : gSl (.list xs) lo hi = some (.list (cutD xs lo hi)) := rfl
@[simp] theorem e_gSlT (xs : List D) (lo hi : Option Int) : gSl (.tuple xs) lo hi = some (.tuple (cutD xs lo hi)) := rfl
@[simp] theorem e_gMin2 (i j : Int) : gMin2 (.int i) (.int j) = some (.int (if j < i then j else i)) := rfl
@[simp] theorem e_gMax2 (i j : Int) : gMax2 (.int i) (.int j) = some (.int (if j > i then j else i)) := rfl
@[simp] theorem e_gIntB (b : Bool) : gInt (.bool b) = some (.int (if b then 1 else 0)) := rfl
@[simp] theorem e_gIntI (i : Int) : gInt (.int i) = some (.int i) := rfl
@[simp] theorem e_gTupL (xs : List D) : gTupOf (.list xs) = some (.tuple xs) := rfl
@[simp] theorem e_gTupT (xs : List D) : gTupOf (.tuple xs) = some (.tuple xs) := rfl
@[simp] theorem e_gListL (xs : List D) : gListOf (.list xs) = some xs := rfl
@[simp] theorem e_gListT (xs : List D) : gListOf (.tuple xs) = some xs := rfl
@[simp] theorem e_gRevT (xs : List D) : gRevT (.tuple xs) = some (.tuple xs.reverse) := rfl
@[simp] theorem e_gRevL (xs : List D) : gRevL (.list xs) = some (.list xs.reverse) := rfl
@[simp] theorem e_gEvT (xs : List D) : gEvT (.tuple xs) = some (.tuple (picks xs 0 2 ((xs.length + 1) / 2))) := rfl
@[simp] theorem e_gRgT (n : Int) : gRgT (.int n) = if -1000000 ≤ n ∧ n ≤ 1000000 then some (.tuple (rangeD 0 n.toNat)) else none := rfl
@[simp] theorem e_gRgT2 (a b : Int) : gRgT2 (.int a) (.int b) = if -1000000 ≤ a ∧ a ≤ 1000000 ∧ -1000000 ≤ b ∧ b ≤ 1000000 then some (.tuple (rangeD a (b - a).toNat)) else none := rfl
@[simp] theorem e_gRgL (n : Int) : gRgL (.int n) = if -1000000 ≤ n ∧ n ≤ 1000000 then some (rangeD 0 n.toNat) else none := rfl
theorem lim_ok {α : Type} {n : Nat} {a : α} (h : n ≤ 100000) : lim n a = some a := by unfold lim; rw [if_pos h]
@[simp] theorem e_isNone0 : isNone .none = true := rfl
@[simp] theorem e_isNone1 (i : Int) : isNone (.int i) = false := rfl
@[simp] theorem e_isNone2 (b : Bool) : isNone (.bool b) = false := rfl
@[simp] theorem e_isNone3 (b : List D) : isNone (.tuple b) = false := rfl
@[simp] theorem e_isTupT (xs : List D) : gIsTup (.tuple xs) = some (.bool true) := rfl
@[simp] theorem e_isTupI (i : Int) : gIsTup (.int i) = some (.bool false) := rfl
@[simp] theorem e_isTupN : gIsTup .none = some (.bool false) := rfl
@[simp] theorem e_isIntI (i : Int) : gIsInt (.int i) = some (.bool true) := rfl
@[simp] theorem e_isIntS (i : Str) : gIsInt (.str i) = some (.bool false) := rfl
@[simp] theorem e_isBoolI (i : Int) : gIsBool (.int i) = some (.bool false) := rfl
@[simp] theorem e_isBoolB (i : Bool) : gIsBool (.bool i) = some (.bool true) := rfl
@[simp] theorem e_isStrS (i : Str) : gIsStr (.str i) = some (.bool true) := rfl
@[simp] theorem e_isStrI (i : Int) : gIsStr (.int i) = some (.bool false) := rfl
/-! == -/
@[simp] theorem sh_int (i : Int) : SeqAt.shaped (.int i) = true := rfl
@[simp] theorem sh_bool (i : Bool) : SeqAt.shaped (.bool i) = true := rfl
@[simp] theorem sh_none : SeqAt.shaped .none = true := rfl
theorem depth_str (x : Str) : (PyData.str x).depth ≤ 64 := by simp [PyData.depth]
theorem sh_str (x : Str) (h : PyData.strOk x = true) : SeqAt.shaped (.str x) = true := by
  unfold SeqAt.shaped
  simp [PyData.canLay0, h, PyData.depth]
theorem gEq_ok {a b : D} (ha : SeqAt.shaped a = true) (hb : SeqAt.shaped b = true) : gEq a b = some (.bool (PyData.eqv a b)) := by unfold gEq; rw [if_pos ⟨ha, hb⟩]
theorem gNe_ok {a b : D} (ha : SeqAt.shaped a = true) (hb : SeqAt.shaped b = true) : gNe a b = some (.bool (!PyData.eqv a b)) := by unfold gNe; rw [if_pos ⟨ha, hb⟩]
@[simp] theorem gEq_ii (i j : Int) : gEq (.int i) (.int j) = some (.bool (decide (i = j))) := by rw [gEq_ok rfl rfl]; simp [PyData.eqv, Bool.beq_eq_decide_eq]
@[simp] theorem gNe_ii (i j : Int) : gNe (.int i) (.int j) = some (.bool (!decide (i = j))) := by rw [gNe_ok rfl rfl]; simp [PyData.eqv, Bool.beq_eq_decide_eq]
@[simp] theorem gEq_bb (i j : Bool) : gEq (.bool i) (.bool j) = some (.bool (i == j)) := by rw [gEq_ok rfl rfl]; simp [PyData.eqv]
@[simp] theorem gNe_bb (i j : Bool) : gNe (.bool i) (.bool j) = some (.bool (!(i == j))) := by rw [gNe_ok rfl rfl]; simp [PyData.eqv]
@[simp] theorem gEq_ni (j : Int) : gEq .none (.int j) = some (.bool false) := by rw [gEq_ok rfl rfl]; simp [PyData.eqv]
@[simp] theorem gNe_ni (j : Int) : gNe .none (.int j) = some (.bool true) := by rw [gNe_ok rfl rfl]; simp [PyData.eqv]
theorem gEq_ss {x y : Str} (hx : PyData.strOk x = true) (hy : PyData.strOk y = true) : gEq (.str x) (.str y) = some (.bool (decide (x = y))) := by rw [gEq_ok (sh_str x hx) (sh_str y hy)]; simp [PyData.eqv, Bool.beq_eq_decide_eq]
theorem gNe_ss {x y : Str} (hx : PyData.strOk x = true) (hy : PyData.strOk y = true) : gNe (.str x) (.str y) = some (.bool (!decide (x = y))) := by rw [gNe_ok (sh_str x hx) (sh_str y hy)]; simp [PyData.eqv, Bool.beq_eq_decide_eq]
end NM
/-! U0: each def's run, its state laid out -/
namespace NM
open PySem DL
def outD : Out → D
  | .rt d => d
  | .nx _ => .none
@[simp] theorem outD_rt (d : D) : outD (.rt d) = d := rfl
theorem u_is_whole (a0 : D) : F_is_whole [a0] = (B_is_whole [some (.dat a0)]).map outD := rfl
theorem u_is_key (a0 : D) : F_is_key [a0] = (B_is_key [some (.dat a0), none]).map outD := rfl
theorem u_is_thing (a0 : D) : F_is_thing [a0] = (B_is_thing [some (.dat a0), none]).map outD := rfl
theorem u_is_row (a0 : D) : F_is_row [a0] = (B_is_row [some (.dat a0), none]).map outD := rfl
theorem u_is_part (a0 : D) : F_is_part [a0] = (B_is_part [some (.dat a0)]).map outD := rfl
theorem u_is_order (a0 : D) : F_is_order [a0] = (B_is_order [some (.dat a0), none, none]).map outD := rfl
theorem u_compared (a0 a1 a2 : D) : F_compared [a0, a1, a2] = (B_compared [some (.dat a0), some (.dat a1), some (.dat a2), none, none, none, none]).map outD := rfl
theorem u_are_wholes (a0 : D) : F_are_wholes [a0] = (B_are_wholes [some (.dat a0), none]).map outD := rfl
theorem u_do_grow (a0 : D) : F_do_grow [a0] = (B_do_grow [some (.dat a0), none]).map outD := rfl
theorem u_is_line_of (a0 a1 : D) : F_is_line_of [a0, a1] = (B_is_line_of [some (.dat a0), some (.dat a1), none]).map outD := rfl
theorem u_is_all_of (a0 a1 : D) : F_is_all_of [a0, a1] = (B_is_all_of [some (.dat a0), some (.dat a1)]).map outD := rfl
theorem u_is_right_ahead (a0 a1 a2 a3 : D) : F_is_right_ahead [a0, a1, a2, a3] = (B_is_right_ahead [some (.dat a0), some (.dat a1), some (.dat a2), some (.dat a3), none]).map outD := rfl
theorem u_comes_ahead (a0 a1 a2 a3 : D) : F_comes_ahead [a0, a1, a2, a3] = (B_comes_ahead [some (.dat a0), some (.dat a1), some (.dat a2), some (.dat a3)]).map outD := rfl
theorem u_does_rise (a0 a1 a2 : D) : F_does_rise [a0, a1, a2] = (B_does_rise [some (.dat a0), some (.dat a1), some (.dat a2), none]).map outD := rfl
theorem u_does_fall (a0 a1 a2 : D) : F_does_fall [a0, a1, a2] = (B_does_fall [some (.dat a0), some (.dat a1), some (.dat a2), none]).map outD := rfl
theorem u_is_ordered (a0 a1 a2 : D) : F_is_ordered [a0, a1, a2] = (B_is_ordered [some (.dat a0), some (.dat a1), some (.dat a2), none]).map outD := rfl
theorem u_judge_held (a0 a1 a2 : D) : F_judge_held [a0, a1, a2] = (B_judge_held [some (.dat a0), some (.dat a1), some (.dat a2)]).map outD := rfl
theorem u_judge_unheld (a0 a1 a2 : D) : F_judge_unheld [a0, a1, a2] = (B_judge_unheld [some (.dat a0), some (.dat a1), some (.dat a2), none, none]).map outD := rfl
theorem u_exchanged (a0 a1 : D) : F_exchanged [a0, a1] = (B_exchanged [some (.dat a0), some (.dat a1), none, none]).map outD := rfl
theorem u_judge_wrong (a0 a1 a2 a3 : D) : F_judge_wrong [a0, a1, a2, a3] = (B_judge_wrong [some (.dat a0), some (.dat a1), some (.dat a2), some (.dat a3), none, none]).map outD := rfl
theorem u_is_fall (a0 a1 a2 : D) : F_is_fall [a0, a1, a2] = (B_is_fall [some (.dat a0), some (.dat a1), some (.dat a2)]).map outD := rfl
theorem u_judge_stays (a0 a1 a2 a3 : D) : F_judge_stays [a0, a1, a2, a3] = (B_judge_stays [some (.dat a0), some (.dat a1), some (.dat a2), some (.dat a3), none, none, none, none]).map outD := rfl
theorem u_is_run (a0 a1 a2 a3 : D) : F_is_run [a0, a1, a2, a3] = (B_is_run [some (.dat a0), some (.dat a1), some (.dat a2), some (.dat a3), none]).map outD := rfl
theorem u_judge_runs (a0 a1 a2 a3 : D) : F_judge_runs [a0, a1, a2, a3] = (B_judge_runs [some (.dat a0), some (.dat a1), some (.dat a2), some (.dat a3), none, none]).map outD := rfl
theorem u_holds_of_row (a0 a1 : D) : F_holds_of_row [a0, a1] = (B_holds_of_row [some (.dat a0), some (.dat a1), none, none, none]).map outD := rfl
theorem u_holds_of_more (a0 a1 : D) : F_holds_of_more [a0, a1] = (B_holds_of_more [some (.dat a0), some (.dat a1), none, none, none, none]).map outD := rfl
theorem u_holds (a0 a1 : D) : F_holds [a0, a1] = (B_holds [some (.dat a0), some (.dat a1)]).map outD := rfl
theorem u_law_cell (a0 a1 : D) : F_law_cell [a0, a1] = (B_law_cell [some (.dat a0), some (.dat a1), none, none]).map outD := rfl
theorem u_law_draws (a0 a1 : D) : F_law_draws [a0, a1] = (B_law_draws [some (.dat a0), some (.dat a1), none, none, none, none]).map outD := rfl
theorem u_law_word (a0 a1 : D) : F_law_word [a0, a1] = (B_law_word [some (.dat a0), some (.dat a1), none, none, none]).map outD := rfl
theorem u_law_first (a0 a1 a2 a3 a4 : D) : F_law_first [a0, a1, a2, a3, a4] = (B_law_first [some (.dat a0), some (.dat a1), some (.dat a2), some (.dat a3), some (.dat a4), none, none]).map outD := rfl
theorem u_law_things (a0 a1 : D) : F_law_things [a0, a1] = (B_law_things [some (.dat a0), some (.dat a1), none, none, none, none, none]).map outD := rfl
theorem u_law_order (a0 a1 : D) : F_law_order [a0, a1] = (B_law_order [some (.dat a0), some (.dat a1), none, none, none, none]).map outD := rfl
theorem u_law_held (a0 a1 a2 : D) : F_law_held [a0, a1, a2] = (B_law_held [some (.dat a0), some (.dat a1), some (.dat a2), none, none, none, none]).map outD := rfl
theorem u_law_arranged (a0 a1 : D) : F_law_arranged [a0, a1] = (B_law_arranged [some (.dat a0), some (.dat a1), none, none, none]).map outD := rfl
theorem u_law_spoilt (a0 a1 : D) : F_law_spoilt [a0, a1] = (B_law_spoilt [some (.dat a0), some (.dat a1), none, none, none, none, none, none]).map outD := rfl
theorem u_law_places (a0 a1 : D) : F_law_places [a0, a1] = (B_law_places [some (.dat a0), some (.dat a1), none, none, none, none]).map outD := rfl
theorem u_law_piles (a0 a1 : D) : F_law_piles [a0, a1] = (B_law_piles [some (.dat a0), some (.dat a1), none, none, none, none, none, none]).map outD := rfl
theorem u_law_starts (a0 a1 : D) : F_law_starts [a0, a1] = (B_law_starts [some (.dat a0), some (.dat a1), none, none, none]).map outD := rfl
theorem u_law_sound (a0 : D) : F_law_sound [a0] = (B_law_sound [some (.dat a0), none, none, none, none]).map outD := rfl
theorem u_law_all_held (a0 a1 : D) : F_law_all_held [a0, a1] = (B_law_all_held [some (.dat a0), some (.dat a1), none, none]).map outD := rfl
theorem u_law_wrong (a0 a1 : D) : F_law_wrong [a0, a1] = (B_law_wrong [some (.dat a0), some (.dat a1), none, none, none]).map outD := rfl
theorem u_law_most_stay (a0 a1 : D) : F_law_most_stay [a0, a1] = (B_law_most_stay [some (.dat a0), some (.dat a1), none, none, none, none]).map outD := rfl
theorem u_law_fewest (a0 a1 : D) : F_law_fewest [a0, a1] = (B_law_fewest [some (.dat a0), some (.dat a1), none, none, none, none, none, none, none]).map outD := rfl
theorem u_law_exchanged (a0 a1 : D) : F_law_exchanged [a0, a1] = (B_law_exchanged [some (.dat a0), some (.dat a1)]).map outD := rfl
theorem u_law_lines (a0 a1 a2 : D) : F_law_lines [a0, a1, a2] = (B_law_lines [some (.dat a0), some (.dat a1), some (.dat a2), none, none, none, none, none, none, none, none, none, none]).map outD := rfl
theorem u_law_stays (a0 a1 a2 : D) : F_law_stays [a0, a1, a2] = (B_law_stays [some (.dat a0), some (.dat a1), some (.dat a2), none, none, none, none, none, none, none, none, none, none, none, none, none, none, none, none]).map outD := rfl
theorem u_law_runs (a0 a1 a2 : D) : F_law_runs [a0, a1, a2] = (B_law_runs [some (.dat a0), some (.dat a1), some (.dat a2), none, none, none, none, none, none, none, none, none]).map outD := rfl
theorem u_law_shown (a0 a1 : D) : F_law_shown [a0, a1] = (B_law_shown [some (.dat a0), some (.dat a1), none, none, none, none, none, none, none, none, none]).map outD := rfl
theorem u_law (a0 : D) : F_law [a0] = (B_law [some (.dat a0), none, none, none, none, none, none]).map outD := rfl
end NM
/-! S1: loops, lists of numbers, truths -/
namespace NM
open PySem DL
/-! lists of numbers -/
abbrev nI (k : Nat) : D := .int (k : Int)
abbrev lN (l : List Nat) : List D := l.map nI
abbrev tN (l : List Nat) : D := .tuple (lN l)
/-- the number at a place -/
def gd (l : List Nat) (k : Nat) : Nat := l.getD k 0
theorem atI_nat {α : Type} (xs : List α) (k : Nat) : L2.atI xs (k : Int) = xs[k]? := by
  unfold L2.atI L2.ixN
  rw [if_pos (Int.natCast_nonneg k)]
  by_cases h : k < xs.length
  · rw [if_pos (by omega)]; rfl
  · rw [if_neg (by omega), List.getElem?_eq_none (by omega)]; rfl
theorem atI_th {xs : List D} {k : Nat} (h : k < xs.length) : L2.atI xs (k : Int) = some xs[k] := by rw [atI_nat, List.getElem?_eq_getElem h]
theorem atI_tN {l : List Nat} {k : Nat} (h : k < l.length) : L2.atI (lN l) (k : Int) = some (nI (gd l k)) := by
  unfold gd
  rw [atI_nat, List.getElem?_map, List.getElem?_eq_getElem h, List.getD_eq_getElem?_getD, List.getElem?_eq_getElem h]; rfl
theorem atI_tN1 {l : List Nat} {k : Nat} (h : k + 1 < l.length) : L2.atI (lN l) ((k : Int) + 1) = some (nI (gd l (k + 1))) := atI_tN (l := l) (k := k + 1) h
theorem atI_last {α : Type} (xs : List α) (a : α) : L2.atI (xs ++ [a]) (-1) = some a := by
  unfold L2.atI L2.ixN
  rw [if_neg (by decide), if_pos (by simp; omega)]
  have : ((-1 : Int) + ((xs ++ [a]).length : Int)).toNat = xs.length := by rw [List.length_append, List.length_singleton]; omega
  rw [this]
  simp
theorem shAll : ∀ l : List Nat, PyData.canLayAll0 (lN l) = true
  | [] => rfl
  | a :: l => by show (PyData.canLay0 (nI a) && PyData.canLayAll0 (lN l)) = true; rw [shAll l]; rfl
theorem dpAllN : ∀ l : List Nat, PyData.depthAll (lN l) = 0
  | [] => rfl
  | a :: l => by show max 0 (PyData.depthAll (lN l)) = 0; rw [dpAllN l]; rfl
@[simp] theorem sh_tN (l : List Nat) : SeqAt.shaped (.tuple (lN l)) = true := by
  show (PyData.canLayAll0 (lN l) && decide (PyData.depthAll (lN l) + 1 ≤ 64)) = true
  rw [shAll, dpAllN]; rfl
@[simp] theorem sh_lN (l : List Nat) : SeqAt.shaped (.list (lN l)) = true := by
  show (PyData.canLayAll0 (lN l) && decide (PyData.depthAll (lN l) + 1 ≤ 64)) = true
  rw [shAll, dpAllN]; rfl
theorem eqvN : ∀ l m : List Nat, PyData.eqvAll (lN l) (lN m) = decide (l = m)
  | [], [] => by simp [PyData.eqvAll]
  | [], b :: m => by simp [PyData.eqvAll]
  | a :: l, [] => by simp [PyData.eqvAll]
  | a :: l, b :: m => by
    show (PyData.eqv (nI a) (nI b) && PyData.eqvAll (lN l) (lN m)) = _
    rw [eqvN l m]
    show (((a : Int) == (b : Int)) && decide (l = m)) = _
    rw [Bool.eq_iff_iff]; simp; omega
@[simp] theorem gEq_tN (l m : List Nat) : gEq (.tuple (lN l)) (.tuple (lN m)) = some (.bool (decide (l = m))) := by rw [gEq_ok (sh_tN l) (sh_tN m)]; show some (PyData.bool (PyData.eqvAll _ _)) = _; rw [eqvN]
@[simp] theorem gNe_tN (l m : List Nat) : gNe (.tuple (lN l)) (.tuple (lN m)) = some (.bool (!decide (l = m))) := by rw [gNe_ok (sh_tN l) (sh_tN m)]; show some (PyData.bool (!PyData.eqvAll _ _)) = _; rw [eqvN]
@[simp] theorem gEq_lN (l m : List Nat) : gEq (.list (lN l)) (.list (lN m)) = some (.bool (decide (l = m))) := by rw [gEq_ok (sh_lN l) (sh_lN m)]; show some (PyData.bool (PyData.eqvAll _ _)) = _; rw [eqvN]
@[simp] theorem gNe_tN0 (l : List Nat) : gNe (.tuple (lN l)) (.tuple []) = some (.bool (!decide (l = []))) := gNe_tN l []
@[simp] theorem gEq_tN0 (l : List Nat) : gEq (.tuple (lN l)) (.tuple []) = some (.bool (decide (l = []))) := gEq_tN l []
@[simp] theorem gEq_nN (l : List Nat) : gEq .none (.tuple (lN l)) = some (.bool false) := by rw [gEq_ok rfl (sh_tN l)]; rfl
theorem rangeD_nat (a n : Nat) : rangeD (a : Int) n = lN (List.range' a n) := by
  unfold rangeD lN
  rw [List.range'_eq_map_range, List.map_map]
  apply List.map_congr_left
  intro k _
  show PyData.int ((a : Int) + (k : Int)) = PyData.int (((a + k : Nat)) : Int)
  rw [Int.natCast_add]
theorem rangeD_zero (n : Nat) : rangeD 0 n = lN (List.range n) := by
  have := rangeD_nat 0 n
  rw [List.range_eq_range']
  exact this
/-! loops -/
theorem loop_inv {g : D → Rho → Option Rho} {b : Rho → Option Out} (I : Nat → Rho → Prop) :
    ∀ (ds : List D) (k0 : Nat) (_ : ∀ k d, ds[k]? = some d → ∀ ρ, I (k0 + k) ρ → ∃ ρ1 ρ2, g d ρ = some ρ1 ∧ b ρ1 = some (.nx ρ2) ∧ I (k0 + k + 1) ρ2) (ρ : Rho), I k0 ρ → ∃ ρ', loopD g b ds ρ = some (.nx ρ') ∧ I (k0 + ds.length) ρ'
  | [], k0, _, ρ, h0 => ⟨ρ, rfl, h0⟩
  | d :: ds, k0, h, ρ, h0 => by
    obtain ⟨ρ1, ρ2, e1, e2, i2⟩ := h 0 d rfl ρ h0
    obtain ⟨ρ', e3, i3⟩ := loop_inv I ds (k0 + 1) (fun k d' hk ρ hi => by
      have := h (k + 1) d' (by simpa using hk) ρ (by rw [show k0 + (k + 1) = k0 + 1 + k by omega]; exact hi)
      rw [show k0 + (k + 1) = k0 + 1 + k by omega] at this
      exact this) ρ2 i2
    refine ⟨ρ', ?_, by rw [show k0 + (d :: ds).length = k0 + 1 + ds.length by simp; omega]; exact i3⟩
    show ((g d ρ).bind fun ρ1 => (b ρ1).bind _) = _
    rw [e1]
    show ((b ρ1).bind _) = _
    rw [e2]
    exact e3
/-- a loop over 0 .. n-1 -/
theorem loop_rng {g : D → Rho → Option Rho} {b : Rho → Option Out} (I : Nat → Rho → Prop) {n : Nat} {ρ : Rho} (h0 : I 0 ρ)
    (h : ∀ k, k < n → ∀ ρ, I k ρ → ∃ ρ1 ρ2, g (nI k) ρ = some ρ1 ∧ b ρ1 = some (.nx ρ2) ∧ I (k + 1) ρ2) : ∃ ρ', loopD g b (rangeD 0 n) ρ = some (.nx ρ') ∧ I n ρ' := by
  have := loop_inv (g := g) (b := b) I (rangeD 0 n) 0 (fun k d hk ρ hi => by
    rw [rangeD_zero] at hk
    have hk' : k < n := by
      have := (List.getElem?_eq_some_iff.mp hk).1
      simpa using this
    rw [List.getElem?_map, List.getElem?_range hk'] at hk
    cases hk
    rw [Nat.zero_add] at hi ⊢
    exact h k hk' ρ hi) ρ h0
  rw [rangeD_zero] at this ⊢
  simpa using this
/-- a loop that only looks -/
theorem loop_chk {g : D → Rho → Option Rho} {b : Rho → Option Out} {r : D} (I : Rho → Prop) {t : D → Bool} :
    ∀ (ds : List D) (_ : ∀ d, d ∈ ds → ∀ ρ, I ρ → ∃ ρ1, g d ρ = some ρ1 ∧ ((t d = true → ∃ ρ2, b ρ1 = some (.nx ρ2) ∧ I ρ2) ∧ (t d = false → b ρ1 = some (.rt r)))) (ρ : Rho), I ρ →
    (ds.all t = true ∧ ∃ ρ', loopD g b ds ρ = some (.nx ρ') ∧ I ρ') ∨ (ds.all t = false ∧ loopD g b ds ρ = some (.rt r))
  | [], _, ρ, h0 => .inl ⟨rfl, ρ, rfl, h0⟩
  | d :: ds, h, ρ, h0 => by
    obtain ⟨ρ1, e1, ht, hf⟩ := h d (List.mem_cons_self ..) ρ h0
    cases hd : t d
    · right
      refine ⟨by simp [hd], ?_⟩
      show ((g d ρ).bind fun ρ1 => (b ρ1).bind _) = _
      rw [e1]
      show ((b ρ1).bind _) = _
      rw [hf hd]
      rfl
    · obtain ⟨ρ2, e2, i2⟩ := ht hd
      have e4 : loopD g b (d :: ds) ρ = loopD g b ds ρ2 := by
        show ((g d ρ).bind fun ρ1 => (b ρ1).bind _) = _
        rw [e1]
        show ((b ρ1).bind _) = _
        rw [e2]
        rfl
      rcases loop_chk I ds (fun d' m => h d' (List.mem_cons_of_mem _ m)) ρ2 i2 with ⟨a, ρ', e3, i3⟩ | ⟨a, e3⟩
      · exact .inl ⟨by simp [hd, a], ρ', by rw [e4, e3], i3⟩
      · exact .inr ⟨by simp [hd, a], by rw [e4, e3]⟩
theorem lcGo_map {g : D → Rho → Option Rho} {t : Rho → Option Bool} {e : Rho → Option D} {ρ : Rho} (p : D → Bool) (f : D → D) :
    ∀ (ds : List D) (_ : ∀ d, d ∈ ds → ∃ ρ1, g d ρ = some ρ1 ∧ t ρ1 = some (p d) ∧ (p d = true → e ρ1 = some (f d))), lcGo g t e ρ ds = some ((ds.filter p).map f)
  | [], _ => rfl
  | d :: ds, h => by
    obtain ⟨ρ1, e1, e2, e3⟩ := h d (List.mem_cons_self ..)
    have ih := lcGo_map p f ds (fun d' m => h d' (List.mem_cons_of_mem _ m))
    show ((g d ρ).bind fun ρ1 => (t ρ1).bind fun b => if b = true then (e ρ1).bind fun y => (lcGo g t e ρ ds).map (y :: ·) else lcGo g t e ρ ds) = _
    rw [e1]
    show ((t ρ1).bind _) = _
    rw [e2, ih]
    cases hp : p d
    · simp [hp]
    · simp [hp, e3 hp]
/-- [e(k) for k in l] over numbers -/
theorem lcGo_lN {j : Nat} {e : Rho → Option D} {ρ : Rho} (f : Nat → D) (l : List Nat) (h : ∀ k, k ∈ l → e (ρ.set j (some (.dat (nI k)))) = some (f k)) : lcGo (gN j) tYesF e ρ (lN l) = some (l.map f) := by
  have := lcGo_map (g := gN j) (t := tYesF) (e := e) (ρ := ρ) (fun _ => true) (fun d => match d with
    | .int i => f i.toNat
    | _ => .none) (lN l) (fun d hd => by
    obtain ⟨k, hk, rfl⟩ := List.mem_map.mp hd
    exact ⟨_, rfl, rfl, fun _ => by rw [h k hk]; simp⟩)
  rw [this]
  rw [List.filter_eq_self.mpr (fun _ _ => rfl), List.map_map]
  rfl
theorem lcGo_rng {j n : Nat} {e : Rho → Option D} {ρ : Rho} (f : Nat → D) (h : ∀ k, k < n → e (ρ.set j (some (.dat (nI k)))) = some (f k)) : lcGo (gN j) tYesF e ρ (rangeD 0 n) = some ((List.range n).map f) := by
  rw [rangeD_zero]
  exact lcGo_lN f _ fun k hk => h k (List.mem_range.mp hk)
theorem lcGo_rngF {j n : Nat} {t : Rho → Option Bool} {e : Rho → Option D} {ρ : Rho} (p : Nat → Bool) (f : Nat → D) (h : ∀ k, k < n → t (ρ.set j (some (.dat (nI k)))) = some (p k) ∧ e (ρ.set j (some (.dat (nI k)))) = some (f k)) : lcGo (gN j) t e ρ (rangeD 0 n) = some (((List.range n).filter p).map f) := by
  rw [rangeD_zero]
  have := lcGo_map (g := gN j) (t := t) (e := e) (ρ := ρ) (fun d => match d with
    | .int i => p i.toNat
    | _ => false) (fun d => match d with
    | .int i => f i.toNat
    | _ => .none) (lN (List.range n)) (fun d hd => by
    obtain ⟨k, hk, rfl⟩ := List.mem_map.mp hd
    obtain ⟨h1, h2⟩ := h k (List.mem_range.mp hk)
    exact ⟨_, rfl, by rw [h1]; simp, fun _ => by rw [h2]; simp⟩)
  rw [this, List.filter_map, List.map_map]
  simp [Function.comp_def]
theorem gAll_map {α : Type} (l : List α) (f : α → Bool) : gAll (.list (l.map fun k => .bool (f k))) = some (.bool (l.all f)) := by
  have : (l.map fun k => PyData.bool (f k)) = (l.map f).map PyData.bool := by rw [List.map_map]; rfl
  rw [this]
  show (blsOf _).map _ = _
  rw [blsOf_map]
  simp [Function.comp_def]
theorem intsOf_lN (l : List Nat) : intsOf (lN l) = some (l.map fun k : Nat => (k : Int)) := by
  have : lN l = (l.map fun k : Nat => (k : Int)).map PyData.int := by rw [List.map_map]; rfl
  rw [this, intsOf_map]
theorem dedup_lt : ∀ l : List Nat, decide ((dedup (l.map fun k : Nat => (k : Int))).length < l.length) = !decide l.Nodup := by
  intro l
  have key : ∀ xs : List Int, (dedup xs).length ≤ xs.length ∧ (xs.Nodup → (dedup xs).length = xs.length) ∧ (¬ xs.Nodup → (dedup xs).length < xs.length) := by
    intro xs
    induction xs with
    | nil => exact ⟨Nat.le_refl _, fun _ => rfl, fun h => absurd List.nodup_nil h⟩
    | cons x r ih =>
      obtain ⟨i1, i2, i3⟩ := ih
      by_cases hx : x ∈ r
      · have e : dedup (x :: r) = dedup r := by rw [dedup.eq_2, if_pos (mem_dedup.mpr hx)]
        rw [e]
        refine ⟨by simp; omega, fun h => absurd hx (List.nodup_cons.mp h).1, fun _ => by simp; omega⟩
      · have e : dedup (x :: r) = x :: dedup r := by rw [dedup.eq_2, if_neg (fun h => hx (mem_dedup.mp h))]
        rw [e]
        refine ⟨by simp; omega, fun h => by simp [i2 (List.nodup_cons.mp h).2], fun h => ?_⟩
        have : ¬ r.Nodup := fun hr => h (List.nodup_cons.mpr ⟨hx, hr⟩)
        have := i3 this
        simp; omega
  have hn : (l.map fun k : Nat => (k : Int)).Nodup ↔ l.Nodup := by
    constructor
    · intro h
      rw [List.nodup_iff_pairwise_ne, List.pairwise_map] at h
      exact List.nodup_iff_pairwise_ne.mpr (h.imp (fun a b => a (by rw [b])))
    · intro h
      rw [List.nodup_iff_pairwise_ne, List.pairwise_map]
      exact (List.nodup_iff_pairwise_ne.mp h).imp (fun a b => a (by omega))
  obtain ⟨k1, k2, k3⟩ := key (l.map fun k : Nat => (k : Int))
  rw [List.length_map] at k1 k2 k3
  by_cases h : l.Nodup
  · have := k2 (hn.mpr h)
    simp [h]; omega
  · have := k3 (fun x => h (hn.mp x))
    simp [h]; omega
theorem gLenSet_tN {l : List Nat} (h : l.length ≤ 4000) : gLenSet (.tuple (lN l)) = some (.int ((dedup (l.map fun k : Nat => (k : Int))).length : Nat)) := by
  show (intsOf _).bind _ = _
  rw [intsOf_lN]
  show (if _ then _ else _) = _
  rw [if_pos (by rw [List.length_map]; exact h)]
end NM
/-! S2: a situation (a row, an order, what they say of each two); the checks that look at a line -/
namespace NM
open PySem DL
inductive Cm where
  | no | lt | eq | gt
  deriving DecidableEq
def Cm.D : Cm → D
  | .no => .none
  | .lt => .int (-1)
  | .eq => .int 0
  | .gt => .int 1
def Cm.flip : Cm → Cm
  | .no => .no
  | .lt => .gt
  | .eq => .eq
  | .gt => .lt
def Cm.ra (c : Cm) : Bool := c == .lt || c == .eq
def Cm.ca (c : Cm) : Bool := c == .lt
structure Sit (th : List D) (O : D) (c : Nat → Nat → Cm) : Prop where
  n7 : th.length ≤ 7
  row : F_is_row [.tuple th] = some (.bool true)
  ord : F_is_order [O] = some (.bool true)
  sh : SeqAt.shaped (.tuple th) = true
  cmp : ∀ x y (hx : x < th.length) (hy : y < th.length), F_compared [O, th[x], th[y]] = some (c x y).D
  hld : ∀ x y (hx : x < th.length) (hy : y < th.length), F_law_held [O, th[x], th[y]] = some (c x y).D
  flip : ∀ x y, c y x = (c x y).flip
  ee : ∀ x y z, c x y = .eq → c y z = .eq → c x z = .eq
  el : ∀ x y z, c x y = .eq → c y z = .lt → c x z = .lt
  le : ∀ x y z, c x y = .lt → c y z = .eq → c x z = .lt
  ll : ∀ x y z, c x y = .lt → c y z = .lt → c x z = .lt
@[simp] theorem gEq_cm (c : Cm) : gEq c.D (.int (-1)) = some (.bool c.ca) := by
  cases c
  all_goals first | exact gEq_ni _ | exact gEq_ii _ _
@[simp] theorem gNe_cm (c : Cm) : gNe c.D (.int (-1)) = some (.bool (!c.ca)) := by
  cases c
  all_goals first | exact gNe_ni _ | exact gNe_ii _ _
@[simp] theorem isNone_cm (c : Cm) : isNone c.D = decide (c = .no) := by cases c <;> rfl
variable {th : List D} {O : D} {c : Nat → Nat → Cm}
theorem f_are_wholes (l : List Nat) (h : l.length ≤ 100) : F_are_wholes [tN l] = some (.bool true) := by
  rw [u_are_wholes]
  unfold B_are_wholes
  simp
  rw [lim_ok (by first | omega | (simp; omega))]
  simp
  rw [lcGo_lN (fun _ => .bool true) l (fun k _ => by simp [u_is_whole, B_is_whole])]
  simp
  rw [gAll_map l (fun _ => true)]
  simp
def growB (l : List Nat) : Bool := (List.range (l.length - 1)).all fun k => decide (gd l k < gd l (k + 1))
theorem f_do_grow (l : List Nat) (h : l.length ≤ 100) : F_do_grow [tN l] = some (.bool (growB l)) := by
  rw [u_do_grow]
  unfold B_do_grow
  simp
  rw [if_pos ⟨by omega, by omega⟩]
  simp
  rw [lim_ok (by rw [rangeD_zero]; simp; omega)]
  simp
  rw [lcGo_rng (fun k => .bool (decide (gd l k < gd l (k + 1)))) (fun k hk => by
    simp
    rw [atI_tN (by omega), atI_tN1 (by omega)]
    simp)]
  simp
  rw [gAll_map]
  rfl
def lineB (m : Nat) (l : List Nat) : Bool := decide l.Nodup && l.all fun k => decide (k < m)
theorem f_is_line_of (m : Nat) (l : List Nat) (h : l.length ≤ 100) : F_is_line_of [nI m, tN l] = some (.bool (lineB m l)) := by
  rw [u_is_line_of]
  unfold B_is_line_of lineB
  simp [f_are_wholes l h]
  rw [gLenSet_tN (by omega)]
  simp [dedup_lt]
  by_cases hn : l.Nodup
  · simp [hn]
    rw [lim_ok (by first | omega | (simp; omega))]
    simp
    rw [lcGo_lN (fun k => .bool (decide (k < m))) l (fun k _ => by simp)]
    simp
    rw [gAll_map]
  · simp [hn]
def allofB (m : Nat) (l : List Nat) : Bool := lineB m l && decide (l.length = m)
theorem f_is_all_of (m : Nat) (l : List Nat) (h : l.length ≤ 100) : F_is_all_of [nI m, tN l] = some (.bool (allofB m l)) := by
  rw [u_is_all_of]
  unfold B_is_all_of allofB
  simp [f_is_line_of m l h]
  cases lineB m l <;> simp
  omega
theorem f_is_right_ahead (S : Sit th O c) {x y : Nat} (hx : x < th.length) (hy : y < th.length) : F_is_right_ahead [.tuple th, O, nI x, nI y] = some (.bool (c x y).ra) := by
  rw [u_is_right_ahead]
  unfold B_is_right_ahead
  simp [atI_th hx, atI_th hy, S.cmp x y hx hy]
  cases c x y <;> simp [Cm.D, Cm.ra]
theorem f_comes_ahead (S : Sit th O c) {x y : Nat} (hx : x < th.length) (hy : y < th.length) : F_comes_ahead [.tuple th, O, nI x, nI y] = some (.bool (c x y).ca) := by
  rw [u_comes_ahead]
  unfold B_comes_ahead
  simp [atI_th hx, atI_th hy, S.cmp x y hx hy]
theorem getD_lt {l : List Nat} {m k : Nat} (h : ∀ a ∈ l, a < m) (hk : k < l.length) : gd l k < m := by
  unfold gd
  rw [List.getD_eq_getElem?_getD, List.getElem?_eq_getElem hk]
  exact h _ (List.getElem_mem hk)
def riseB (c : Nat → Nat → Cm) (l : List Nat) : Bool := (List.range (l.length - 1)).all fun k => (c (gd l k) (gd l (k + 1))).ra
theorem f_does_rise (S : Sit th O c) (l : List Nat) (h : l.length ≤ 100) (hl : ∀ a ∈ l, a < th.length) : F_does_rise [.tuple th, O, tN l] = some (.bool (riseB c l)) := by
  rw [u_does_rise]
  unfold B_does_rise
  simp
  rw [if_pos ⟨by omega, by omega⟩]
  simp
  rw [lim_ok (by rw [rangeD_zero]; simp; omega)]
  simp
  rw [lcGo_rng (fun k => .bool (c (gd l k) (gd l (k + 1))).ra) (fun k hk => by
    simp
    rw [atI_tN (by omega), atI_tN1 (by omega)]
    simp
    rw [f_is_right_ahead S (getD_lt hl (by omega)) (getD_lt hl (by omega))])]
  simp
  rw [gAll_map]
  rfl
def fallB (c : Nat → Nat → Cm) (l : List Nat) : Bool := (List.range (l.length - 1)).all fun k => (c (gd l (k + 1)) (gd l k)).ca
theorem f_does_fall (S : Sit th O c) (l : List Nat) (h : l.length ≤ 100) (hl : ∀ a ∈ l, a < th.length) : F_does_fall [.tuple th, O, tN l] = some (.bool (fallB c l)) := by
  rw [u_does_fall]
  unfold B_does_fall
  simp
  rw [if_pos ⟨by omega, by omega⟩]
  simp
  rw [lim_ok (by rw [rangeD_zero]; simp; omega)]
  simp
  rw [lcGo_rng (fun k => .bool (c (gd l (k + 1)) (gd l k)).ca) (fun k hk => by
    simp
    rw [atI_tN (by omega), atI_tN1 (by omega)]
    simp
    rw [f_comes_ahead S (getD_lt hl (by omega)) (getD_lt hl (by omega))])]
  simp
  rw [gAll_map]
  rfl
theorem lineB_lt {m : Nat} {l : List Nat} (h : lineB m l = true) : ∀ a ∈ l, a < m := by
  unfold lineB at h
  simp at h
  exact h.2
theorem allofB_lt {m : Nat} {l : List Nat} (h : allofB m l = true) : ∀ a ∈ l, a < m := by
  unfold allofB at h
  simp at h
  exact lineB_lt h.1
def tieB (c : Nat → Nat → Cm) (l : List Nat) : Bool := (List.range (l.length - 1)).all fun k => !(decide (gd l (k + 1) < gd l k)) || (c (gd l k) (gd l (k + 1))).ca
def ordB (n : Nat) (c : Nat → Nat → Cm) (l : List Nat) : Bool := allofB n l && riseB c l && tieB c l
theorem f_is_ordered (S : Sit th O c) (l : List Nat) (h : l.length ≤ 100) : F_is_ordered [.tuple th, O, tN l] = some (.bool (ordB th.length c l)) := by
  rw [u_is_ordered]
  unfold B_is_ordered ordB
  simp [f_is_all_of _ l h]
  cases ha : allofB th.length l
  · simp
  · have hl := allofB_lt ha
    simp [f_does_rise S l h hl]
    cases hr : riseB c l
    · simp
    · simp
      rw [if_pos ⟨by omega, by omega⟩]
      simp
      rcases loop_chk (I := fun ρ => ∃ x, ρ = [some (.dat (.tuple th)), some (.dat O), some (.dat (tN l)), x]) (r := .bool false) (g := gN 3)
        (b := sIf (tAndF (fB (f2 gGt (f2 gIx (fR 2) (fR 3)) (f2 gIx (fR 2) (f2 gAdd (fR 3) (fC (.int 1)))))) (tNotF (fB (fCall F_comes_ahead (fCons (fV 0) (fCons (fV 1) (fCons (f2 gIx (fR 2) (fR 3)) (fCons (f2 gIx (fR 2) (f2 gAdd (fR 3) (fC (.int 1)))) fNil)))))))) (sRet (fC (.bool false))) sNx)
        (t := fun d => match d with
          | .int k => !(decide (gd l (k.toNat + 1) < gd l k.toNat)) || (c (gd l k.toNat) (gd l (k.toNat + 1))).ca
          | _ => true) (rangeD 0 (l.length - 1)) (by
          rintro d hd ρ ⟨x, rfl⟩
          rw [rangeD_zero] at hd
          obtain ⟨k, hk, rfl⟩ := List.mem_map.mp hd
          have hk := List.mem_range.mp hk
          refine ⟨_, rfl, ?_⟩
          simp
          rw [atI_tN (by omega), atI_tN1 (by omega)]
          simp
          rw [f_comes_ahead S (getD_lt hl (by omega)) (getD_lt hl (by omega))]
          simp
          by_cases hg : gd l (k + 1) < gd l k
          · simp [hg]
            cases (c (gd l k) (gd l (k + 1))).ca <;> simp [hg]
          · simp [hg]) _ ⟨_, rfl⟩ with ⟨e1, ρ', e2, x, rfl⟩ | ⟨e1, e2⟩
      · rw [e2]
        rw [rangeD_zero, List.all_map] at e1
        have : tieB c l = true := by
          unfold tieB
          simpa [Function.comp_def] using e1
        simp [this]
      · rw [e2]
        rw [rangeD_zero, List.all_map] at e1
        have : tieB c l = false := by
          unfold tieB
          simpa [Function.comp_def] using e1
        simp [this]
theorem f_judge_held (S : Sit th O c) (l : List Nat) (h : l.length ≤ 100) : F_judge_held [.tuple th, O, tN l] = some (.bool (allofB th.length l && riseB c l)) := by
  rw [u_judge_held]
  unfold B_judge_held
  simp [f_is_all_of _ l h]
  cases ha : allofB th.length l
  · simp
  · simp [f_does_rise S l h (allofB_lt ha)]
theorem f_judge_unheld (S : Sit th O c) (x y : Nat) (h : x < y) (hy : y < th.length) : F_judge_unheld [.tuple th, O, .tuple [nI x, nI y]] = some (.bool (decide (c x y = .no))) := by
  rw [u_judge_unheld]
  unfold B_judge_unheld
  have : F_are_wholes [.tuple [nI x, nI y]] = some (.bool true) := f_are_wholes [x, y] (by simp)
  simp [this]
  have hx : x < th.length := by omega
  simp [fCh3, h, hy, atI_th hx, atI_th hy, S.cmp x y hx hy]
end NM
/-! S3: the judges -/
namespace NM
open PySem DL
variable {th : List D} {O : D} {c : Nat → Nat → Cm}
def exGo (n : Nat) : List Nat → List Nat → Option (List Nat)
  | line, [] => some line
  | line, p :: ps => if p + 1 < n ∧ ¬ gd line (p + 1) < gd line p then exGo n ((line.set p (gd line (p + 1))).set (p + 1) (gd line p)) ps else none
theorem loop_ex {n : Nat} (T N : D) (hn : N = nI n) : ∀ (ps line : List Nat) (x : Option Cell), line.length = n → ∃ y, loopD (gN 3) (sSeq (sIf (tOrF (tNotF (fB (fCh gLe gLt (fC (.int 0)) (fR 3) (f2 gSub (fR 0) (fC (.int 1)))))) (fB (f2 gGt (f2 gIx (fR 2) (fR 3)) (f2 gIx (fR 2) (f2 gAdd (fR 3) (fC (.int 1))))))) (sRet (fC .none)) sNx)
  (sSwap 2 (fV 3) (f2 gAdd (fR 3) (fC (.int 1))) (f2 gIx (fR 2) (f2 gAdd (fR 3) (fC (.int 1)))) (f2 gIx (fR 2) (fR 3)))) (lN ps) [some (.dat N), some (.dat T), some (.own (lN line)), x] =
    some (match exGo n line ps with
      | some l => .nx [some (.dat N), some (.dat T), some (.own (lN l)), y]
      | none => .rt .none)
  | [], line, x, hl => ⟨x, rfl⟩
  | p :: ps, line, x, hl => by
    subst hn
    by_cases h1 : p + 1 < n
    · by_cases h2 : gd line (p + 1) < gd line p
      · refine ⟨none, ?_⟩
        rw [exGo, if_neg (by omega)]
        simp only [lN, List.map_cons, loopD]
        simp
        rw [atI_tN (by omega), atI_tN1 (by omega)]
        have : ¬ ((n : Int) - 1 ≤ p) := by omega
        simp [h2, this]
      · obtain ⟨y, hy⟩ := loop_ex T (nI n) rfl ps ((line.set p (gd line (p + 1))).set (p + 1) (gd line p)) (some (.dat (nI p))) (by simp [hl])
        refine ⟨y, ?_⟩
        rw [exGo, if_pos ⟨h1, h2⟩, ← hy]
        simp only [lN, List.map_cons]
        rw [loopD]
        simp
        rw [atI_tN (by omega), atI_tN1 (by omega)]
        have : ¬ ((n : Int) - 1 ≤ p) := by omega
        have e1 : L2.ixN line.length (p : Int) = some p := by
          unfold L2.ixN
          rw [if_pos (by omega), if_pos (by omega)]; simp
        have e2 : L2.ixN line.length ((p : Int) + 1) = some (p + 1) := by
          unfold L2.ixN
          rw [if_pos (by omega), if_pos (by omega)]
          have : ((p : Int) + 1).toNat = p + 1 := by omega
          rw [this]
        have e3 := atI_tN (l := line) (k := p) (by omega)
        have e4 := atI_tN1 (l := line) (k := p) (by omega)
        simp only [lN] at e3 e4
        simp [h2, this, e1, e2, e3, e4, List.map_set]
    · refine ⟨none, ?_⟩
      rw [exGo, if_neg (by omega)]
      simp only [lN, List.map_cons, loopD]
      simp
      have : ((n : Int) - 1 ≤ p) := by omega
      simp [this]
theorem f_exchanged (n : Nat) (ps : List Nat) (hn : n ≤ 7) : F_exchanged [nI n, tN ps] = some (match exGo n (List.range n) ps with
    | some l => tN l
    | none => .none) := by
  rw [u_exchanged]
  unfold B_exchanged
  simp
  rw [if_pos (by omega)]
  simp [rangeD_zero]
  obtain ⟨y, hy⟩ := loop_ex (tN ps) (nI n) rfl ps (List.range n) none (by simp)
  rw [hy]
  cases exGo n (List.range n) ps <;> simp
def wrongB (n : Nat) (c : Nat → Nat → Cm) (how : Nat) (l ps : List Nat) : Bool := ordB n c l && decide (ps.length = how) && decide (exGo n (List.range n) ps = some l)
theorem f_judge_wrong (S : Sit th O c) (how : Nat) (l ps : List Nat) (h : l.length ≤ 100) (h2 : ps.length ≤ 100) : F_judge_wrong [.tuple th, O, nI how, .tuple [tN l, tN ps]] = some (.bool (wrongB th.length c how l ps)) := by
  have n7 := S.n7
  rw [u_judge_wrong]
  unfold B_judge_wrong wrongB
  simp [f_is_ordered S l h, f_are_wholes ps h2]
  cases ho : ordB th.length c l
  · simp
  · by_cases he : ps.length = how
    · simp [he, f_exchanged th.length ps n7]
      cases exGo th.length (List.range th.length) ps <;> simp
    · have : ¬ (ps.length : Int) = (how : Int) := by omega
      simp [he, this]
def fallsB (n : Nat) (c : Nat → Nat → Cm) (l : List Nat) : Bool := lineB n l && !decide (l = []) && growB l && fallB c l
theorem f_is_fall (S : Sit th O c) (l : List Nat) (h : l.length ≤ 100) : F_is_fall [.tuple th, O, tN l] = some (.bool (fallsB th.length c l)) := by
  rw [u_is_fall]
  unfold B_is_fall fallsB
  simp [f_is_line_of _ l h]
  cases ha : lineB th.length l
  · simp
  · simp [f_do_grow l h, f_does_fall S l h (lineB_lt ha)]
    rw [lim_ok (by decide)]
    simp
    by_cases hl : l = []
    · simp [hl]
    · simp [hl]
      cases growB l <;> simp
/-- sorted(numbers) -/
def nsort (l : List Nat) : List Nat := (isort (l.map fun k : Nat => (k : Int))).map Int.toNat
theorem lN_nsort (l : List Nat) : (isort (l.map fun k : Nat => (k : Int))).map PyData.int = lN (nsort l) := by
  unfold nsort lN
  rw [List.map_map]
  apply List.map_congr_left
  intro x hx
  have := (isort_perm (l.map fun k : Nat => (k : Int))).mem_iff.mp hx
  obtain ⟨k, _, rfl⟩ := List.mem_map.mp this
  simp
theorem nsort_perm (l : List Nat) : (nsort l).Perm l := by
  unfold nsort
  have := (isort_perm (l.map fun k : Nat => (k : Int))).map Int.toNat
  rw [List.map_map] at this
  simpa [Function.comp_def] using this
theorem nsort_sorted (l : List Nat) : (nsort l).Pairwise (· ≤ ·) := by
  unfold nsort
  rw [List.pairwise_map]
  exact (isort_sorted _).imp (fun h => by omega)
theorem gSorted_lN (l : List Nat) : gSorted (.list (lN l)) = some (.list (lN (nsort l))) := by
  show (intsOf _).map _ = _
  rw [intsOf_lN, ← lN_nsort]; rfl
theorem gSorted_tN (l : List Nat) : gSorted (.tuple (lN l)) = some (.list (lN (nsort l))) := by
  show (intsOf _).map _ = _
  rw [intsOf_lN, ← lN_nsort]; rfl
abbrev tF (fs : List (List Nat)) : D := .tuple (fs.map tN)
theorem loop_ext (a0 a1 a2 a3 s6 s7 : Option Cell) : ∀ (fs : List (List Nat)) (acc : List Nat) (x : Option Cell), acc.length + fs.flatten.length ≤ 100000 → ∃ y, loopD (gN 5) (sExt 4 (fF1 gListOf (fR 5))) (fs.map tN) [a0, a1, a2, a3, some (.own (lN acc)), x, s6, s7] = some (.nx [a0, a1, a2, a3, some (.own (lN (acc ++ fs.flatten))), y, s6, s7])
  | [], acc, x, h => ⟨x, by simp [loopD]⟩
  | f :: fs, acc, x, h => by
    simp at h
    obtain ⟨y, hy⟩ := loop_ext a0 a1 a2 a3 s6 s7 fs (acc ++ f) (some (.dat (tN f))) (by simp; omega)
    refine ⟨y, ?_⟩
    rw [List.map_cons, loopD]
    simp
    rw [lim_ok (by omega)]
    simp at hy ⊢
    exact hy
def staysB (n : Nat) (c : Nat → Nat → Cm) (how : Nat) (l : List Nat) (fs : List (List Nat)) : Bool :=
  lineB n l && growB l && riseB c l && fs.all (fallsB n c) && decide (nsort fs.flatten = List.range n) && decide (l.length = how) && decide (fs.length = how)
theorem f_judge_stays (S : Sit th O c) (how : Nat) (l : List Nat) (fs : List (List Nat)) (h : l.length ≤ 100) (h2 : ∀ f ∈ fs, f.length ≤ 100) (h3 : fs.length ≤ 100) : F_judge_stays [.tuple th, O, nI how, .tuple [tN l, tF fs]] = some (.bool (staysB th.length c how l fs)) := by
  have n7 := S.n7
  rw [u_judge_stays]
  unfold B_judge_stays staysB
  simp [f_is_line_of _ l h, f_do_grow l h]
  cases ha : lineB th.length l
  · simp
  cases hg : growB l
  · simp
  simp [f_does_rise S l h (lineB_lt ha)]
  cases hr : riseB c l
  · simp
  simp
  rw [lim_ok (by omega)]
  simp
  have el : ∀ gs : List (List Nat), (∀ f ∈ gs, f.length ≤ 100) → lcGo (gN 5) tYesF (fCall F_is_fall (fCons (fV 0) (fCons (fV 1) (fCons (fV 5) fNil)))) [some (.dat (.tuple th)), some (.dat O), some (.dat (nI how)), some (.dat (.tuple [tN l, tF fs])), none, none, some (.dat (tN l)), some (.dat (tF fs))] (gs.map tN) = some ((gs.map fun f => .bool (fallsB th.length c f))) := by
    intro gs
    induction gs with
    | nil => intro _; rfl
    | cons f gs ih =>
      intro hf
      rw [List.map_cons, lcGo]
      rw [ih (fun f m => hf f (List.mem_cons_of_mem _ m))]
      simp [f_is_fall S f (hf f (List.mem_cons_self ..))]
  rw [el fs h2]
  simp
  rw [gAll_map]
  generalize fs.all (fallsB th.length c) = q
  cases q
  · simp
  simp
  rw [lim_ok (by omega)]
  simp
  have hlen : fs.flatten.length ≤ 10000 := by
    have : ∀ gs : List (List Nat), (∀ f ∈ gs, f.length ≤ 100) → gs.flatten.length ≤ 100 * gs.length := by
      intro gs
      induction gs with
      | nil => simp
      | cons f gs ih =>
        intro hf
        have := ih (fun f m => hf f (List.mem_cons_of_mem _ m))
        have := hf f (List.mem_cons_self ..)
        simp at *
        omega
    have := this fs h2
    omega
  obtain ⟨y, hy⟩ := loop_ext (some (.dat (.tuple th))) (some (.dat O)) (some (.dat (nI how))) (some (.dat (.tuple [tN l, tF fs]))) (some (.dat (tN l))) (some (.dat (tF fs))) fs [] none (by simp at *; omega)
  simp at hy
  rw [hy]
  simp
  rw [show (List.map (List.map nI) fs).flatten = lN fs.flatten from List.map_flatten.symm, gSorted_lN, if_pos (by omega)]
  simp [rangeD_zero]
  by_cases hs : nsort fs.flatten = List.range th.length
  · simp [hs]
    by_cases he : l.length = how
    · simp [he]
      omega
    · have : ¬ (l.length : Int) = (how : Int) := by omega
      simp [he, this]
  · simp [hs]
def runB (c : Nat → Nat → Cm) (s e : Nat) : Bool := riseB c (List.range' s (e - s)) || fallB c (List.range' s (e - s))
theorem f_is_run (S : Sit th O c) {s e : Nat} (hs : s ≤ th.length) (he : e ≤ th.length) : F_is_run [.tuple th, O, nI s, nI e] = some (.bool (runB c s e)) := by
  have n7 := S.n7
  rw [u_is_run]
  unfold B_is_run runB
  simp
  rw [if_pos (by omega)]
  have e1 : (((e : Int)) - (s : Int)).toNat = e - s := by omega
  have hl : ∀ a ∈ List.range' s (e - s), a < th.length := fun a ha => by
    rw [List.mem_range'_1] at ha; omega
  have h1 : (List.range' s (e - s)).length ≤ 100 := by simp; omega
  simp [e1, rangeD_nat, f_does_rise S _ h1 hl, f_does_fall S _ h1 hl]
  cases riseB c (List.range' s (e - s)) <;> simp
def endsOf (n : Nat) (l : List Nat) : List Nat := l.drop 1 ++ [n]
def runsB (n : Nat) (c : Nat → Nat → Cm) (how : Nat) (l : List Nat) : Bool :=
  lineB n l && growB l && decide (l.length = how) && (if l = [] ∨ gd l 0 ≠ 0 then decide (n = 0) else
    (List.range l.length).all fun k => runB c (gd l k) (gd (endsOf n l) k) && !(decide (gd (endsOf n l) k < n) && runB c (gd l k) (gd (endsOf n l) k + 1)))
theorem ends_le {n : Nat} {l : List Nat} (h : ∀ a ∈ l, a < n) {k : Nat} (hk : k < l.length) : gd (endsOf n l) k ≤ n := by
  have hl : (endsOf n l).length = l.length := by unfold endsOf; simp; omega
  have : gd (endsOf n l) k < n + 1 := getD_lt (m := n + 1) (fun a ha => by
    unfold endsOf at ha
    rcases List.mem_append.mp ha with h1 | h1
    · have := h a (List.mem_of_mem_drop h1); omega
    · have := List.mem_singleton.mp h1; omega) (by omega)
  omega
theorem cut1 {α : Type} (l : List α) : cutD l (some 1) none = l.drop 1 := by
  unfold cutD HT.sIx
  cases l with
  | nil => rfl
  | cons a l => simp
theorem eq_th0 (S : Sit th O c) : gEq (.tuple th) (.tuple []) = some (.bool (decide (th.length = 0))) := by
  rw [gEq_ok S.sh rfl]
  show some (PyData.bool (PyData.eqvAll th [])) = _
  cases th <;> rfl
theorem f_judge_runs (S : Sit th O c) (how : Nat) (l : List Nat) (h : l.length ≤ 100) : F_judge_runs [.tuple th, O, nI how, tN l] = some (.bool (runsB th.length c how l)) := by
  have n7 := S.n7
  rw [u_judge_runs]
  unfold B_judge_runs runsB
  simp [f_is_line_of _ l h, f_do_grow l h]
  cases ha : lineB th.length l
  · simp
  cases hg : growB l
  · simp
  have hlt := lineB_lt ha
  simp
  by_cases he : ¬ l.length = how
  · have : ¬ (l.length : Int) = (how : Int) := by omega
    simp [he, this]
  have he : l.length = how := by omega
  subst he
  simp
  rw [lim_ok (by decide)]
  simp
  by_cases h0 : l = []
  · simp [h0, lim_ok, eq_th0 S]
  have hpos : 0 < l.length := List.length_pos_iff.mpr h0
  have e0 : L2.atI (lN l) 0 = some (nI (gd l 0)) := atI_tN (k := 0) hpos
  simp [h0, e0]
  by_cases h1 : ¬ gd l 0 = 0
  · have : ¬ (gd l 0 : Int) = 0 := by omega
    simp [h1, lim_ok, eq_th0 S]
  have h1 : gd l 0 = 0 := by omega
  simp [h1]
  rw [lim_ok (by decide)]
  simp [cut1]
  have hx : (lN l).tail ++ [PyData.int (th.length : Int)] = lN (endsOf th.length l) := by unfold endsOf; simp
  rw [hx, lim_ok (by omega)]
  simp
  rw [if_pos (by omega)]
  simp
  have hel : (endsOf th.length l).length = l.length := by unfold endsOf; simp; omega
  rcases loop_chk (I := fun ρ => ∃ x, ρ = [some (.dat (.tuple th)), some (.dat O), some (.dat (nI l.length)), some (.dat (tN l)), some (.dat (.list (lN (endsOf th.length l)))), x]) (r := .bool false) (g := gN 5)
    (b := sSeq (sIf (tNotF (fB (fCall F_is_run (fCons (fV 0) (fCons (fV 1) (fCons (f2 gIx (fR 3) (fR 5)) (fCons (f2 gIx (fR 4) (fR 5)) fNil))))))) (sRet (fC (.bool false))) sNx)
  (sIf (tAndF (fB (f2 gLt (f2 gIx (fR 4) (fR 5)) (f1 gLen (fR 0)))) (fB (fCall F_is_run (fCons (fV 0) (fCons (fV 1) (fCons (f2 gIx (fR 3) (fR 5)) (fCons (f2 gAdd (f2 gIx (fR 4) (fR 5)) (fC (.int 1))) fNil))))))) (sRet (fC (.bool false))) sNx))
    (t := fun d => match d with
      | .int k => runB c (gd l k.toNat) (gd (endsOf th.length l) k.toNat) && (!decide (gd (endsOf th.length l) k.toNat < th.length) || !runB c (gd l k.toNat) (gd (endsOf th.length l) k.toNat + 1))
      | _ => true) (rangeD 0 l.length) (by
      rintro d hd ρ ⟨x, rfl⟩
      rw [rangeD_zero] at hd
      obtain ⟨k, hk, rfl⟩ := List.mem_map.mp hd
      have hk := List.mem_range.mp hk
      refine ⟨_, rfl, ?_⟩
      have q1 : gd l k < th.length := getD_lt hlt hk
      have q2 := ends_le hlt hk
      have w1 := atI_tN (l := l) (k := k) hk
      have w2 := atI_tN (l := endsOf th.length l) (k := k) (by omega)
      have w3 := f_is_run S (s := gd l k) (e := gd (endsOf th.length l) k) (by omega) (by omega)
      simp [w1, w2, w3]
      generalize runB c (gd l k) (gd (endsOf th.length l) k) = q
      cases q
      · simp
      · simp
        by_cases hz : gd (endsOf th.length l) k < th.length
        · have w4 : F_is_run [.tuple th, O, nI (gd l k), .int ((gd (endsOf th.length l) k : Int) + 1)] = some (.bool (runB c (gd l k) (gd (endsOf th.length l) k + 1))) := f_is_run S (s := gd l k) (e := gd (endsOf th.length l) k + 1) (by omega) (by omega)
          have hz' : ¬ th.length ≤ gd (endsOf th.length l) k := by omega
          simp [hz, hz', w1, w2, w4]
          generalize runB c (gd l k) (gd (endsOf th.length l) k + 1) = q'
          cases q' <;> simp
        · simp [hz, w1, w2]) _ ⟨_, rfl⟩ with ⟨e1, ρ', e2, x, rfl⟩ | ⟨e1, e2⟩
  · rw [e2]
    rw [rangeD_zero, List.all_map] at e1
    simp [Function.comp_def] at e1
    simp
    exact e1
  · rw [e2]
    rw [rangeD_zero, List.all_map] at e1
    simp [Function.comp_def] at e1
    simp
    exact e1
end NM
/-! S4: holds, law_sound -/
namespace NM
open PySem DL
variable {th : List D} {O : D} {c : Nat → Nat → Cm}
abbrev s_held : PySem.Str := "held"
abbrev s_unheld : PySem.Str := "unheld"
abbrev s_ordered : PySem.Str := "ordered"
abbrev s_wrong : PySem.Str := "wrong"
abbrev s_stays : PySem.Str := "stays"
abbrev s_runs : PySem.Str := "runs"
theorem q11 : gEq (.str s_held) (.str "held") = some (.bool true) := (gEq_ss (by decide +kernel) (by decide +kernel)).trans (congrArg (fun b => some (PyData.bool b)) (by decide +kernel))
theorem q12 : gEq (.str s_unheld) (.str "held") = some (.bool false) := (gEq_ss (by decide +kernel) (by decide +kernel)).trans (congrArg (fun b => some (PyData.bool b)) (by decide +kernel))
theorem q21 : gEq (.str s_ordered) (.str "ordered") = some (.bool true) := (gEq_ss (by decide +kernel) (by decide +kernel)).trans (congrArg (fun b => some (PyData.bool b)) (by decide +kernel))
theorem q22 : gEq (.str s_wrong) (.str "ordered") = some (.bool false) := (gEq_ss (by decide +kernel) (by decide +kernel)).trans (congrArg (fun b => some (PyData.bool b)) (by decide +kernel))
theorem q23 : gEq (.str s_stays) (.str "ordered") = some (.bool false) := (gEq_ss (by decide +kernel) (by decide +kernel)).trans (congrArg (fun b => some (PyData.bool b)) (by decide +kernel))
theorem q24 : gEq (.str s_runs) (.str "ordered") = some (.bool false) := (gEq_ss (by decide +kernel) (by decide +kernel)).trans (congrArg (fun b => some (PyData.bool b)) (by decide +kernel))
theorem q32 : gEq (.str s_wrong) (.str "wrong") = some (.bool true) := (gEq_ss (by decide +kernel) (by decide +kernel)).trans (congrArg (fun b => some (PyData.bool b)) (by decide +kernel))
theorem q33 : gEq (.str s_stays) (.str "wrong") = some (.bool false) := (gEq_ss (by decide +kernel) (by decide +kernel)).trans (congrArg (fun b => some (PyData.bool b)) (by decide +kernel))
theorem q34 : gEq (.str s_runs) (.str "wrong") = some (.bool false) := (gEq_ss (by decide +kernel) (by decide +kernel)).trans (congrArg (fun b => some (PyData.bool b)) (by decide +kernel))
theorem q43 : gEq (.str s_stays) (.str "stays") = some (.bool true) := (gEq_ss (by decide +kernel) (by decide +kernel)).trans (congrArg (fun b => some (PyData.bool b)) (by decide +kernel))
theorem q44 : gEq (.str s_runs) (.str "stays") = some (.bool false) := (gEq_ss (by decide +kernel) (by decide +kernel)).trans (congrArg (fun b => some (PyData.bool b)) (by decide +kernel))
abbrev t4 : D := .tuple [.str "ordered", .str "wrong", .str "stays", .str "runs"]
abbrev t2 : D := .tuple [.str "held", .str "unheld"]
theorem q51 : gIn (.str s_ordered) t4 = some (.bool true) := rfl
theorem q52 : gIn (.str s_wrong) t4 = some (.bool true) := rfl
theorem q53 : gIn (.str s_stays) t4 = some (.bool true) := rfl
theorem q54 : gIn (.str s_runs) t4 = some (.bool true) := rfl
theorem q61 : gIn (.str s_held) t2 = some (.bool true) := rfl
theorem q62 : gIn (.str s_unheld) t2 = some (.bool true) := rfl
theorem a30 (a b d : D) : L2.atI [a, b, d] (0 : Int) = some a := rfl
theorem a40 (a b d e : D) : L2.atI [a, b, d, e] (0 : Int) = some a := rfl
theorem whole_nI (k : Nat) : F_is_whole [nI k] = some (.bool true) := by simp [u_is_whole, B_is_whole]
theorem row3 (S : Sit th O c) (w : PySem.Str) (p : D) (q : gIn (.str w) t2 = some (.bool true)) : F_holds [.tuple [.str w, .tuple th, O], p] = F_holds_of_row [.tuple [.str w, .tuple th, O], p] := by
  rw [u_holds]
  unfold B_holds
  simp [a30, lim_ok, q]
  cases F_holds_of_row [.tuple [.str w, .tuple th, O], p] <;> simp
theorem row4 (S : Sit th O c) (w : PySem.Str) (d p : D) (q : gIn (.str w) t4 = some (.bool true)) : F_holds [.tuple [.str w, .tuple th, O, d], p] = F_holds_of_more [.tuple [.str w, .tuple th, O, d], p] := by
  rw [u_holds]
  unfold B_holds
  simp [a40, lim_ok, q]
  cases F_holds_of_more [.tuple [.str w, .tuple th, O, d], p] <;> simp
theorem h_held (S : Sit th O c) (p : D) : F_holds [.tuple [.str s_held, .tuple th, O], p] = F_judge_held [.tuple th, O, p] := by
  rw [row3 S _ _ q61, u_holds_of_row]
  unfold B_holds_of_row
  simp [S.row, S.ord, q11]
  cases F_judge_held [.tuple th, O, p] <;> simp
theorem h_unheld (S : Sit th O c) (p : D) : F_holds [.tuple [.str s_unheld, .tuple th, O], p] = F_judge_unheld [.tuple th, O, p] := by
  rw [row3 S _ _ q62, u_holds_of_row]
  unfold B_holds_of_row
  simp [S.row, S.ord, q12]
  cases F_judge_unheld [.tuple th, O, p] <;> simp
theorem h_ordered (S : Sit th O c) (d : D) : F_holds [.tuple [.str s_ordered, .tuple th, O, d], .none] = F_is_ordered [.tuple th, O, d] := by
  rw [row4 S _ _ _ q51, u_holds_of_more]
  unfold B_holds_of_more
  simp [S.row, S.ord, q21]
  cases F_is_ordered [.tuple th, O, d] <;> simp
theorem h_wrong (S : Sit th O c) (k : Nat) (p : D) : F_holds [.tuple [.str s_wrong, .tuple th, O, nI k], p] = F_judge_wrong [.tuple th, O, nI k, p] := by
  rw [row4 S _ _ _ q52, u_holds_of_more]
  unfold B_holds_of_more
  simp [S.row, S.ord, q22, q32, whole_nI]
  cases F_judge_wrong [.tuple th, O, nI k, p] <;> simp
theorem h_stays (S : Sit th O c) (k : Nat) (p : D) : F_holds [.tuple [.str s_stays, .tuple th, O, nI k], p] = F_judge_stays [.tuple th, O, nI k, p] := by
  rw [row4 S _ _ _ q53, u_holds_of_more]
  unfold B_holds_of_more
  simp [S.row, S.ord, q23, q33, q43, whole_nI]
  cases F_judge_stays [.tuple th, O, nI k, p] <;> simp
theorem h_runs (S : Sit th O c) (k : Nat) (p : D) : F_holds [.tuple [.str s_runs, .tuple th, O, nI k], p] = F_judge_runs [.tuple th, O, nI k, p] := by
  rw [row4 S _ _ _ q54, u_holds_of_more]
  unfold B_holds_of_more
  simp [S.row, S.ord, q24, q34, q44, whole_nI]
  cases F_judge_runs [.tuple th, O, nI k, p] <;> simp
/-- a claim, a paper, whether it may be taken: taken only if due -/
def OkC (d : D) : Prop := ∃ (cl p : D) (due b : Bool), d = .tuple [cl, p, .bool due] ∧ F_holds [cl, p] = some (.bool b) ∧ (b = true → due = true)
theorem f_law_sound (ds : List D) (h : ∀ d ∈ ds, OkC d) : F_law_sound [.list ds] = some (.bool true) := by
  rw [u_law_sound]
  unfold B_law_sound
  simp
  obtain ⟨ρ', e, _⟩ := loop_inv (g := gT [1, 2, 3]) (b := sSeq (sSet 4 (fCall F_holds (fCons (fV 1) (fCons (fV 2) fNil))))
  (sIf (tOrF (tNotF (fB (f1 gIsBool (fR 4)))) (tAndF (fB (fV 4)) (tNotF (fB (fV 3))))) (sRet (fC (.bool false))) sNx)) (fun _ ρ => ∃ x1 x2 x3 x4, ρ = [some (.dat (.list ds)), x1, x2, x3, x4]) ds 0 (by
    rintro k d hk ρ ⟨x1, x2, x3, x4, rfl⟩
    obtain ⟨cl, p, due, b, rfl, hb, hd⟩ := h d (List.mem_of_getElem? hk)
    refine ⟨[some (.dat (.list ds)), some (.dat cl), some (.dat p), some (.dat (.bool due)), x4], [some (.dat (.list ds)), some (.dat cl), some (.dat p), some (.dat (.bool due)), some (.dat (.bool b))], by simp, ?_, ⟨_, _, _, _, rfl⟩⟩
    simp [hb]
    cases b
    · simp
    · simp [hd rfl]) [some (.dat (.list ds)), none, none, none, none] ⟨_, _, _, _, rfl⟩
  rw [e]
  simp
end NM
/-! S5: what the law counts: all_held, wrong, most_stay, fewest -/
namespace NM
open PySem DL
variable {th : List D} {O : D} {c : Nat → Nat → Cm}
def heldB (n : Nat) (c : Nat → Nat → Cm) : Bool := (List.range n).all fun y => (List.range y).all fun x => !decide (c x y = .no)
theorem f_law_all_held (S : Sit th O c) : F_law_all_held [.tuple th, O] = some (.bool (heldB th.length c)) := by
  have n7 := S.n7
  rw [u_law_all_held]
  unfold B_law_all_held heldB
  simp
  rw [if_pos (by omega)]
  simp
  rcases loop_chk (I := fun ρ => ∃ x y, ρ = [some (.dat (.tuple th)), some (.dat O), x, y]) (r := .bool false) (g := gN 2)
    (b := sFor (iR1 (fR 2)) (gN 3) (sIf (fB (f2 gIs (fCall F_law_held (fCons (fV 1) (fCons (f2 gIx (fR 0) (fR 3)) (fCons (f2 gIx (fR 0) (fR 2)) fNil)))) (fC .none))) (sRet (fC (.bool false))) sNx))
    (t := fun d => match d with
      | .int y => (List.range y.toNat).all fun x => !decide (c x y.toNat = .no)
      | _ => true) (rangeD 0 th.length) (by
      rintro d hd ρ ⟨x0, y0, rfl⟩
      rw [rangeD_zero] at hd
      obtain ⟨y, hy, rfl⟩ := List.mem_map.mp hd
      have hy := List.mem_range.mp hy
      refine ⟨_, rfl, ?_⟩
      simp
      rw [if_pos (by omega)]
      simp
      rcases loop_chk (I := fun ρ => ∃ y', ρ = [some (.dat (.tuple th)), some (.dat O), some (.dat (nI y)), y']) (r := .bool false) (g := gN 3)
        (b := sIf (fB (f2 gIs (fCall F_law_held (fCons (fV 1) (fCons (f2 gIx (fR 0) (fR 3)) (fCons (f2 gIx (fR 0) (fR 2)) fNil)))) (fC .none))) (sRet (fC (.bool false))) sNx)
        (t := fun d => match d with
          | .int x => !decide (c x.toNat y = .no)
          | _ => true) (rangeD 0 y) (by
          rintro d hd ρ ⟨y0, rfl⟩
          rw [rangeD_zero] at hd
          obtain ⟨x, hx, rfl⟩ := List.mem_map.mp hd
          have hx := List.mem_range.mp hx
          have hx' : x < th.length := by omega
          refine ⟨_, rfl, ?_⟩
          simp [atI_th hx', atI_th hy, S.hld x y hx' hy]
          by_cases hn : c x y = .no <;> simp [hn]) _ ⟨_, rfl⟩ with ⟨e1, ρ', e2, x, rfl⟩ | ⟨e1, e2⟩
      · rw [e2]
        rw [rangeD_zero, List.all_map] at e1
        simp [Function.comp_def] at e1
        simp
        intro x hx hn
        exact absurd hn (e1 x hx)
      · rw [e2]
        rw [rangeD_zero, List.all_map] at e1
        simp [Function.comp_def] at e1
        simp
        obtain ⟨x, hx, hn⟩ := e1
        exact ⟨x, hx, hn⟩) _ ⟨_, _, rfl⟩ with ⟨e1, ρ', e2, x, y, rfl⟩ | ⟨e1, e2⟩
  · rw [e2]
    rw [rangeD_zero, List.all_map] at e1
    simp [Function.comp_def] at e1
    simp
    exact e1
  · rw [e2]
    rw [rangeD_zero, List.all_map] at e1
    simp [Function.comp_def] at e1
    simp
    exact e1
/-- pairs in the wrong order -/
def wrS (c : Nat → Nat → Cm) : Nat → Nat
  | 0 => 0
  | k + 1 => wrS c k + ((List.range k).filter fun x => (c k x).ca).length
theorem f_law_wrong (S : Sit th O c) : F_law_wrong [.tuple th, O] = some (nI (wrS c th.length)) := by
  have n7 := S.n7
  rw [u_law_wrong]
  unfold B_law_wrong
  simp
  rw [if_pos (by omega)]
  simp
  obtain ⟨ρ', e, x, y, rfl⟩ := loop_rng (n := th.length) (g := gN 3)
    (b := sSet 2 (f2 gAdd (fR 2) (f1 gLen (fL (fLc (iR1 (fR 3)) (gN 4) (fB (f2 gEq (fCall F_law_held (fCons (fV 1) (fCons (f2 gIx (fR 0) (fR 3)) (fCons (f2 gIx (fR 0) (fR 4)) fNil)))) (f1 gNeg (fC (.int 1))))) (fV 4) (List.map (fun p : PySem.Str × Nat => p.2) [("_law_x", 4)]))))))
    (fun k ρ => ∃ x y, ρ = [some (.dat (.tuple th)), some (.dat O), some (.dat (nI (wrS c k))), x, y]) (ρ := [some (.dat (.tuple th)), some (.dat O), some (.dat (.int 0)), none, none]) ⟨_, _, rfl⟩ (by
    rintro k hk ρ ⟨x, y, rfl⟩
    refine ⟨_, [some (.dat (.tuple th)), some (.dat O), some (.dat (nI (wrS c (k + 1)))), some (.dat (nI k)), y], rfl, ?_, ⟨_, _, rfl⟩⟩
    simp
    rw [if_pos (by omega)]
    simp
    rw [lim_ok (by rw [rangeD_zero]; simp; omega)]
    simp
    rw [lcGo_rngF (fun x => (c k x).ca) nI (fun x hx => by
      have hx' : x < th.length := by omega
      simp [atI_th hx', atI_th hk, S.hld k x hk hx'])]
    simp [wrS])
  simp at e
  rw [e]
  simp
theorem gIn_cm (c : Cm) : gIn c.D (.list [.int (-1), .int 0]) = some (.bool c.ra) := by cases c <;> rfl
/-- max([0] + l) -/
def mx (l : List Nat) : Nat := (maxOf 0 (l.map fun k : Nat => (k : Int))).toNat
theorem mx_cast (l : List Nat) : maxOf 0 (l.map fun k : Nat => (k : Int)) = (mx l : Int) := by
  have := (maxOf_is (l.map fun k : Nat => (k : Int)) 0).2 0 (List.mem_cons_self ..)
  unfold mx
  omega
theorem mx_ge (l : List Nat) {a : Nat} (h : a ∈ l) : a ≤ mx l := by
  have := (maxOf_is (l.map fun k : Nat => (k : Int)) 0).2 (a : Int) (List.mem_cons_of_mem _ (List.mem_map.mpr ⟨a, h, rfl⟩))
  rw [mx_cast] at this
  omega
theorem mx_mem (l : List Nat) : mx l = 0 ∨ mx l ∈ l := by
  have := (maxOf_is (l.map fun k : Nat => (k : Int)) 0).1
  rw [mx_cast] at this
  rcases List.mem_cons.mp this with h | h
  · left; omega
  · right
    obtain ⟨a, ha, e⟩ := List.mem_map.mp h
    have : a = mx l := by omega
    rw [← this]; exact ha
theorem gMaxL_lN (l : List Nat) : gMaxL (.list (.int 0 :: lN l)) = some (nI (mx l)) := by
  show (intsOf (lN (0 :: l))).bind _ = _
  rw [intsOf_lN]
  show some (PyData.int (maxOf 0 _)) = _
  rw [mx_cast]
def msL (c : Nat → Nat → Cm) : Nat → List Nat
  | 0 => []
  | k + 1 => msL c k ++ [1 + mx (((List.range k).filter fun x => (c x k).ra).map fun x => gd (msL c k) x)]
theorem msL_len (c : Nat → Nat → Cm) : ∀ k, (msL c k).length = k
  | 0 => rfl
  | k + 1 => by simp [msL, msL_len c k]
theorem f_law_most_stay (S : Sit th O c) : F_law_most_stay [.tuple th, O] = some (nI (mx (msL c th.length))) := by
  have n7 := S.n7
  rw [u_law_most_stay]
  unfold B_law_most_stay
  simp
  rw [lim_ok (by omega)]
  simp
  rw [if_pos (by omega)]
  simp
  obtain ⟨ρ', e, x, y, z, rfl⟩ := loop_rng (n := th.length) (g := gN 3)
    (b := sSeq (sSet 4 (fL (fLc (iR1 (fR 3)) (gN 5) (fB (f2 gIn (fCall F_law_held (fCons (fV 1) (fCons (f2 gIx (fR 0) (fR 5)) (fCons (f2 gIx (fR 0) (fR 3)) fNil)))) (fL (fLst (fCons (f1 gNeg (fC (.int 1))) (fCons (fC (.int 0)) fNil)))))) (f2 gIx (fR 2) (fR 5)) (List.map (fun p : PySem.Str × Nat => p.2) [("_law_x", 5)]))))
  (sApp 2 (f2 gAdd (fC (.int 1)) (f1 gMaxL (f2 gAdd (fL (fLst (fCons (fC (.int 0)) fNil))) (fR 4))))))
    (fun k ρ => ∃ x y z, ρ = [some (.dat (.tuple th)), some (.dat O), some (.own (lN (msL c k))), x, y, z]) (ρ := [some (.dat (.tuple th)), some (.dat O), some (.own []), none, none, none]) ⟨_, _, _, rfl⟩ (by
    rintro k hk ρ ⟨x, y, z, rfl⟩
    refine ⟨_, [some (.dat (.tuple th)), some (.dat O), some (.own (lN (msL c (k + 1)))), some (.dat (nI k)), some (.dat (.list (lN (((List.range k).filter fun x => (c x k).ra).map fun x => gd (msL c k) x)))), z], rfl, ?_, ⟨_, _, _, rfl⟩⟩
    simp
    rw [if_pos (by omega)]
    simp
    rw [lim_ok (by rw [rangeD_zero]; simp; omega)]
    simp
    rw [lcGo_rngF (fun x => (c x k).ra) (fun x => nI (gd (msL c k) x)) (fun x hx => by
      have hx' : x < th.length := by omega
      have hm := msL_len c k
      simp [atI_th hx', atI_th hk, S.hld x k hx' hk, lim_ok, gIn_cm]
      rw [atI_tN (by omega)])]
    have hg : (((List.range k).filter fun x => (c x k).ra).map fun x => gd (msL c k) x).length ≤ 1000 := by
      rw [List.length_map]
      have := List.length_filter_le (fun x => (c x k).ra) (List.range k)
      simp at this
      omega
    have hm := msL_len c k
    have e1 : ((List.range k).filter fun x => (c x k).ra).map (fun x => nI (gd (msL c k) x)) = lN (((List.range k).filter fun x => (c x k).ra).map fun x => gd (msL c k) x) := by simp [Function.comp_def]
    rw [e1]
    generalize hG : (((List.range k).filter fun x => (c x k).ra).map fun x => gd (msL c k) x) = G at *
    have e2 := gMaxL_lN G
    simp only [lN] at e2
    simp [hm]
    rw [lim_ok (by omega)]
    simp
    rw [lim_ok (by omega)]
    simp [e2]
    rw [lim_ok (by omega)]
    rw [← e1, ← hG]
    simp [msL])
  simp at e
  rw [e]
  have hm := msL_len c th.length
  have e2 := gMaxL_lN (msL c th.length)
  simp only [lN] at e2
  simp
  rw [lim_ok (by omega)]
  simp [hm]
  rw [lim_ok (by omega)]
  simp [e2]
end NM
/-! S6: fewest; arranged, places -/
namespace NM
open PySem DL
variable {th : List D} {O : D} {c : Nat → Nat → Cm}
theorem gEq_cm1 (c : Cm) : gEq c.D (.int 1) = some (.bool (decide (c = .gt))) := by
  cases c
  all_goals first | exact gEq_ni _ | exact gEq_ii _ _
/-- the least of a :: l -/
def mn (a : Nat) (l : List Nat) : Nat := (minOf (a : Int) (l.map fun k : Nat => (k : Int))).toNat
theorem mn_cast (a : Nat) (l : List Nat) : minOf (a : Int) (l.map fun k : Nat => (k : Int)) = (mn a l : Int) := by
  have := (minOf_is (l.map fun k : Nat => (k : Int)) a).1
  unfold mn
  rcases List.mem_cons.mp this with h | h
  · rw [h]; simp
  · obtain ⟨b, _, e⟩ := List.mem_map.mp h
    rw [← e]; simp
theorem mn_le (a : Nat) (l : List Nat) {b : Nat} (h : b ∈ a :: l) : mn a l ≤ b := by
  have := (minOf_is (l.map fun k : Nat => (k : Int)) a).2 (b : Int) (by
    rcases List.mem_cons.mp h with rfl | h
    · exact List.mem_cons_self ..
    · exact List.mem_cons_of_mem _ (List.mem_map.mpr ⟨b, h, rfl⟩))
  rw [mn_cast] at this
  omega
theorem mn_mem (a : Nat) (l : List Nat) : mn a l ∈ a :: l := by
  have := (minOf_is (l.map fun k : Nat => (k : Int)) a).1
  rw [mn_cast] at this
  rcases List.mem_cons.mp this with h | h
  · have : mn a l = a := by omega
    rw [this]; exact List.mem_cons_self ..
  · obtain ⟨b, hb, e⟩ := List.mem_map.mp h
    have : b = mn a l := by omega
    rw [← this]; exact List.mem_cons_of_mem _ hb
def mnL : List Nat → Nat
  | [] => 0
  | a :: l => mn a l
theorem gMinL_lN {l : List Nat} (h : l ≠ []) : gMinL (.list (lN l)) = some (nI (mnL l)) := by
  cases l with
  | nil => exact absurd rfl h
  | cons a l =>
    show (intsOf (lN (a :: l))).bind _ = _
    rw [intsOf_lN]
    show some (PyData.int (minOf (a : Int) _)) = _
    rw [mn_cast]
    rfl
def runC (c : Nat → Nat → Cm) (s e : Nat) : Bool := ((List.range' s (e - 1 - s)).all fun k => (c k (k + 1)).ra) || ((List.range' s (e - 1 - s)).all fun k => decide (c k (k + 1) = .gt))
def fewL (c : Nat → Nat → Cm) : Nat → List Nat
  | 0 => [0]
  | k + 1 => fewL c k ++ [mnL (((List.range (k + 1)).filter fun s => runC c s (k + 1)).map fun s => gd (fewL c k) s + 1)]
theorem fewL_len (c : Nat → Nat → Cm) : ∀ k, (fewL c k).length = k + 1
  | 0 => rfl
  | k + 1 => by simp [fewL, fewL_len c k]
theorem runC_last (c : Nat → Nat → Cm) (k : Nat) : runC c k (k + 1) = true := by
  unfold runC
  simp
/-- a loop over 1 .. n -/
theorem loop_rng1 {g : D → Rho → Option Rho} {b : Rho → Option Out} (I : Nat → Rho → Prop) {n : Nat} {ρ : Rho} (h0 : I 0 ρ)
    (h : ∀ k, k < n → ∀ ρ, I k ρ → ∃ ρ1 ρ2, g (nI (k + 1)) ρ = some ρ1 ∧ b ρ1 = some (.nx ρ2) ∧ I (k + 1) ρ2) : ∃ ρ', loopD g b (rangeD 1 n) ρ = some (.nx ρ') ∧ I n ρ' := by
  have e1 : rangeD 1 n = lN (List.range' 1 n) := rangeD_nat 1 n
  have := loop_inv (g := g) (b := b) I (rangeD 1 n) 0 (fun k d hk ρ hi => by
    rw [e1] at hk
    have hk' : k < n := by
      have := (List.getElem?_eq_some_iff.mp hk).1
      simpa using this
    rw [List.getElem?_map, List.getElem?_range' hk'] at hk
    simp at hk
    subst hk
    rw [Nat.zero_add] at hi ⊢
    have := h k hk' ρ hi
    obtain ⟨r1, r2, w1, w2, w3⟩ := this
    exact ⟨r1, r2, by rw [Nat.add_comm 1 k]; exact w1, w2, w3⟩) ρ h0
  rw [e1] at this ⊢
  simpa using this

theorem sSeq_nx {g h : Rho → Option Out} {ρ ρ1 : Rho} (hg : g ρ = some (.nx ρ1)) : sSeq g h ρ = h ρ1 := by rw [e_sSeq, hg]; rfl
theorem sFor_eq {i : Rho → Option (List D)} {g : D → Rho → Option Rho} {b : Rho → Option Out} {ρ : Rho} {ds : List D} (hi : i ρ = some ds) : sFor i g b ρ = loopD g b ds ρ := by rw [e_sFor, hi]; rfl
theorem iR1_nat {f : Rho → Option D} {ρ : Rho} (n : Nat) (h : f ρ = some (nI n)) (hn : n ≤ 1000) : iR1 f ρ = some (rangeD 0 n) := by
  rw [e_iR1, h, Option.bind_some, e_asI, Option.bind_some, if_pos (by omega), Int.toNat_natCast]
theorem iR2_int {f f' : Rho → Option D} {ρ : Rho} (i j : Int) (m : Nat) (h : f ρ = some (.int i)) (h' : f' ρ = some (.int j)) (h1 : -1000 ≤ i ∧ i ≤ 1000) (h2 : -1000 ≤ j ∧ j ≤ 1000) (hm : j - i ≤ (m : Int) ∧ ((m : Int) ≤ j - i ∨ m = 0)) : iR2 f f' ρ = some (rangeD i m) := by
  rw [e_iR2, h, h', Option.bind_some, e_asI, Option.bind_some, Option.bind_some, e_asI, Option.bind_some, if_pos (by omega)]
  have : (j - i).toNat = m := by omega
  rw [this]
abbrev fewSg : Rho → Option Out := sSet 6 (fL (fLc (iR2 (fR 5) (f2 DL.gSub (fR 3) (fC (.int 1)))) (gN 7) tYesF (fCall F_law_held (fCons (fV 1) (fCons (f2 gIx (fR 0) (fR 7)) (fCons (f2 gIx (fR 0) (f2 gAdd (fR 7) (fC (.int 1)))) fNil)))) (List.map (fun p : PySem.Str × Nat => p.2) [("_law_k", 7)])))
abbrev fewTt : Rho → Option Bool := tOrF (fB (f1 gAll (fL (fLc (iL (fV 6)) (gN 8) tYesF (f2 gIn (fR 8) (fL (fLst (fCons (f1 gNeg (fC (.int 1))) (fCons (fC (.int 0)) fNil))))) (List.map (fun p : PySem.Str × Nat => p.2) [("_law_sign", 8)]))))) (fB (f1 gAll (fL (fLc (iL (fV 6)) (gN 8) tYesF (f2 gEq (fR 8) (fC (.int 1))) (List.map (fun p : PySem.Str × Nat => p.2) [("_law_sign", 8)])))))
abbrev fewBi : Rho → Option Out := sSeq fewSg (sIf fewTt (sApp 4 (f2 gAdd (f2 gIx (fR 2) (fR 5)) (fC (.int 1)))) sNx)
abbrev fewBo : Rho → Option Out := sSeq (sSetF 4 (fLst fNil)) (sSeq (sFor (iR1 (fR 3)) (gN 5) fewBi) (sApp 2 (f1 gMinL (fR 4))))
theorem few_signs (S : Sit th O c) (k s : Nat) (hk : k < th.length) (hs : s < k + 1) (F : List D) (G : List D) (y6 y7 y8 : Option Cell) : ∃ y, (fewSg : Rho → Option Out) [some (.dat (.tuple th)), some (.dat O), some (.own F), some (.dat (nI (k + 1))), some (.own G), some (.dat (nI s)), y6, y7, y8] = some (.nx [some (.dat (.tuple th)), some (.dat O), some (.own F), some (.dat (nI (k + 1))), some (.own G), some (.dat (nI s)), some (.dat (.list ((List.range' s (k - s)).map fun j => (c j (j + 1)).D))), y, y8]) := by
  have n7 := S.n7
  refine ⟨y7, ?_⟩
  simp
  rw [if_pos (by omega)]
  have q1 : ((k : Int) + 1 - 1 - (s : Int)).toNat = k - s := by omega
  simp [q1, rangeD_nat]
  rw [lim_ok (by omega)]
  simp
  rw [lcGo_lN (fun j => (c j (j + 1)).D) _ (fun j hj => by
    rw [List.mem_range'_1] at hj
    have j1 : j < th.length := by omega
    have j2 : j + 1 < th.length := by omega
    have w : L2.atI th ((j : Int) + 1) = some th[j + 1] := atI_th (k := j + 1) j2
    simp [atI_th j1, w, S.hld j (j + 1) j1 j2])]
theorem lcGo_mapL {α : Type} {j : Nat} {e : Rho → Option D} {ρ : Rho} (f h : α → D) : ∀ (l : List α), (∀ a ∈ l, e (ρ.set j (some (.dat (f a)))) = some (h a)) → lcGo (gN j) tYesF e ρ (l.map f) = some (l.map h)
  | [], _ => rfl
  | a :: l, w => by
    have ih := lcGo_mapL f h l (fun b m => w b (List.mem_cons_of_mem _ m))
    rw [List.map_cons, lcGo]
    simp [w a (List.mem_cons_self ..), ih]
theorem few_test (k s : Nat) (hk : k < 7) (hs : s < k + 1) (F : List D) (G : List D) (a0 a1 a3 y7 y8 : Option Cell) :
    fewTt [a0, a1, some (.own F), a3, some (.own G), some (.dat (nI s)), some (.dat (.list ((List.range' s (k - s)).map fun j => (c j (j + 1)).D))), y7, y8]
    = some (runC c s (k + 1)) := by
  have q : k + 1 - 1 - s = k - s := by omega
  unfold runC
  rw [q]
  simp
  rw [lim_ok (by omega)]
  simp
  rw [lcGo_mapL (fun j => (c j (j + 1)).D) (fun j => .bool (c j (j + 1)).ra) _ (fun j _ => by simp [lim_ok, gIn_cm]), lcGo_mapL (fun j => (c j (j + 1)).D) (fun j => .bool (decide (c j (j + 1) = .gt))) _ (fun j _ => by simp [gEq_cm1])]
  simp [gAll_map]
  generalize ((List.range' s (k - s)).all fun k => (c k (k + 1)).ra) = q1
  cases q1 <;> simp

def toldL (c : Nat → Nat → Cm) (k s : Nat) : List Nat := ((List.range s).filter fun s => runC c s (k + 1)).map fun s => gd (fewL c k) s + 1
theorem toldL_len (c : Nat → Nat → Cm) (k s : Nat) : (toldL c k s).length ≤ s := by
  unfold toldL
  rw [List.length_map]
  have := List.length_filter_le (fun s => runC c s (k + 1)) (List.range s)
  simpa using this
theorem few_inner (S : Sit th O c) (k : Nat) (hk : k < th.length) (x5 x6 x7 x8 : Option Cell) : ∃ y5 y6 y7 y8, loopD (gN 5) fewBi (rangeD 0 (k + 1)) [some (.dat (.tuple th)), some (.dat O), some (.own (lN (fewL c k))), some (.dat (nI (k + 1))), some (.own []), x5, x6, x7, x8]
    = some (.nx [some (.dat (.tuple th)), some (.dat O), some (.own (lN (fewL c k))), some (.dat (nI (k + 1))), some (.own (lN (toldL c k (k + 1)))), y5, y6, y7, y8]) := by
  have n7 := S.n7
  have hf := fewL_len c k
  obtain ⟨ρ2, e, y5, y6, y7, y8, rfl⟩ := loop_rng (n := k + 1) (g := gN 5) (b := fewBi)
    (fun s ρ => ∃ y5 y6 y7 y8, ρ = [some (.dat (.tuple th)), some (.dat O), some (.own (lN (fewL c k))), some (.dat (nI (k + 1))), some (.own (lN (toldL c k s))), y5, y6, y7, y8])
    (ρ := [some (.dat (.tuple th)), some (.dat O), some (.own (lN (fewL c k))), some (.dat (nI (k + 1))), some (.own []), x5, x6, x7, x8]) ⟨_, _, _, _, rfl⟩ (by
    rintro s hs ρ ⟨y5, y6, y7, y8, rfl⟩
    obtain ⟨y, hy⟩ := few_signs S k s hk hs (lN (fewL c k)) (lN (toldL c k s)) y6 y7 y8
    have ht := few_test (c := c) k s (by omega) hs (lN (fewL c k)) (lN (toldL c k s)) (some (.dat (.tuple th))) (some (.dat O)) (some (.dat (nI (k + 1)))) y y8
    refine ⟨[some (.dat (.tuple th)), some (.dat O), some (.own (lN (fewL c k))), some (.dat (nI (k + 1))), some (.own (lN (toldL c k s))), some (.dat (nI s)), y6, y7, y8], [some (.dat (.tuple th)), some (.dat O), some (.own (lN (fewL c k))), some (.dat (nI (k + 1))), some (.own (lN (toldL c k (s + 1)))), some (.dat (nI s)), some (.dat (.list ((List.range' s (k - s)).map fun j => (c j (j + 1)).D))), y, y8], rfl, ?_, ⟨_, _, _, _, rfl⟩⟩
    show sSeq fewSg (sIf fewTt (sApp 4 (f2 gAdd (f2 gIx (fR 2) (fR 5)) (fC (.int 1)))) sNx) _ = _
    rw [sSeq_nx hy]
    rw [e_sIf, ht]
    have hl := toldL_len c k s
    have ha := atI_tN (l := fewL c k) (k := s) (by omega)
    by_cases hr : runC c s (k + 1) = true
    · have : toldL c k (s + 1) = toldL c k s ++ [gd (fewL c k) s + 1] := by
        unfold toldL
        rw [List.range_succ, List.filter_append, List.map_append]
        simp [hr]
      rw [this]
      generalize toldL c k s = T at *
      simp [hr, ha]
      rw [lim_ok (by omega)]
      simp
    · have : toldL c k (s + 1) = toldL c k s := by
        unfold toldL
        rw [List.range_succ, List.filter_append, List.map_append]
        simp [hr]
      rw [this]
      simp [hr])
  exact ⟨y5, y6, y7, y8, e⟩
theorem few_outer (S : Sit th O c) (k : Nat) (hk : k < th.length) (x4 x5 x6 x7 x8 : Option Cell) : ∃ y4 y5 y6 y7 y8, fewBo [some (.dat (.tuple th)), some (.dat O), some (.own (lN (fewL c k))), some (.dat (nI (k + 1))), x4, x5, x6, x7, x8]
    = some (.nx [some (.dat (.tuple th)), some (.dat O), some (.own (lN (fewL c (k + 1)))), some (.dat (nI (k + 1))), y4, y5, y6, y7, y8]) := by
  have n7 := S.n7
  have hf := fewL_len c k
  obtain ⟨y5, y6, y7, y8, e⟩ := few_inner S k hk x5 x6 x7 x8
  refine ⟨some (.own (lN (toldL c k (k + 1)))), y5, y6, y7, y8, ?_⟩
  have hl := toldL_len c k (k + 1)
  have hne : toldL c k (k + 1) ≠ [] := by
    unfold toldL
    rw [List.range_succ, List.filter_append, List.map_append]
    simp [runC_last]
  have hm := gMinL_lN hne
  have he : fewL c (k + 1) = fewL c k ++ [mnL (toldL c k (k + 1))] := rfl
  rw [he]
  generalize toldL c k (k + 1) = T at *
  unfold fewBo
  have h1 : (sSetF 4 (fLst fNil) : Rho → Option Out) [some (.dat (.tuple th)), some (.dat O), some (.own (lN (fewL c k))), some (.dat (nI (k + 1))), x4, x5, x6, x7, x8] = some (.nx [some (.dat (.tuple th)), some (.dat O), some (.own (lN (fewL c k))), some (.dat (nI (k + 1))), some (.own []), x5, x6, x7, x8]) := by
    simp [lim_ok]
  rw [sSeq_nx h1]
  have h2 : (iR1 (fR 3)) [some (.dat (.tuple th)), some (.dat O), some (.own (lN (fewL c k))), some (.dat (nI (k + 1))), some (.own []), x5, x6, x7, x8] = some (rangeD 0 (k + 1)) := iR1_nat (k + 1) rfl (by omega)
  rw [sSeq_nx ((sFor_eq h2).trans e)]
  simp at hm ⊢
  rw [hm]
  simp [hf]
  rw [lim_ok (by omega)]
theorem f_law_fewest (S : Sit th O c) : F_law_fewest [.tuple th, O] = some (nI (gd (fewL c th.length) th.length)) := by
  have n7 := S.n7
  rw [u_law_fewest]
  unfold B_law_fewest
  obtain ⟨ρ', e, x3, x4, x5, x6, x7, x8, rfl⟩ := loop_rng1 (n := th.length) (g := gN 3)
    (b := fewBo)
    (fun k ρ => ∃ x3 x4 x5 x6 x7 x8, ρ = [some (.dat (.tuple th)), some (.dat O), some (.own (lN (fewL c k))), x3, x4, x5, x6, x7, x8]) (ρ := [some (.dat (.tuple th)), some (.dat O), some (.own [.int 0]), none, none, none, none, none, none]) ⟨_, _, _, _, _, _, rfl⟩ (by
    rintro k hk ρ ⟨x3, x4, x5, x6, x7, x8, rfl⟩
    obtain ⟨y4, y5, y6, y7, y8, e⟩ := few_outer S k hk x4 x5 x6 x7 x8
    exact ⟨[some (.dat (.tuple th)), some (.dat O), some (.own (lN (fewL c k))), some (.dat (nI (k + 1))), x4, x5, x6, x7, x8], _, rfl, e, ⟨_, _, _, _, _, _, rfl⟩⟩)
  have h1 : (sSetF 2 (fLst (fCons (fC (.int 0)) fNil)) : Rho → Option Out) [some (.dat (.tuple th)), some (.dat O), none, none, none, none, none, none, none] = some (.nx [some (.dat (.tuple th)), some (.dat O), some (.own [.int 0]), none, none, none, none, none, none]) := by
    simp [lim_ok]
  rw [sSeq_nx h1]
  have h2 : (iR2 (fC (.int 1)) (f2 gAdd (f1 gLen (fR 0)) (fC (.int 1)))) [some (.dat (.tuple th)), some (.dat O), some (.own [.int 0]), none, none, none, none, none, none] = some (rangeD 1 th.length) :=
    iR2_int 1 ((th.length : Int) + 1) th.length rfl rfl (by omega) (by omega) (by omega)
  rw [sSeq_nx ((sFor_eq h2).trans e)]
  have hf := fewL_len c th.length
  have ha : L2.atI (lN (fewL c th.length)) (-1) = some (nI (gd (fewL c th.length) th.length)) := by
    obtain ⟨l, a, hl⟩ : ∃ l a, fewL c th.length = l ++ [a] := ⟨_, _, (List.dropLast_concat_getLast (l := fewL c th.length) (by intro h; rw [h] at hf; simp at hf)).symm⟩
    rw [hl]
    have : l.length = th.length := by rw [hl] at hf; simpa using hf
    simp only [lN, List.map_append, List.map_cons, List.map_nil]
    rw [atI_last]
    unfold gd
    simp [← this]
  simp only [lN] at ha
  simp [ha]
end NM
/-! S7: arranged, places, law_exchanged -/
namespace NM
open PySem DL
variable {th : List D} {O : D} {c : Nat → Nat → Cm}
/-- the place of k in a line -/
def posA (c : Nat → Nat → Cm) (k : Nat) (l : List Nat) : Nat → Nat
  | 0 => 0
  | a + 1 => if (c k (gd l a)).ca = true then posA c k l a else a + 1
theorem posA_le (c : Nat → Nat → Cm) (k : Nat) (l : List Nat) : ∀ a, posA c k l a ≤ a
  | 0 => Nat.le_refl _
  | a + 1 => by
    have := posA_le c k l a
    unfold posA
    split <;> omega
def insA (l : List Nat) (p k : Nat) : List Nat := l.take p ++ [k] ++ l.drop p
def arr (c : Nat → Nat → Cm) : Nat → List Nat
  | 0 => []
  | k + 1 => insA (arr c k) (posA c k (arr c k) k) k
theorem insA_len (l : List Nat) {p : Nat} (h : p ≤ l.length) (k : Nat) : (insA l p k).length = l.length + 1 := by
  unfold insA; simp; omega
theorem insA_mem (l : List Nat) (p k a : Nat) : a ∈ insA l p k ↔ a = k ∨ a ∈ l := by
  have : a ∈ l ↔ a ∈ l.take p ∨ a ∈ l.drop p := by rw [← List.mem_append, List.take_append_drop]
  unfold insA
  rw [List.mem_append, List.mem_append, this, List.mem_singleton]
  constructor
  · rintro ((h | h) | h)
    · exact .inr (.inl h)
    · exact .inl h
    · exact .inr (.inr h)
  · rintro (h | h | h)
    · exact .inl (.inr h)
    · exact .inl (.inl h)
    · exact .inr h
theorem arr_len (c : Nat → Nat → Cm) : ∀ k, (arr c k).length = k
  | 0 => rfl
  | k + 1 => by
    have := arr_len c k
    have hp := posA_le c k (arr c k) k
    unfold arr
    rw [insA_len _ (by omega), this]
theorem arr_lt (c : Nat → Nat → Cm) : ∀ k, ∀ a ∈ arr c k, a < k
  | 0, a, h => by cases h
  | k + 1, a, h => by
    unfold arr at h
    rw [insA_mem] at h
    rcases h with h | h
    · omega
    · have := arr_lt c k a h; omega
theorem whileD_step {t : Rho → Option Bool} {b : Rho → Option Out} {n : Nat} {ρ ρ1 : Rho} (h : t ρ = some true) (hb : b ρ = some (.nx ρ1)) : whileD t b (n + 1) ρ = whileD t b n ρ1 := by
  rw [whileD, h, Option.bind_some, if_pos rfl, hb]; rfl
theorem whileD_end {t : Rho → Option Bool} {b : Rho → Option Out} {n : Nat} {ρ : Rho} (h : t ρ = some false) : whileD t b (n + 1) ρ = some (.nx ρ) := by
  rw [whileD, h, Option.bind_some, if_neg (by decide)]
abbrev arrC : Rho → Option Bool := tAndF (fB (f2 gGt (fR 4) (fC (.int 0)))) (fB (f2 gEq (fCall F_law_held (fCons (fV 1) (fCons (f2 gIx (fR 0) (fR 3)) (fCons (f2 gIx (fR 0) (f2 gIx (fR 2) (f2 DL.gSub (fR 4) (fC (.int 1))))) fNil)))) (f1 gNeg (fC (.int 1)))))
abbrev arrB : Rho → Option Out := sSet 4 (f2 DL.gSub (fR 4) (fC (.int 1)))
theorem arr_while (S : Sit th O c) (k : Nat) (hk : k < th.length) (l : List Nat) (hl : ∀ a ∈ l, a < th.length) : ∀ (a n : Nat), a ≤ l.length → a < n → whileD arrC arrB n [some (.dat (.tuple th)), some (.dat O), some (.own (lN l)), some (.dat (nI k)), some (.dat (nI a))] = some (.nx [some (.dat (.tuple th)), some (.dat O), some (.own (lN l)), some (.dat (nI k)), some (.dat (nI (posA c k l a)))])
  | 0, n + 1, h1, h2 => whileD_end (by simp)
  | a + 1, n + 1, h1, h2 => by
    have e : ((a : Int) + 1 - 1) = (a : Int) := by omega
    have w := atI_tN (l := l) (k := a) (by omega)
    have g := getD_lt hl (k := a) (by omega)
    have ht : arrC [some (.dat (.tuple th)), some (.dat O), some (.own (lN l)), some (.dat (nI k)), some (.dat (nI (a + 1)))] = some ((c k (gd l a)).ca) := by
      simp
      rw [w]
      simp [atI_th hk, atI_th g, S.hld _ _ hk g]
    unfold posA
    cases hc : (c k (gd l a)).ca
    · rw [hc] at ht
      simp only [Bool.false_eq_true, if_false]
      exact whileD_end ht
    · rw [hc] at ht
      simp only [if_true]
      have hb : arrB [some (.dat (.tuple th)), some (.dat O), some (.own (lN l)), some (.dat (nI k)), some (.dat (nI (a + 1)))] = some (.nx [some (.dat (.tuple th)), some (.dat O), some (.own (lN l)), some (.dat (nI k)), some (.dat (nI a))]) := by
        simp [e]
      rw [whileD_step ht hb]
      exact arr_while S k hk l hl a n (by omega) (by omega)
theorem f_law_arranged (S : Sit th O c) : F_law_arranged [.tuple th, O] = some (tN (arr c th.length)) := by
  have n7 := S.n7
  rw [u_law_arranged]
  unfold B_law_arranged
  obtain ⟨ρ', e, x3, x4, rfl⟩ := loop_rng (n := th.length) (g := gN 3)
    (b := sSeq (sSet 4 (f1 gLen (fR 2))) (sSeq (sWhile 100 arrC arrB) (sIns 2 (fV 4) (fV 3))))
    (fun k ρ => ∃ x3 x4, ρ = [some (.dat (.tuple th)), some (.dat O), some (.own (lN (arr c k))), x3, x4]) (ρ := [some (.dat (.tuple th)), some (.dat O), some (.own []), none, none]) ⟨_, _, rfl⟩ (by
    rintro k hk ρ ⟨x3, x4, rfl⟩
    have hl := arr_len c k
    refine ⟨[some (.dat (.tuple th)), some (.dat O), some (.own (lN (arr c k))), some (.dat (nI k)), x4], [some (.dat (.tuple th)), some (.dat O), some (.own (lN (arr c (k + 1)))), some (.dat (nI k)), some (.dat (nI (posA c k (arr c k) k)))], rfl, ?_, ⟨_, _, rfl⟩⟩
    have h1 : (sSet 4 (f1 gLen (fR 2)) : Rho → Option Out) [some (.dat (.tuple th)), some (.dat O), some (.own (lN (arr c k))), some (.dat (nI k)), x4] = some (.nx [some (.dat (.tuple th)), some (.dat O), some (.own (lN (arr c k))), some (.dat (nI k)), some (.dat (nI k))]) := by simp [hl]
    rw [sSeq_nx h1]
    have hw := arr_while S k hk (arr c k) (fun a h => by have := arr_lt c k a h; omega) k 100 (by omega) (by omega)
    rw [sSeq_nx (g := sWhile 100 arrC arrB) hw]
    have hp := posA_le c k (arr c k) k
    have he : arr c (k + 1) = insA (arr c k) (posA c k (arr c k) k) k := rfl
    rw [he]
    generalize posA c k (arr c k) k = p at *
    generalize arr c k = l at *
    simp
    refine ⟨by omega, ?_⟩
    unfold insA
    simp)
  have h1 : (sSetF 2 (fLst fNil) : Rho → Option Out) [some (.dat (.tuple th)), some (.dat O), none, none, none] = some (.nx [some (.dat (.tuple th)), some (.dat O), some (.own []), none, none]) := by simp [lim_ok]
  rw [sSeq_nx h1]
  have h2 : (iR1 (f1 gLen (fR 0))) [some (.dat (.tuple th)), some (.dat O), some (.own []), none, none] = some (rangeD 0 th.length) := iR1_nat th.length rfl (by omega)
  rw [sSeq_nx ((sFor_eq h2).trans e)]
  simp
/-- a-1, a-2, .., p -/
def dwn (p : Nat) : Nat → List Nat
  | 0 => []
  | a + 1 => if p ≤ a then a :: dwn p a else []
def plc (c : Nat → Nat → Cm) : Nat → List Nat
  | 0 => []
  | k + 1 => plc c k ++ dwn (posA c k (arr c k) k) k
theorem dwn_len (p : Nat) : ∀ a, (dwn p a).length ≤ a
  | 0 => Nat.le_refl _
  | a + 1 => by
    unfold dwn
    split
    · simp; exact dwn_len p a
    · simp
theorem plc_len (c : Nat → Nat → Cm) : ∀ k, k ≤ 7 → (plc c k).length ≤ 7 * k
  | 0, _ => Nat.le_refl _
  | k + 1, h => by
    unfold plc
    have := plc_len c k (by omega)
    have := dwn_len (posA c k (arr c k) k) k
    simp; omega
theorem dwn_out {p a : Nat} (h : a ≤ p) : dwn p a = [] := by
  cases a with
  | zero => rfl
  | succ a => unfold dwn; rw [if_neg (by omega)]
abbrev plcC : Rho → Option Bool := tAndF (fB (f2 gGt (fR 5) (fC (.int 0)))) (fB (f2 gEq (fCall F_law_held (fCons (fV 1) (fCons (f2 gIx (fR 0) (fR 2)) (fCons (f2 gIx (fR 0) (f2 gIx (fR 3) (f2 DL.gSub (fR 5) (fC (.int 1))))) fNil)))) (f1 gNeg (fC (.int 1)))))
abbrev plcB : Rho → Option Out := sSeq (sSet 5 (f2 DL.gSub (fR 5) (fC (.int 1)))) (sApp 4 (fV 5))
theorem plc_while (S : Sit th O c) (k : Nat) (hk : k < th.length) (l : List Nat) (hl : ∀ a ∈ l, a < th.length) : ∀ (a n : Nat) (ps : List Nat), a ≤ l.length → a < n → ps.length + a ≤ 1000 → whileD plcC plcB n [some (.dat (.tuple th)), some (.dat O), some (.dat (nI k)), some (.own (lN l)), some (.own (lN ps)), some (.dat (nI a))] = some (.nx [some (.dat (.tuple th)), some (.dat O), some (.dat (nI k)), some (.own (lN l)), some (.own (lN (ps ++ dwn (posA c k l a) a))), some (.dat (nI (posA c k l a)))])
  | 0, n + 1, ps, h1, h2, h3 => by
    have := whileD_end (t := plcC) (b := plcB) (n := n) (ρ := [some (.dat (.tuple th)), some (.dat O), some (.dat (nI k)), some (.own (lN l)), some (.own (lN ps)), some (.dat (nI 0))]) (by simp)
    rw [this]
    simp [dwn, posA]
  | a + 1, n + 1, ps, h1, h2, h3 => by
    have e : ((a : Int) + 1 - 1) = (a : Int) := by omega
    have w := atI_tN (l := l) (k := a) (by omega)
    have g := getD_lt hl (k := a) (by omega)
    have ht : plcC [some (.dat (.tuple th)), some (.dat O), some (.dat (nI k)), some (.own (lN l)), some (.own (lN ps)), some (.dat (nI (a + 1)))] = some ((c k (gd l a)).ca) := by
      simp
      rw [w]
      simp [atI_th hk, atI_th g, S.hld _ _ hk g]
    have hle := posA_le c k l a
    cases hc : (c k (gd l a)).ca
    · rw [hc] at ht
      rw [whileD_end ht]
      have : posA c k l (a + 1) = a + 1 := by rw [posA, if_neg (by rw [hc]; decide)]
      rw [this, dwn_out (Nat.le_refl _)]
      simp
    · rw [hc] at ht
      have hb : plcB [some (.dat (.tuple th)), some (.dat O), some (.dat (nI k)), some (.own (lN l)), some (.own (lN ps)), some (.dat (nI (a + 1)))] = some (.nx [some (.dat (.tuple th)), some (.dat O), some (.dat (nI k)), some (.own (lN l)), some (.own (lN (ps ++ [a]))), some (.dat (nI a))]) := by
        simp [e]
        rw [lim_ok (by omega)]
      rw [whileD_step ht hb, plc_while S k hk l hl a n (ps ++ [a]) (by omega) (by omega) (by simp; omega)]
      have : posA c k l (a + 1) = posA c k l a := by rw [posA, if_pos (by rw [hc])]
      rw [this, dwn, if_pos hle]
      simp
theorem f_law_places (S : Sit th O c) : F_law_places [.tuple th, O] = some (tN (plc c th.length)) := by
  have n7 := S.n7
  rw [u_law_places]
  unfold B_law_places
  obtain ⟨ρ', e, x2, x5, rfl⟩ := loop_rng (n := th.length) (g := gN 2)
    (b := sSeq (sSet 5 (f1 gLen (fR 3))) (sSeq (sWhile 100 plcC plcB) (sIns 3 (fV 5) (fV 2))))
    (fun k ρ => ∃ x2 x5, ρ = [some (.dat (.tuple th)), some (.dat O), x2, some (.own (lN (arr c k))), some (.own (lN (plc c k))), x5]) (ρ := [some (.dat (.tuple th)), some (.dat O), none, some (.own []), some (.own []), none]) ⟨_, _, rfl⟩ (by
    rintro k hk ρ ⟨x2, x5, rfl⟩
    have hl := arr_len c k
    refine ⟨[some (.dat (.tuple th)), some (.dat O), some (.dat (nI k)), some (.own (lN (arr c k))), some (.own (lN (plc c k))), x5], [some (.dat (.tuple th)), some (.dat O), some (.dat (nI k)), some (.own (lN (arr c (k + 1)))), some (.own (lN (plc c (k + 1)))), some (.dat (nI (posA c k (arr c k) k)))], rfl, ?_, ⟨_, _, rfl⟩⟩
    have h1 : (sSet 5 (f1 gLen (fR 3)) : Rho → Option Out) [some (.dat (.tuple th)), some (.dat O), some (.dat (nI k)), some (.own (lN (arr c k))), some (.own (lN (plc c k))), x5] = some (.nx [some (.dat (.tuple th)), some (.dat O), some (.dat (nI k)), some (.own (lN (arr c k))), some (.own (lN (plc c k))), some (.dat (nI k))]) := by simp [hl]
    rw [sSeq_nx h1]
    have hpl := plc_len c k (by omega)
    have hw := plc_while S k hk (arr c k) (fun a h => by have := arr_lt c k a h; omega) k 100 (plc c k) (by omega) (by omega) (by omega)
    rw [sSeq_nx (g := sWhile 100 plcC plcB) hw]
    have hp := posA_le c k (arr c k) k
    have he : arr c (k + 1) = insA (arr c k) (posA c k (arr c k) k) k := rfl
    have he2 : plc c (k + 1) = plc c k ++ dwn (posA c k (arr c k) k) k := rfl
    rw [he, he2]
    generalize posA c k (arr c k) k = p at *
    generalize arr c k = l at *
    simp
    refine ⟨by omega, ?_⟩
    unfold insA
    simp)
  have h1 : (sPar2 3 4 (cF (fLst fNil)) (cF (fLst fNil)) : Rho → Option Out) [some (.dat (.tuple th)), some (.dat O), none, none, none, none] = some (.nx [some (.dat (.tuple th)), some (.dat O), none, some (.own []), some (.own []), none]) := by simp [lim_ok]
  rw [sSeq_nx h1]
  have h2 : (iR1 (f1 gLen (fR 0))) [some (.dat (.tuple th)), some (.dat O), none, some (.own []), some (.own []), none] = some (rangeD 0 th.length) := iR1_nat th.length rfl (by omega)
  rw [sSeq_nx ((sFor_eq h2).trans e)]
  simp
end NM
/-! S8: starts, piles -/
namespace NM
open PySem DL
variable {th : List D} {O : D} {c : Nat → Nat → Cm}
/-- each next to the one before -/
def Adj (r : Nat → Nat → Prop) : List Nat → Prop
  | a :: b :: l => r a b ∧ Adj r (b :: l)
  | _ => True
theorem adj_snoc {r : Nat → Nat → Prop} {s k : Nat} : ∀ {l : List Nat}, Adj r (l ++ [s]) → r s k → Adj r (l ++ [s] ++ [k])
  | [], _, h => ⟨h, trivial⟩
  | [a], h, h2 => ⟨h.1, h2, trivial⟩
  | a :: b :: l, h, h2 => ⟨h.1, adj_snoc (l := b :: l) h.2 h2⟩
def Stop (c : Nat → Nat → Cm) (s e : Nat) : Prop := s + 1 < e ∧ ∃ b, (∀ j, s ≤ j → j + 1 < e → (c (j + 1) j).ca = b) ∧ (c e (e - 1)).ca = !b
/-- what stands after k things: the starts, the way of the last stretch -/
def StI (c : Nat → Nat → Cm) (k : Nat) (l : List Nat) (fi : Option Bool) : Prop :=
  (k = 0 ∧ l = [] ∧ fi = none) ∨ (0 < k ∧ ∃ l' s, l = l' ++ [s] ∧ Adj (Stop c) l ∧ gd l 0 = 0 ∧ (∀ a ∈ l, a < k) ∧ (match fi with
    | none => s + 1 = k
    | some b => s + 1 < k ∧ ∀ j, s ≤ j → j + 1 < k → (c (j + 1) j).ca = b))
def fiD : Option Bool → D
  | none => .none
  | some b => .bool b
theorem gd_app {l : List Nat} (h : l ≠ []) (m : List Nat) : gd (l ++ m) 0 = gd l 0 := by
  cases l with
  | nil => exact absurd rfl h
  | cons a l => rfl
abbrev stB : Rho → Option Out := sIf (fB (f2 gIs (fR 4) (fC .none))) (sIf (tOrF (fB (f2 gEq (fR 2) (fC (.int 0)))) (fB (f2 gNe (f2 gIx (fR 3) (f1 gNeg (fC (.int 1)))) (f2 DL.gSub (fR 2) (fC (.int 1)))))) (sApp 3 (fV 2)) (sSet 4 (f2 gEq (fCall F_law_held (fCons (fV 1) (fCons (f2 gIx (fR 0) (fR 2)) (fCons (f2 gIx (fR 0) (f2 DL.gSub (fR 2) (fC (.int 1)))) fNil)))) (f1 gNeg (fC (.int 1)))))) (sIf (fB (f2 gNe (f2 gEq (fCall F_law_held (fCons (fV 1) (fCons (f2 gIx (fR 0) (fR 2)) (fCons (f2 gIx (fR 0) (f2 DL.gSub (fR 2) (fC (.int 1)))) fNil)))) (f1 gNeg (fC (.int 1)))) (fR 4))) (sSeq (sApp 3 (fV 2))
  (sSet 4 (fC .none))) sNx)
theorem st_step (S : Sit th O c) (k : Nat) (hk : k < th.length) (l : List Nat) (fi : Option Bool) (hI : StI c k l fi) (hl : l.length ≤ 100) : ∃ l' fi', StI c (k + 1) l' fi' ∧ l'.length ≤ l.length + 1 ∧ stB [some (.dat (.tuple th)), some (.dat O), some (.dat (nI k)), some (.own (lN l)), some (.dat (fiD fi))] = some (.nx [some (.dat (.tuple th)), some (.dat O), some (.dat (nI k)), some (.own (lN l')), some (.dat (fiD fi'))]) := by
  rcases hI with ⟨rfl, rfl, rfl⟩ | ⟨hk0, l', s, rfl, ha, hg, hlt, hfi⟩
  · refine ⟨[0], none, .inr ⟨by omega, [], 0, rfl, trivial, rfl, by simp, rfl⟩, by simp, ?_⟩
    simp [fiD, lim_ok]
  · have e1 : (k : Int) - 1 = ((k - 1 : Nat) : Int) := by omega
    have hk1 : k - 1 < th.length := by omega
    have hkn : ¬ k = 0 := by omega
    have hld := S.hld k (k - 1) hk hk1
    have w1 := atI_th hk
    have w2 := atI_th hk1
    cases fi with
    | none =>
      simp at hfi
      refine ⟨l' ++ [s], some (c k (k - 1)).ca, .inr ⟨by omega, l', s, rfl, ha, hg, fun a h => by have := hlt a h; omega, by omega, ?_⟩, by omega, ?_⟩
      · intro j h1 h2
        have : j = k - 1 := by omega
        subst this
        have : k - 1 + 1 = k := by omega
        rw [this]
      · have w3 : L2.atI (lN (l' ++ [s])) (-1) = some (nI s) := by
          simp only [lN, List.map_append, List.map_cons, List.map_nil]
          exact atI_last _ _
        have : (s : Int) = (k : Int) - 1 := by omega
        simp only [lN] at w3
        rw [← e1] at w2
        simp [fiD]
        simp at w3
        simp [w3, this, w1, w2, hld, hkn]
    | some b =>
      simp at hfi
      rw [← e1] at w2
      by_cases hc : (c k (k - 1)).ca = b
      · refine ⟨l' ++ [s], some b, .inr ⟨by omega, l', s, rfl, ha, hg, fun a h => by have := hlt a h; omega, by omega, ?_⟩, by omega, ?_⟩
        · intro j h1 h2
          by_cases hj : j + 1 < k
          · exact hfi.2 j h1 hj
          · have : j = k - 1 := by omega
            subst this
            have : k - 1 + 1 = k := by omega
            rw [this, hc]
        · simp [fiD, w1, w2, hld, hc]
      · refine ⟨l' ++ [s] ++ [k], none, .inr ⟨by omega, l' ++ [s], k, rfl, adj_snoc ha ⟨hfi.1, b, hfi.2, ?_⟩, ?_, ?_, rfl⟩, by simp, ?_⟩
        · cases b <;> cases h : (c k (k - 1)).ca <;> simp_all
        · rw [gd_app (by simp)]; exact hg
        · intro a h
          rcases List.mem_append.mp h with h | h
          · have := hlt a h; omega
          · have := List.mem_singleton.mp h; omega
        · simp at hl
          simp [fiD, w1, w2, hld, hc]
          rw [lim_ok (by omega)]
          simp
theorem f_law_starts (S : Sit th O c) : ∃ l fi, F_law_starts [.tuple th, O] = some (tN l) ∧ StI c th.length l fi ∧ l.length ≤ th.length := by
  have n7 := S.n7
  rw [u_law_starts]
  unfold B_law_starts
  obtain ⟨ρ', e, x2, l, fi, rfl, hI, hl⟩ := loop_rng (n := th.length) (g := gN 2) (b := stB)
    (fun k ρ => ∃ x2 l fi, ρ = [some (.dat (.tuple th)), some (.dat O), x2, some (.own (lN l)), some (.dat (fiD fi))] ∧ StI c k l fi ∧ l.length ≤ k) (ρ := [some (.dat (.tuple th)), some (.dat O), none, some (.own []), some (.dat .none)]) ⟨none, [], none, rfl, .inl ⟨rfl, rfl, rfl⟩, Nat.le_refl _⟩ (by
    rintro k hk ρ ⟨x2, l, fi, rfl, hI, hl⟩
    obtain ⟨l', fi', hI', hl', e⟩ := st_step S k hk l fi hI (by omega)
    exact ⟨_, _, rfl, e, _, l', fi', rfl, hI', by omega⟩)
  refine ⟨l, fi, ?_, hI, hl⟩
  have h1 : (sPar2 3 4 (cF (fLst fNil)) (cD (fC .none)) : Rho → Option Out) [some (.dat (.tuple th)), some (.dat O), none, none, none] = some (.nx [some (.dat (.tuple th)), some (.dat O), none, some (.own []), some (.dat .none)]) := by simp [lim_ok]
  rw [sSeq_nx h1]
  have h2 : (iR1 (f1 gLen (fR 0))) [some (.dat (.tuple th)), some (.dat O), none, some (.own []), some (.dat .none)] = some (rangeD 0 th.length) := iR1_nat th.length rfl (by omega)
  rw [sSeq_nx ((sFor_eq h2).trans e)]
  simp
end NM
/-! S9: piles -/
namespace NM
open PySem DL
variable {th : List D} {O : D} {c : Nat → Nat → Cm}
def la (f : List Nat) : Nat := gd f (f.length - 1)
theorem la_snoc (f : List Nat) (k : Nat) : la (f ++ [k]) = k := by unfold la gd; simp
theorem la_mem {f : List Nat} (h : f ≠ []) : la f ∈ f := by
  unfold la gd
  have : f.length - 1 < f.length := by have := List.length_pos_iff.mpr h; omega
  rw [List.getD_eq_getElem?_getD, List.getElem?_eq_getElem this]
  exact List.getElem_mem this
theorem atI_la {f : List Nat} (h : f ≠ []) : L2.atI (lN f) (-1) = some (nI (la f)) := by
  have e := List.dropLast_concat_getLast h
  rw [← e]
  simp only [lN, List.map_append, List.map_cons, List.map_nil]
  rw [atI_last, la_snoc]
abbrev lF (fs : List (List Nat)) : List D := fs.map tN
theorem atI_lF {fs : List (List Nat)} {k : Nat} (h : k < fs.length) : L2.atI (lF fs) (k : Int) = some (tN fs[k]) := by
  rw [atI_nat, List.getElem?_map, List.getElem?_eq_getElem h]; rfl
def pat (c : Nat → Nat → Cm) (k : Nat) (fs : List (List Nat)) : Nat := fs.findIdx fun f => (c k (la f)).ca
theorem pat_le (c : Nat → Nat → Cm) (k : Nat) (fs : List (List Nat)) : pat c k fs ≤ fs.length := List.findIdx_le_length
theorem pat_lt {k : Nat} {fs : List (List Nat)} {i : Nat} (hi : i < fs.length) (h : i < pat c k fs) : (c k (la fs[i])).ca = false := by
  have := List.not_of_lt_findIdx h
  simpa using this
theorem pat_at {k : Nat} {fs : List (List Nat)} (h : pat c k fs < fs.length) : (c k (la (fs[pat c k fs]'h))).ca = true := by
  exact List.findIdx_getElem (w := h)
abbrev plC : Rho → Option Bool := tAndF (fB (f2 gLt (fR 5) (f1 gLen (fR 3)))) (fB (f2 gNe (fCall F_law_held (fCons (fV 1) (fCons (f2 gIx (fR 0) (fR 2)) (fCons (f2 gIx (fR 0) (f2 gIx (f2 gIx (fR 3) (fR 5)) (f1 gNeg (fC (.int 1))))) fNil)))) (f1 gNeg (fC (.int 1)))))
abbrev plB : Rho → Option Out := sSet 5 (f2 gAdd (fR 5) (fC (.int 1)))
theorem pl_while (S : Sit th O c) (k : Nat) (hk : k < th.length) (fs : List (List Nat)) (hne : ∀ f ∈ fs, f ≠ []) (hl : ∀ f ∈ fs, ∀ a ∈ f, a < th.length) (x4 x6 x7 : Option Cell) : ∀ (m a n : Nat), a + m = pat c k fs → m < n → whileD plC plB n [some (.dat (.tuple th)), some (.dat O), some (.dat (nI k)), some (.own (lF fs)), x4, some (.dat (nI a)), x6, x7] = some (.nx [some (.dat (.tuple th)), some (.dat O), some (.dat (nI k)), some (.own (lF fs)), x4, some (.dat (nI (pat c k fs))), x6, x7])
  | 0, a, n + 1, h1, h2 => by
    have hle := pat_le c k fs
    have h1' : a = pat c k fs := by omega
    rw [h1']
    refine whileD_end ?_
    by_cases h : pat c k fs < fs.length
    · have hm := la_mem (hne _ (List.getElem_mem h))
      have w := atI_lF h
      have w2 := atI_la (hne _ (List.getElem_mem h))
      have g := hl _ (List.getElem_mem h) _ hm
      have hp := pat_at h
      simp [h, w, w2, atI_th hk, atI_th g, S.hld _ _ hk g]
      exact hp
    · simp [h]
  | m + 1, a, n + 1, h1, h2 => by
    have hle := pat_le c k fs
    have h : a < fs.length := by omega
    have hm := la_mem (hne _ (List.getElem_mem h))
    have w := atI_lF h
    have w2 := atI_la (hne _ (List.getElem_mem h))
    have g := hl _ (List.getElem_mem h) _ hm
    have hp := pat_lt (c := c) (k := k) (fs := fs) h (by omega)
    have ht : plC [some (.dat (.tuple th)), some (.dat O), some (.dat (nI k)), some (.own (lF fs)), x4, some (.dat (nI a)), x6, x7] = some true := by
      simp [h, w, w2, atI_th hk, atI_th g, S.hld _ _ hk g]
      exact hp
    have hb : plB [some (.dat (.tuple th)), some (.dat O), some (.dat (nI k)), some (.own (lF fs)), x4, some (.dat (nI a)), x6, x7] = some (.nx [some (.dat (.tuple th)), some (.dat O), some (.dat (nI k)), some (.own (lF fs)), x4, some (.dat (nI (a + 1))), x6, x7]) := by simp
    rw [whileD_step ht hb]
    exact pl_while S k hk fs hne hl x4 x6 x7 m (a + 1) n (by omega) (by omega)
def pnew (fs : List (List Nat)) (k p : Nat) : List (List Nat) := if h : p < fs.length then fs.set p (fs[p] ++ [k]) else fs ++ [[k]]
theorem pnew_flat (k : Nat) : ∀ (fs : List (List Nat)) (p : Nat), p ≤ fs.length → (pnew fs k p).flatten.Perm (k :: fs.flatten)
  | [], p, h => by unfold pnew; simp
  | f :: fs, 0, h => by
    unfold pnew
    simp
  | f :: fs, p + 1, h => by
    have ih := pnew_flat k fs p (by simpa using h)
    unfold pnew at ih ⊢
    by_cases hp : p < fs.length
    · rw [dif_pos hp] at ih
      rw [dif_pos (by simpa using hp)]
      exact (ih.append_left f).trans List.perm_middle
    · rw [dif_neg hp] at ih
      rw [dif_neg (by simpa using hp)]
      exact (ih.append_left f).trans List.perm_middle
theorem valI_same (kvs : List (Int × D)) (k : Int) (d : D) : valI (putI kvs k d) k = some d := by
  unfold putI
  split
  · rename_i h
    rw [List.any_eq_true] at h
    induction kvs with
    | nil => obtain ⟨x, hx, _⟩ := h; cases hx
    | cons a r ih =>
      by_cases ha : a.1 = k
      · simp [valI, ha]
      · obtain ⟨x, hx, hk⟩ := h
        have hxr : x ∈ r := by
          rcases List.mem_cons.mp hx with rfl | hx
          · simp [ha] at hk
          · exact hx
        have := ih ⟨x, hxr, hk⟩
        unfold valI at this ⊢
        simp [ha]
        simpa using this
  · rename_i h
    simp at h
    unfold valI
    rw [List.find?_append]
    have : kvs.find? (fun kv => decide (kv.1 = k)) = none := by
      rw [List.find?_eq_none]
      intro x hx hk
      have : x.1 = k := by simpa using hk
      subst this
      exact h x.2 hx
    simp [this]
theorem valI_diff (kvs : List (Int × D)) {k j : Int} (d : D) (hj : j ≠ k) : valI (putI kvs k d) j = valI kvs j := by
  unfold putI
  split
  · rename_i h
    clear h
    induction kvs with
    | nil => rfl
    | cons a r ih =>
      unfold valI at ih ⊢
      by_cases ha : a.1 = k
      · have : ¬ a.1 = j := fun e => hj (e.symm.trans ha)
        have h2 : ¬ k = j := fun e => hj e.symm
        simp [ha, h2]
        simpa using ih
      · by_cases haj : a.1 = j
        · simp [ha, haj, hj]
        · simp [ha, haj]
          simpa using ih
  · unfold valI
    rw [List.find?_append]
    have : ¬ k = j := fun e => hj e.symm
    simp [this]
theorem putI_len (kvs : List (Int × D)) (k : Int) (d : D) : (putI kvs k d).length ≤ kvs.length + 1 := by
  unfold putI
  split <;> simp
structure PI (c : Nat → Nat → Cm) (k : Nat) (fs : List (List Nat)) (kvs : List (Int × D)) : Prop where
  perm : fs.flatten.Perm (List.range k)
  good : ∀ f ∈ fs, f ≠ [] ∧ f.Pairwise fun a b => a < b ∧ c b a = .lt
  back : ∀ (i : Nat) (f : List Nat) (j : Nat), fs[i]? = some f → j ∈ f → ∃ v, valI kvs (j : Int) = some v ∧ ((i = 0 ∧ v = .none) ∨ ∃ i' g b, i = i' + 1 ∧ fs[i']? = some g ∧ b ∈ g ∧ v = nI b ∧ b < j ∧ (c j b).ca = false)
  len : fs.length ≤ k
  klen : kvs.length ≤ 2 * k
theorem PI.lt {k : Nat} {fs : List (List Nat)} {kvs : List (Int × D)} (h : PI c k fs kvs) : ∀ f ∈ fs, ∀ a ∈ f, a < k := fun f hf a ha => by
  have : a ∈ fs.flatten := List.mem_flatten.mpr ⟨f, hf, ha⟩
  exact List.mem_range.mp (h.perm.mem_iff.mp this)
def kvnew (fs : List (List Nat)) (kvs : List (Int × D)) (k p : Nat) : List (Int × D) := if h : 0 < p ∧ p ≤ fs.length then putI (putI kvs k .none) k (nI (la (fs[p - 1]'(by omega)))) else putI kvs k .none
theorem kvnew_diff (fs : List (List Nat)) (kvs : List (Int × D)) (k p : Nat) {j : Int} (hj : j ≠ k) : valI (kvnew fs kvs k p) j = valI kvs j := by
  unfold kvnew
  split
  · rw [valI_diff _ _ hj, valI_diff _ _ hj]
  · rw [valI_diff _ _ hj]
theorem pnew_get {fs : List (List Nat)} {k p i : Nat} {f : List Nat} (hp : p ≤ fs.length) (h : (pnew fs k p)[i]? = some f) : (i ≠ p ∧ fs[i]? = some f) ∨ (i = p ∧ ((∃ (hl : p < fs.length), f = fs[p] ++ [k]) ∨ (p = fs.length ∧ f = [k]))) := by
  unfold pnew at h
  split at h
  · rename_i hl
    by_cases e : p = i
    · subst e
      rw [List.getElem?_set_self hl] at h
      exact .inr ⟨rfl, .inl ⟨hl, (Option.some.inj h).symm⟩⟩
    · rw [List.getElem?_set_ne e] at h
      exact .inl ⟨fun z => e z.symm, h⟩
  · rename_i hl
    have hpl : p = fs.length := by omega
    by_cases e : i = p
    · subst e
      rw [hpl, List.getElem?_append_right (Nat.le_refl _)] at h
      simp at h
      exact .inr ⟨rfl, .inr ⟨hpl, h.symm⟩⟩
    · by_cases hi : i < fs.length
      · rw [List.getElem?_append_left hi] at h
        exact .inl ⟨e, h⟩
      · rw [List.getElem?_append_right (by omega)] at h
        have : i - fs.length ≠ 0 := by omega
        rw [List.getElem?_eq_none (by simp; omega)] at h
        cases h
theorem pnew_sup {fs : List (List Nat)} {k p i : Nat} {g : List Nat} (hp : p ≤ fs.length) (h : fs[i]? = some g) : ∃ g', (pnew fs k p)[i]? = some g' ∧ ∀ b ∈ g, b ∈ g' := by
  have hi : i < fs.length := (List.getElem?_eq_some_iff.mp h).1
  unfold pnew
  split
  · rename_i hl
    by_cases e : p = i
    · subst e
      rw [List.getElem?_eq_getElem hl] at h
      cases h
      exact ⟨_, List.getElem?_set_self hl, fun b hb => List.mem_append.mpr (.inl hb)⟩
    · exact ⟨g, by rw [List.getElem?_set_ne e]; exact h, fun _ z => z⟩
  · exact ⟨g, by rw [List.getElem?_append_left hi]; exact h, fun _ z => z⟩
theorem PI.step (S : Sit th O c) {k : Nat} {fs : List (List Nat)} {kvs : List (Int × D)} (h : PI c k fs kvs) : PI c (k + 1) (pnew fs k (pat c k fs)) (kvnew fs kvs k (pat c k fs)) := by
  have hle := pat_le c k fs
  refine ⟨?_, ?_, ?_, ?_, ?_⟩
  · rw [List.range_succ]
    exact ((pnew_flat k fs _ hle).trans (h.perm.cons k)).trans (List.perm_append_singleton k (List.range k)).symm
  · intro f hf
    obtain ⟨i, hi⟩ := List.getElem?_of_mem hf
    rcases pnew_get hle hi with ⟨_, hi⟩ | ⟨_, ⟨hl, rfl⟩ | ⟨_, rfl⟩⟩
    · exact h.good f (List.mem_of_getElem? hi)
    · have hg := h.good _ (List.getElem_mem hl)
      refine ⟨by simp, ?_⟩
      rw [List.pairwise_append]
      refine ⟨hg.2, List.pairwise_singleton _ _, fun a ha b hb => ?_⟩
      have := List.mem_singleton.mp hb
      subst this
      refine ⟨h.lt _ (List.getElem_mem hl) a ha, ?_⟩
      have hp := pat_at hl
      have hp : c b (la fs[pat c b fs]) = .lt := by simpa [Cm.ca] using hp
      obtain ⟨q, z, e⟩ : ∃ q z, fs[pat c b fs] = q ++ [z] := ⟨_, _, (List.dropLast_concat_getLast hg.1).symm⟩
      rw [e] at hp ha hg
      rw [la_snoc] at hp
      rcases List.mem_append.mp ha with ha | ha
      · exact S.ll b z a hp ((List.pairwise_append.mp hg.2).2.2 a ha z (List.mem_singleton.mpr rfl)).2
      · rw [List.mem_singleton.mp ha]; exact hp
    · exact ⟨by simp, List.pairwise_singleton _ _⟩
  · intro i f j hi hj
    by_cases hjk : j = k
    · subst hjk
      have hip : i = pat c j fs := by
        rcases pnew_get hle hi with ⟨_, hi⟩ | ⟨e, _⟩
        · have := h.lt _ (List.mem_of_getElem? hi) j hj
          omega
        · exact e
      by_cases hp : 0 < pat c j fs
      · have hl : pat c j fs - 1 < fs.length := by omega
        refine ⟨nI (la fs[pat c j fs - 1]), ?_, .inr ?_⟩
        · unfold kvnew
          rw [dif_pos ⟨hp, hle⟩, valI_same]
        · have hm := la_mem (h.good _ (List.getElem_mem hl)).1
          obtain ⟨g', e1, e2⟩ := pnew_sup (k := j) hle (List.getElem?_eq_getElem hl)
          exact ⟨pat c j fs - 1, g', la fs[pat c j fs - 1], by omega, e1, e2 _ hm, rfl, h.lt _ (List.getElem_mem hl) _ hm, pat_lt hl (by omega)⟩
      · refine ⟨.none, ?_, .inl ⟨by omega, rfl⟩⟩
        unfold kvnew
        rw [dif_neg (by omega), valI_same]
    · have hold : ∃ f', fs[i]? = some f' ∧ j ∈ f' := by
        rcases pnew_get hle hi with ⟨_, hi⟩ | ⟨e, ⟨hl, rfl⟩ | ⟨_, rfl⟩⟩
        · exact ⟨f, hi, hj⟩
        · refine ⟨fs[pat c k fs], by rw [e, List.getElem?_eq_getElem hl], ?_⟩
          rcases List.mem_append.mp hj with hj | hj
          · exact hj
          · exact absurd (List.mem_singleton.mp hj) hjk
        · exact absurd (List.mem_singleton.mp hj) hjk
      obtain ⟨f', h1, h2⟩ := hold
      obtain ⟨v, e1, e2⟩ := h.back i f' j h1 h2
      refine ⟨v, by rw [kvnew_diff _ _ _ _ (by omega)]; exact e1, ?_⟩
      rcases e2 with e2 | ⟨i', g, b, r1, r2, r3, r4, r5, r6⟩
      · exact .inl e2
      · obtain ⟨g', q1, q2⟩ := pnew_sup (k := k) hle r2
        exact .inr ⟨i', g', b, r1, q1, q2 b r3, r4, r5, r6⟩
  · have := h.len
    unfold pnew
    split <;> simp <;> omega
  · have := h.klen
    unfold kvnew
    split
    · have a1 := putI_len (putI kvs k .none) k (nI (la (fs[pat c k fs - 1]'(by omega))))
      have a2 := putI_len kvs k .none
      omega
    · have a2 := putI_len kvs k .none
      omega
end NM
/-! S10: law_piles -/
namespace NM
open PySem DL
variable {th : List D} {O : D} {c : Nat → Nat → Cm}
theorem atI_appLast {α : Type} (xs : List α) (a : α) : L2.atI (xs ++ [a]) (xs.length : Int) = some a := by
  rw [atI_nat, List.getElem?_append_right (Nat.le_refl _)]
  simp
theorem ixN_nat {n k : Nat} (h : k < n) : L2.ixN n (k : Int) = some k := by
  unfold L2.ixN
  rw [if_pos (by omega), if_pos (by omega)]
  simp
abbrev plBo : Rho → Option Out := sSeq (sSet 5 (fC (.int 0)))
  (sSeq (sWhile 100 plC plB)
  (sSeq (sPut 4 (fC .none) (fV 2))
  (sSeq (sIf (fB (f2 gGt (fR 5) (fC (.int 0)))) (sPut 4 (f2 gIx (f2 gIx (fR 3) (f2 DL.gSub (fR 5) (fC (.int 1)))) (f1 gNeg (fC (.int 1)))) (fV 2)) sNx)
  (sSeq (sIf (fB (f2 gEq (fR 5) (f1 gLen (fR 3)))) (sApp 3 (fTup fNil)) sNx)
  (sSetIx 3 (f2 gAdd (f2 gIx (fR 3) (fR 5)) (fTup (fCons (fV 2) fNil))) (fV 5))))))
theorem pl_put (k p : Nat) (fs : List (List Nat)) (kvs : List (Int × D)) (hp : p ≤ fs.length) (hne : ∀ f ∈ fs, f ≠ []) (hk : kvs.length ≤ 1000) (a0 a1 x6 x7 : Option Cell) :
    (sIf (fB (f2 gGt (fR 5) (fC (.int 0)))) (sPut 4 (f2 gIx (f2 gIx (fR 3) (f2 DL.gSub (fR 5) (fC (.int 1)))) (f1 gNeg (fC (.int 1)))) (fV 2)) sNx) [a0, a1, some (.dat (nI k)), some (.own (lF fs)), some (.dic (putI kvs k .none)), some (.dat (nI p)), x6, x7] = some (.nx [a0, a1, some (.dat (nI k)), some (.own (lF fs)), some (.dic (kvnew fs kvs k p)), some (.dat (nI p)), x6, x7]) := by
  by_cases h : 0 < p
  · have e : ((p : Int) - 1) = ((p - 1 : Nat) : Int) := by omega
    have hl : p - 1 < fs.length := by omega
    have w := atI_lF hl
    have w2 := atI_la (hne _ (List.getElem_mem hl))
    rw [← e] at w
    have := putI_len kvs (k : Int) .none
    unfold kvnew
    rw [dif_pos ⟨h, hp⟩]
    simp [h, w, w2]
    rw [lim_ok (by omega)]
  · unfold kvnew
    rw [dif_neg (by omega)]
    simp [h]
theorem pl_set (k p : Nat) (fs : List (List Nat)) (hp : p ≤ fs.length) (hl : fs.length ≤ 100) (hf : ∀ f ∈ fs, f.length ≤ 100) (a0 a1 x4 x6 x7 : Option Cell) :
    (sSeq (sIf (fB (f2 gEq (fR 5) (f1 gLen (fR 3)))) (sApp 3 (fTup fNil)) sNx) (sSetIx 3 (f2 gAdd (f2 gIx (fR 3) (fR 5)) (fTup (fCons (fV 2) fNil))) (fV 5))) [a0, a1, some (.dat (nI k)), some (.own (lF fs)), x4, some (.dat (nI p)), x6, x7] = some (.nx [a0, a1, some (.dat (nI k)), some (.own (lF (pnew fs k p))), x4, some (.dat (nI p)), x6, x7]) := by
  by_cases h : p < fs.length
  · have h1 : (sIf (fB (f2 gEq (fR 5) (f1 gLen (fR 3)))) (sApp 3 (fTup fNil)) sNx) [a0, a1, some (.dat (nI k)), some (.own (lF fs)), x4, some (.dat (nI p)), x6, x7] = some (.nx [a0, a1, some (.dat (nI k)), some (.own (lF fs)), x4, some (.dat (nI p)), x6, x7]) := by
      have : ¬ (p : Int) = (fs.length : Int) := by omega
      simp [this]
    rw [sSeq_nx h1]
    have w := atI_lF h
    have e := ixN_nat (n := fs.length) h
    have hfl := hf _ (List.getElem_mem h)
    unfold pnew
    rw [dif_pos h]
    simp [w, e]
    rw [lim_ok (by omega)]
    simp
    rw [lim_ok (by omega)]
    have w9 : tN (fs[p] ++ [k]) = .tuple (lN fs[p] ++ [nI k]) := by simp
    simp only [List.map_set, w9]
    simp
  · have hpe : p = fs.length := by omega
    subst hpe
    have h1 : (sIf (fB (f2 gEq (fR 5) (f1 gLen (fR 3)))) (sApp 3 (fTup fNil)) sNx) [a0, a1, some (.dat (nI k)), some (.own (lF fs)), x4, some (.dat (nI fs.length)), x6, x7] = some (.nx [a0, a1, some (.dat (nI k)), some (.own (lF fs ++ [.tuple []])), x4, some (.dat (nI fs.length)), x6, x7]) := by
      simp
      rw [lim_ok (by omega)]
      simp
      rw [lim_ok (by omega)]
    rw [sSeq_nx h1]
    have w := atI_appLast (lF fs) (.tuple [])
    simp at w
    have e := ixN_nat (n := fs.length + 1) (k := fs.length) (by omega)
    unfold pnew
    rw [dif_neg h]
    simp [w, e]
    rw [lim_ok (by omega)]
    simp
    rw [lim_ok (by omega)]
    simp
theorem pl_body (S : Sit th O c) (k : Nat) (hk : k < th.length) (fs : List (List Nat)) (kvs : List (Int × D)) (h : PI c k fs kvs) (x5 x6 x7 : Option Cell) : plBo [some (.dat (.tuple th)), some (.dat O), some (.dat (nI k)), some (.own (lF fs)), some (.dic kvs), x5, x6, x7] = some (.nx [some (.dat (.tuple th)), some (.dat O), some (.dat (nI k)), some (.own (lF (pnew fs k (pat c k fs)))), some (.dic (kvnew fs kvs k (pat c k fs))), some (.dat (nI (pat c k fs))), x6, x7]) := by
  have n7 := S.n7
  have hlen := h.len
  have hklen := h.klen
  have hle := pat_le c k fs
  have hfl : ∀ f ∈ fs, f.length ≤ 100 := fun f hf => by
    have h1 : f.length ≤ fs.flatten.length := (List.sublist_flatten_of_mem hf).length_le
    have := h.perm.length_eq
    rw [List.length_range] at this
    omega
  have h1 : (sSet 5 (fC (.int 0)) : Rho → Option Out) [some (.dat (.tuple th)), some (.dat O), some (.dat (nI k)), some (.own (lF fs)), some (.dic kvs), x5, x6, x7] = some (.nx [some (.dat (.tuple th)), some (.dat O), some (.dat (nI k)), some (.own (lF fs)), some (.dic kvs), some (.dat (nI 0)), x6, x7]) := by simp
  unfold plBo
  rw [sSeq_nx h1]
  have hw := pl_while S k hk fs (fun f hf => (h.good f hf).1) (fun f hf a ha => by have := h.lt f hf a ha; omega) (some (.dic kvs)) x6 x7 (pat c k fs) 0 100 (by omega) (by omega)
  rw [sSeq_nx (g := sWhile 100 plC plB) hw]
  have h3 : (sPut 4 (fC .none) (fV 2) : Rho → Option Out) [some (.dat (.tuple th)), some (.dat O), some (.dat (nI k)), some (.own (lF fs)), some (.dic kvs), some (.dat (nI (pat c k fs))), x6, x7] = some (.nx [some (.dat (.tuple th)), some (.dat O), some (.dat (nI k)), some (.own (lF fs)), some (.dic (putI kvs k .none)), some (.dat (nI (pat c k fs))), x6, x7]) := by
    simp
    rw [lim_ok (by omega)]
  rw [sSeq_nx h3]
  rw [sSeq_nx (pl_put k _ fs kvs hle (fun f hf => (h.good f hf).1) (by omega) _ _ _ _)]
  exact pl_set k _ fs hle (by omega) hfl _ _ _ _ _
abbrev trC : Rho → Option Bool := fB (f2 gIsNot (fR 7) (fC .none))
abbrev trB : Rho → Option Out := sPar2 6 7 (cD (f2 gAdd (fTup (fCons (fV 7) fNil)) (fR 6))) (cD (fGet 4 (fV 7)))
abbrev Up (c : Nat → Nat → Cm) (a b : Nat) : Prop := a < b ∧ (c b a).ca = false
theorem tr_while {K : Nat} {fs : List (List Nat)} {kvs : List (Int × D)} (h : PI c K fs kvs) (a0 a1 a2 a3 a5 : Option Cell) : ∀ (i j : Nat) (f : List Nat) (st : List Nat) (n : Nat), fs[i]? = some f → j ∈ f → Adj (Up c) (j :: st) → (∀ a ∈ st, a < K) → i + 1 < n → st.length + i ≤ 1000 →
    ∃ l, l.length = st.length + i + 1 ∧ Adj (Up c) l ∧ (∀ a ∈ l, a < K) ∧ whileD trC trB n [a0, a1, a2, a3, some (.dic kvs), a5, some (.dat (tN st)), some (.dat (nI j))] = some (.nx [a0, a1, a2, a3, some (.dic kvs), a5, some (.dat (tN l)), some (.dat .none)]) := by
  intro i
  induction i with
  | zero =>
    intro j f st n hi hj ha hlt hn hs
    obtain ⟨v, e1, e2⟩ := h.back 0 f j hi hj
    have hjK := h.lt f (List.mem_of_getElem? hi) j hj
    rcases e2 with ⟨_, rfl⟩ | ⟨i', g, b, r1, _⟩
    · obtain ⟨n, rfl⟩ : ∃ m, n = m + 2 := ⟨n - 2, by omega⟩
      refine ⟨j :: st, by simp, ha, ?_, ?_⟩
      · intro a h; rcases List.mem_cons.mp h with rfl | h
        · exact hjK
        · exact hlt a h
      · have hb : trB [a0, a1, a2, a3, some (.dic kvs), a5, some (.dat (tN st)), some (.dat (nI j))] = some (.nx [a0, a1, a2, a3, some (.dic kvs), a5, some (.dat (tN (j :: st))), some (.dat .none)]) := by
          simp [e1]
          rw [lim_ok (by omega)]
          simp
          rw [lim_ok (by omega)]
          simp
        rw [whileD_step (by simp) hb]
        exact whileD_end (by simp)
    · omega
  | succ i ih =>
    intro j f st n hi hj ha hlt hn hs
    obtain ⟨v, e1, e2⟩ := h.back (i + 1) f j hi hj
    have hjK := h.lt f (List.mem_of_getElem? hi) j hj
    rcases e2 with ⟨h0, _⟩ | ⟨i', g, b, r1, r2, r3, rfl, r5, r6⟩
    · omega
    · have : i' = i := by omega
      subst this
      obtain ⟨n, rfl⟩ : ∃ m, n = m + 1 := ⟨n - 1, by omega⟩
      obtain ⟨l, q1, q2, q3, q4⟩ := ih b g (j :: st) n r2 r3 ⟨⟨r5, r6⟩, ha⟩ (fun a h => by
        rcases List.mem_cons.mp h with rfl | h
        · exact hjK
        · exact hlt a h) (by omega) (by simp; omega)
      refine ⟨l, by simp at q1; omega, q2, q3, ?_⟩
      have hb : trB [a0, a1, a2, a3, some (.dic kvs), a5, some (.dat (tN st)), some (.dat (nI j))] = some (.nx [a0, a1, a2, a3, some (.dic kvs), a5, some (.dat (tN (j :: st))), some (.dat (nI b))]) := by
        simp [e1]
        rw [lim_ok (by omega)]
        simp
        rw [lim_ok (by omega)]
        simp
      rw [whileD_step (by simp) hb]
      exact q4
theorem gNe_lF0 (fs : List (List Nat)) : gNe (.list (lF fs)) (.list []) = some (.bool (!decide (fs = []))) := by
  have : ∀ fs : List (List Nat), PyData.canLayAll0 (lF fs) = true ∧ PyData.depthAll (lF fs) ≤ 1 := by
    intro fs
    induction fs with
    | nil => exact ⟨rfl, by decide⟩
    | cons f fs ih =>
      refine ⟨?_, ?_⟩
      · show (PyData.canLay0 (tN f) && PyData.canLayAll0 (lF fs)) = true
        rw [ih.1]
        show (PyData.canLayAll0 (lN f) && true) = true
        rw [shAll]; rfl
      · show max (PyData.depth (tN f)) (PyData.depthAll (lF fs)) ≤ 1
        have : PyData.depth (tN f) = 1 := by show PyData.depthAll (lN f) + 1 = 1; rw [dpAllN]
        have := ih.2
        omega
  have hs : SeqAt.shaped (.list (lF fs)) = true := by
    show (PyData.canLayAll0 (lF fs) && decide (PyData.depthAll (lF fs) + 1 ≤ 64)) = true
    obtain ⟨h1, h2⟩ := this fs
    have : PyData.depthAll (lF fs) + 1 ≤ 64 := by omega
    simp [h1, this]
  rw [gNe_ok hs rfl]
  cases fs <;> rfl
theorem f_law_piles (S : Sit th O c) : ∃ st fs kvs, F_law_piles [.tuple th, O] = some (.tuple [tN st, tF fs]) ∧ PI c th.length fs kvs ∧ st.length = fs.length ∧ Adj (Up c) st ∧ (∀ a ∈ st, a < th.length) := by
  have n7 := S.n7
  rw [u_law_piles]
  unfold B_law_piles
  obtain ⟨ρ', e, x2, x5, fs, kvs, rfl, hI⟩ := loop_rng (n := th.length) (g := gN 2) (b := plBo)
    (fun k ρ => ∃ x2 x5 fs kvs, ρ = [some (.dat (.tuple th)), some (.dat O), x2, some (.own (lF fs)), some (.dic kvs), x5, none, none] ∧ PI c k fs kvs) (ρ := [some (.dat (.tuple th)), some (.dat O), none, some (.own []), some (.dic []), none, none, none])
    ⟨none, none, [], [], rfl, ⟨.refl _, (fun f h => by cases h), (fun i f j h => by simp at h), Nat.le_refl _, Nat.le_refl _⟩⟩ (by
    rintro k hk ρ ⟨x2, x5, fs, kvs, rfl, hI⟩
    exact ⟨_, _, rfl, pl_body S k hk fs kvs hI _ _ _, _, _, _, _, rfl, hI.step S⟩)
  have h1 : (sPar2 3 4 (cF (fLst fNil)) cE : Rho → Option Out) [some (.dat (.tuple th)), some (.dat O), none, none, none, none, none, none] = some (.nx [some (.dat (.tuple th)), some (.dat O), none, some (.own []), some (.dic []), none, none, none]) := by simp [lim_ok]
  have h2 : (iR1 (f1 gLen (fR 0))) [some (.dat (.tuple th)), some (.dat O), none, some (.own []), some (.dic []), none, none, none] = some (rangeD 0 th.length) := iR1_nat th.length rfl (by omega)
  have h3 : (sAsg (fTup (fCons (fTup fNil) (fCons (fC .none) fNil))) (gT [6, 7])) [some (.dat (.tuple th)), some (.dat O), x2, some (.own (lF fs)), some (.dic kvs), x5, none, none] = some (.nx [some (.dat (.tuple th)), some (.dat O), x2, some (.own (lF fs)), some (.dic kvs), x5, some (.dat (tN [])), some (.dat .none)]) := by simp [lim_ok]
  rw [sSeq_nx h1, sSeq_nx ((sFor_eq h2).trans e), sSeq_nx h3]
  by_cases h0 : fs = []
  · subst h0
    refine ⟨[], [], kvs, ?_, hI, rfl, trivial, fun a h => by cases h⟩
    have h4 : (sIf (fB (f2 gNe (fR 3) (fL (fLst fNil)))) (sSet 7 (f2 gIx (f2 gIx (fR 3) (f1 gNeg (fC (.int 1)))) (f1 gNeg (fC (.int 1))))) sNx) [some (.dat (.tuple th)), some (.dat O), x2, some (.own (lF [])), some (.dic kvs), x5, some (.dat (tN [])), some (.dat .none)] = some (.nx [some (.dat (.tuple th)), some (.dat O), x2, some (.own (lF [])), some (.dic kvs), x5, some (.dat (tN [])), some (.dat .none)]) := by
      have := gNe_lF0 []
      simp at this
      simp [lim_ok, this]
    rw [sSeq_nx h4, sSeq_nx (g := sWhile 100 trC trB) (whileD_end (by simp))]
    simp [lim_ok]
  · have hlen := hI.len
    have hpos := List.length_pos_iff.mpr h0
    have hne : ∀ f ∈ fs, f ≠ [] := fun f hf => (hI.good f hf).1
    obtain ⟨gs, f, rfl⟩ : ∃ gs f, fs = gs ++ [f] := ⟨_, _, (List.dropLast_concat_getLast h0).symm⟩
    have hf : f ≠ [] := hne f (by simp)
    obtain ⟨l, q1, q2, q3, q4⟩ := tr_while hI (some (.dat (.tuple th))) (some (.dat O)) x2 (some (.own (lF (gs ++ [f])))) x5 gs.length (la f) f [] 100 (by simp) (la_mem hf) trivial (fun a h => by cases h) (by simp at hlen; omega) (by simp at hlen ⊢; omega)
    refine ⟨l, gs ++ [f], kvs, ?_, hI, by simp at q1 ⊢; omega, q2, q3⟩
    have h4 : (sIf (fB (f2 gNe (fR 3) (fL (fLst fNil)))) (sSet 7 (f2 gIx (f2 gIx (fR 3) (f1 gNeg (fC (.int 1)))) (f1 gNeg (fC (.int 1))))) sNx) [some (.dat (.tuple th)), some (.dat O), x2, some (.own (lF (gs ++ [f]))), some (.dic kvs), x5, some (.dat (tN [])), some (.dat .none)] = some (.nx [some (.dat (.tuple th)), some (.dat O), x2, some (.own (lF (gs ++ [f]))), some (.dic kvs), x5, some (.dat (tN [])), some (.dat (nI (la f)))]) := by
      have w1 := gNe_lF0 (gs ++ [f])
      have w2 := atI_last (lF gs) (tN f)
      have w3 := atI_la hf
      simp at w1 w2 w3
      simp [lim_ok, w1, w2, w3]
    rw [sSeq_nx h4, sSeq_nx (g := sWhile 100 trC trB) q4]
    simp [lim_ok]
end NM
/-! M1: lines that rise, the one arrangement, pairs in the wrong order -/
namespace NM
open PySem DL
variable {th : List D} {O : D} {c : Nat → Nat → Cm}
theorem gd_cons0 (a : Nat) (l : List Nat) : gd (a :: l) 0 = a := rfl
theorem gd_consS (a : Nat) (l : List Nat) (k : Nat) : gd (a :: l) (k + 1) = gd l k := rfl
theorem adj_all (q : Nat → Nat → Bool) : ∀ l : List Nat, ((List.range (l.length - 1)).all fun k => q (gd l k) (gd l (k + 1))) = true ↔ Adj (fun a b => q a b = true) l
  | [] => by simp [Adj]
  | [a] => by simp [Adj]
  | a :: b :: l => by
    have ih := adj_all q (b :: l)
    have e : (a :: b :: l).length - 1 = ((b :: l).length - 1) + 1 := by simp
    rw [e, List.range_succ_eq_map, List.all_cons, List.all_map, Bool.and_eq_true]
    show q a b = true ∧ _ ↔ q a b = true ∧ _
    rw [← ih]
    rfl
theorem adj_mono {r r' : Nat → Nat → Prop} (h : ∀ a b, r a b → r' a b) : ∀ {l : List Nat}, Adj r l → Adj r' l
  | [], _ => trivial
  | [_], _ => trivial
  | a :: b :: l, w => ⟨h a b w.1, adj_mono h w.2⟩
theorem adj_monoM {r r' : Nat → Nat → Prop} : ∀ {l : List Nat} (h : ∀ a b, a ∈ l → b ∈ l → r a b → r' a b), Adj r l → Adj r' l
  | [], _, _ => trivial
  | [_], _, _ => trivial
  | a :: b :: l, h, w => ⟨h a b (List.mem_cons_self ..) (List.mem_cons_of_mem _ (List.mem_cons_self ..)) w.1, adj_monoM (fun x y hx hy => h x y (List.mem_cons_of_mem _ hx) (List.mem_cons_of_mem _ hy)) w.2⟩
theorem adj_and {r r' : Nat → Nat → Prop} : ∀ {l : List Nat}, Adj r l → Adj r' l → Adj (fun a b => r a b ∧ r' a b) l
  | [], _, _ => trivial
  | [_], _, _ => trivial
  | a :: b :: l, w, v => ⟨⟨w.1, v.1⟩, adj_and w.2 v.2⟩
theorem adj_pw {r : Nat → Nat → Prop} (tr : ∀ a b d, r a b → r b d → r a d) : ∀ {l : List Nat}, Adj r l → l.Pairwise r
  | [], _ => List.Pairwise.nil
  | [a], _ => List.pairwise_singleton _ _
  | a :: b :: l, w => by
    have ih := adj_pw tr w.2
    refine List.pairwise_cons.mpr ⟨fun x hx => ?_, ih⟩
    rcases List.mem_cons.mp hx with rfl | hx
    · exact w.1
    · exact tr _ _ _ w.1 ((List.pairwise_cons.mp ih).1 x hx)
theorem pw_adj {r : Nat → Nat → Prop} : ∀ {l : List Nat}, l.Pairwise r → Adj r l
  | [], _ => trivial
  | [_], _ => trivial
  | a :: b :: l, w => by
    obtain ⟨h1, h2⟩ := List.pairwise_cons.mp w
    exact ⟨h1 b (List.mem_cons_self ..), pw_adj h2⟩
theorem growB_iff (l : List Nat) : growB l = true ↔ Adj (· < ·) l := by
  unfold growB
  rw [adj_all (fun a b => decide (a < b))]
  constructor <;> intro h <;> exact adj_mono (fun a b w => by simpa using w) h
theorem riseB_iff (l : List Nat) : riseB c l = true ↔ Adj (fun a b => (c a b).ra = true) l := adj_all (fun a b => (c a b).ra) l
theorem fallB_iff (l : List Nat) : fallB c l = true ↔ Adj (fun a b => (c b a).ca = true) l := adj_all (fun a b => (c b a).ca) l
theorem tieB_iff (l : List Nat) : tieB c l = true ↔ Adj (fun a b => (!(decide (b < a)) || (c a b).ca) = true) l := adj_all (fun a b => !(decide (b < a)) || (c a b).ca) l
theorem perm_range {n : Nat} {l : List Nat} (hn : l.Nodup) (hl : ∀ a ∈ l, a < n) (hlen : l.length = n) : l.Perm (List.range n) := by
  refine (List.perm_ext_iff_of_nodup hn List.nodup_range).mpr fun a => ⟨fun h => List.mem_range.mpr (hl a h), fun h => ?_⟩
  by_cases ha : a ∈ l
  · exact ha
  · have := List.Nodup.length_le_of_subset (l₁ := a :: l) (l₂ := List.range n) (List.nodup_cons.mpr ⟨ha, hn⟩) (fun x hx => by
      rcases List.mem_cons.mp hx with rfl | hx
      · exact h
      · exact List.mem_range.mpr (hl x hx))
    simp at this
    omega
theorem lineB_iff {n : Nat} {l : List Nat} : lineB n l = true ↔ l.Nodup ∧ ∀ a ∈ l, a < n := by
  unfold lineB; simp
theorem allofB_perm {n : Nat} {l : List Nat} (h : allofB n l = true) : l.Perm (List.range n) := by
  unfold allofB at h
  simp at h
  have := lineB_iff.mp h.1
  exact perm_range this.1 this.2 h.2
theorem perm_allofB {n : Nat} {l : List Nat} (h : l.Perm (List.range n)) : allofB n l = true := by
  unfold allofB
  have h1 : lineB n l = true := lineB_iff.mpr ⟨h.nodup_iff.mpr List.nodup_range, fun a ha => List.mem_range.mp (h.mem_iff.mp ha)⟩
  have h2 := h.length_eq
  simp at h2
  simp [h1, h2]
theorem ra_iff (q : Cm) : q.ra = true ↔ q = .lt ∨ q = .eq := by cases q <;> simp [Cm.ra]
theorem ca_iff (q : Cm) : q.ca = true ↔ q = .lt := by cases q <;> simp [Cm.ca]
theorem Sit.ra_trans (S : Sit th O c) (a b d : Nat) (h : (c a b).ra = true) (h2 : (c b d).ra = true) : (c a d).ra = true := by
  rw [ra_iff] at *
  rcases h with h | h <;> rcases h2 with h2 | h2
  · exact .inl (S.ll _ _ _ h h2)
  · exact .inl (S.le _ _ _ h h2)
  · exact .inl (S.el _ _ _ h h2)
  · exact .inr (S.ee _ _ _ h h2)
/-- comes before in the one arrangement -/
def Bf (c : Nat → Nat → Cm) (a b : Nat) : Prop := c a b = .lt ∨ (c a b = .eq ∧ a ≤ b)
theorem Sit.bf_trans (S : Sit th O c) (a b d : Nat) (h : Bf c a b) (h2 : Bf c b d) : Bf c a d := by
  rcases h with h | ⟨h, w⟩ <;> rcases h2 with h2 | ⟨h2, w2⟩
  · exact .inl (S.ll _ _ _ h h2)
  · exact .inl (S.le _ _ _ h h2)
  · exact .inl (S.el _ _ _ h h2)
  · exact .inr ⟨S.ee _ _ _ h h2, by omega⟩
theorem Sit.bf_anti (S : Sit th O c) (a b : Nat) (h : Bf c a b) (h2 : Bf c b a) : a = b := by
  have f := S.flip a b
  rcases h with h | ⟨h, w⟩ <;> rcases h2 with h2 | ⟨h2, w2⟩ <;> rw [h, h2] at f <;> first | (cases f; done) | omega
theorem heldB_iff {n : Nat} : heldB n c = true ↔ ∀ x y, x < y → y < n → c x y ≠ .no := by
  unfold heldB
  simp
  constructor
  · intro h x y h1 h2; exact h y h2 x h1
  · intro h y h1 x h2; exact h x y h2 h1
theorem Sit.held (S : Sit th O c) {n : Nat} (h : heldB n c = true) {x y : Nat} (hx : x < n) (hy : y < n) (hne : x ≠ y) : c x y ≠ .no := by
  rw [heldB_iff] at h
  rcases Nat.lt_or_gt_of_ne hne with q | q
  · exact h x y q hy
  · intro e
    have f := S.flip x y
    rw [e] at f
    exact h y x q hx f
theorem Sit.notca (S : Sit th O c) {n : Nat} (h : heldB n c = true) {x y : Nat} (hx : x < n) (hy : y < n) (hne : x ≠ y) (hc : (c x y).ca = false) : (c y x).ra = true := by
  have h1 := S.held h hx hy hne
  have f := S.flip x y
  rw [f]
  revert hc h1
  cases c x y <;> simp [Cm.ca, Cm.ra, Cm.flip]
theorem held_of_line (S : Sit th O c) {n : Nat} {l : List Nat} (h1 : allofB n l = true) (h2 : riseB c l = true) : heldB n c = true := by
  have hp := allofB_perm h1
  have hw := adj_pw (S.ra_trans) ((riseB_iff l).mp h2)
  have hs : l.Pairwise fun a b => c a b ≠ .no := hw.imp fun {a b} h => by
    rw [ra_iff] at h
    rcases h with h | h <;> rw [h] <;> decide
  have hr : (List.range n).Pairwise fun a b => c a b ≠ .no := hp.pairwise hs fun {x y} h e => h (by rw [S.flip y x, e]; rfl)
  rw [heldB_iff]
  intro x y hx hy
  have := List.pairwise_iff_getElem.mp hr x y (by simp; omega) (by simpa using hy) hx
  simpa using this
theorem posA_spec (k : Nat) (l : List Nat) : ∀ a, (∀ i, posA c k l a ≤ i → i < a → c k (gd l i) = .lt) ∧ (0 < posA c k l a → (c k (gd l (posA c k l a - 1))).ca = false)
  | 0 => ⟨fun i _ h => by omega, fun h => by simp [posA] at h⟩
  | a + 1 => by
    have ih := posA_spec k l a
    unfold posA
    split
    · rename_i h
      refine ⟨fun i h1 h2 => ?_, ih.2⟩
      by_cases e : i = a
      · rw [e]; exact (ca_iff _).mp h
      · exact ih.1 i h1 (by omega)
    · rename_i h
      exact ⟨fun i h1 h2 => by omega, fun _ => by simpa using h⟩
theorem insA_perm (l : List Nat) (p k : Nat) : (insA l p k).Perm (k :: l) := by
  unfold insA
  have := List.take_append_drop p l
  calc (l.take p ++ [k] ++ l.drop p).Perm (k :: (l.take p ++ l.drop p)) := by
        rw [List.append_assoc]; exact List.perm_middle
    _ = k :: l := by rw [this]
theorem arr_perm (c : Nat → Nat → Cm) : ∀ k, (arr c k).Perm (List.range k)
  | 0 => .refl _
  | k + 1 => by
    unfold arr
    rw [List.range_succ]
    exact ((insA_perm _ _ _).trans ((arr_perm c k).cons k)).trans (List.perm_append_singleton k (List.range k)).symm
theorem gd_get {l : List Nat} {i : Nat} (h : i < l.length) : gd l i = l[i] := by
  unfold gd
  rw [List.getD_eq_getElem?_getD, List.getElem?_eq_getElem h]; rfl
/-- what stands before k's place goes before it, what stands behind comes after -/
theorem arr_sides (S : Sit th O c) {n : Nat} (h : heldB n c = true) {k : Nat} (hk : k < n) (ih : (arr c k).Pairwise (Bf c)) :
    (∀ x ∈ (arr c k).take (posA c k (arr c k) k), Bf c x k) ∧ (∀ x ∈ (arr c k).drop (posA c k (arr c k) k), c k x = .lt) := by
  have hl := arr_len c k
  have hlt := arr_lt c k
  have hs := posA_spec (c := c) k (arr c k) k
  have hp := posA_le c k (arr c k) k
  generalize posA c k (arr c k) k = p at *
  generalize arr c k = l at *
  constructor
  · intro x hx
    obtain ⟨i, hi, rfl⟩ := List.mem_iff_getElem.mp hx
    simp at hi
    rw [List.getElem_take]
    have hy : p - 1 < l.length := by omega
    have h1 := hs.2 (by omega)
    rw [gd_get hy] at h1
    have hyk : l[p - 1] < k := hlt _ (List.getElem_mem hy)
    have hr := S.notca h hk (by omega) (by omega) h1
    have hb : Bf c l[p - 1] k := by
      rcases (ra_iff _).mp hr with hr | hr
      · exact .inl hr
      · exact .inr ⟨hr, by omega⟩
    by_cases e : i = p - 1
    · subst e; exact hb
    · exact S.bf_trans _ _ _ (List.pairwise_iff_getElem.mp ih i (p - 1) (by omega) hy (by omega)) hb
  · intro x hx
    obtain ⟨i, hi, rfl⟩ := List.mem_iff_getElem.mp hx
    simp at hi
    rw [List.getElem_drop]
    have := hs.1 (p + i) (by omega) (by omega)
    rw [gd_get (by omega)] at this
    exact this
theorem arr_pw (S : Sit th O c) {n : Nat} (h : heldB n c = true) : ∀ k, k ≤ n → (arr c k).Pairwise (Bf c)
  | 0, _ => List.Pairwise.nil
  | k + 1, hk => by
    have ih := arr_pw S h k (by omega)
    obtain ⟨h1, h2⟩ := arr_sides S h (by omega) ih
    have e : arr c (k + 1) = insA (arr c k) (posA c k (arr c k) k) k := rfl
    rw [e]
    unfold insA
    generalize posA c k (arr c k) k = p at *
    generalize arr c k = l at *
    have ih' := ih
    rw [← List.take_append_drop p l, List.pairwise_append] at ih
    rw [List.append_assoc, List.pairwise_append]
    refine ⟨ih.1, List.pairwise_cons.mpr ⟨fun x hx => .inl (h2 x hx), ih.2.1⟩, fun x hx y hy => ?_⟩
    rcases List.mem_cons.mp hy with rfl | hy
    · exact h1 x hx
    · exact ih.2.2 x hx y hy
theorem ordB_of_pw (S : Sit th O c) {n : Nat} {l : List Nat} (hp : l.Perm (List.range n)) (hw : l.Pairwise (Bf c)) : ordB n c l = true := by
  unfold ordB
  rw [perm_allofB hp]
  have h1 : riseB c l = true := (riseB_iff l).mpr (adj_mono (fun a b w => by
    rw [ra_iff]
    rcases w with w | ⟨w, _⟩
    · exact .inl w
    · exact .inr w) (pw_adj hw))
  have h2 : tieB c l = true := (tieB_iff l).mpr (adj_mono (fun a b w => by
    rcases w with w | ⟨_, w⟩
    · simp [w, Cm.ca]
    · have : ¬ b < a := by omega
      simp [this]) (pw_adj hw))
  rw [h1, h2]; rfl
theorem arr_ord (S : Sit th O c) {n : Nat} (h : heldB n c = true) : ordB n c (arr c n) = true := ordB_of_pw S (arr_perm c n) (arr_pw S h n (Nat.le_refl _))
theorem ordB_spec (S : Sit th O c) {n : Nat} {l : List Nat} (h : ordB n c l = true) : heldB n c = true ∧ l = arr c n := by
  unfold ordB at h
  simp at h
  obtain ⟨⟨h1, h2⟩, h3⟩ := h
  have hh := held_of_line S h1 h2
  refine ⟨hh, ?_⟩
  have hw : l.Pairwise (Bf c) := adj_pw S.bf_trans (adj_mono (fun a b w => by
    obtain ⟨w1, w2⟩ := w
    rcases (ra_iff _).mp w1 with w1 | w1
    · exact .inl w1
    · refine .inr ⟨w1, ?_⟩
      rw [w1] at w2
      simp [Cm.ca] at w2
      exact w2) (adj_and ((riseB_iff l).mp h2) ((tieB_iff l).mp h3)))
  exact List.Perm.eq_of_pairwise (fun a b _ _ x y => S.bf_anti a b x y) hw (arr_pw S hh n (Nat.le_refl _)) ((allofB_perm h1).trans (arr_perm c n).symm)
/-! pairs in the wrong order -/
def inv : List Nat → Nat
  | [] => 0
  | a :: l => l.countP (fun b => decide (b < a)) + inv l
def sw (l : List Nat) (p : Nat) : List Nat := (l.set p (gd l (p + 1))).set (p + 1) (gd l p)
theorem sw_spec : ∀ (l : List Nat) (p : Nat), p + 1 < l.length → gd l p < gd l (p + 1) → inv (sw l p) = inv l + 1 ∧ (sw l p).Perm l
  | a :: b :: l, 0, _, h => by
    have h : a < b := h
    have h' : ¬ b < a := by omega
    refine ⟨?_, .swap ..⟩
    show inv (b :: a :: l) = inv (a :: b :: l) + 1
    simp [inv, List.countP_cons, h, h']
    omega
  | a :: l, p + 1, hp, h => by
    obtain ⟨h1, h2⟩ := sw_spec l p (by simpa using hp) h
    have e : sw (a :: l) (p + 1) = a :: sw l p := rfl
    rw [e]
    refine ⟨?_, h2.cons a⟩
    simp only [inv]
    rw [h2.countP_eq, h1]
    omega
theorem exGo_inv {n : Nat} : ∀ (ps l m : List Nat), l.Nodup → l.length = n → exGo n l ps = some m → inv m = inv l + ps.length
  | [], l, m, _, _, h => by cases h; rfl
  | p :: ps, l, m, hn, hl, h => by
    unfold exGo at h
    split at h
    · rename_i hc
      have hne : gd l p ≠ gd l (p + 1) := by
        rw [gd_get (by omega), gd_get (by omega)]
        intro e
        exact List.pairwise_iff_getElem.mp (List.nodup_iff_pairwise_ne.mp hn) p (p + 1) (by omega) (by omega) (by omega) e
      obtain ⟨h1, h2⟩ := sw_spec l p (by omega) (by omega)
      have := exGo_inv ps (sw l p) m (h2.nodup_iff.mpr hn) (by rw [h2.length_eq, hl]) h
      rw [this, h1]
      simp; omega
    · cases h
theorem inv_sorted : ∀ {l : List Nat}, l.Pairwise (· < ·) → inv l = 0
  | [], _ => rfl
  | a :: l, h => by
    obtain ⟨h1, h2⟩ := List.pairwise_cons.mp h
    unfold inv
    rw [inv_sorted h2, List.countP_eq_zero.mpr (fun b hb => by have := h1 b hb; simp; omega)]
theorem inv_insA : ∀ (l : List Nat) (p k : Nat), (∀ x ∈ l, x < k) → p ≤ l.length → inv (insA l p k) = inv l + (l.length - p)
  | l, 0, k, h, _ => by
    have e : insA l 0 k = k :: l := by unfold insA; simp
    rw [e]
    unfold inv
    rw [List.countP_eq_length.mpr (fun b hb => by simpa using h b hb)]
    cases l <;> simp [inv] <;> omega
  | a :: l, p + 1, k, h, hp => by
    have ih := inv_insA l p k (fun x hx => h x (List.mem_cons_of_mem _ hx)) (by simpa using hp)
    have e : insA (a :: l) (p + 1) k = a :: insA l p k := by unfold insA; simp
    rw [e]
    simp only [inv]
    have hak := h a (List.mem_cons_self ..)
    have : ¬ k < a := by omega
    rw [ih, (insA_perm l p k).countP_eq, List.countP_cons]
    simp [this]
    omega
theorem inv_arr (S : Sit th O c) {n : Nat} (h : heldB n c = true) : ∀ k, k ≤ n → inv (arr c k) = wrS c k
  | 0, _ => rfl
  | k + 1, hk => by
    have ih := inv_arr S h k (by omega)
    have hw := arr_pw S h k (by omega)
    obtain ⟨h1, h2⟩ := arr_sides S h (by omega) hw
    have e : arr c (k + 1) = insA (arr c k) (posA c k (arr c k) k) k := rfl
    have hl := arr_len c k
    have hp := posA_le c k (arr c k) k
    have hc : ((List.range k).filter fun x => (c k x).ca).length = k - posA c k (arr c k) k := by
      rw [← List.countP_eq_length_filter, ← (arr_perm c k).countP_eq]
      generalize posA c k (arr c k) k = p at *
      generalize arr c k = l at *
      have e2 : l.countP (fun x => (c k x).ca) = (l.take p).countP (fun x => (c k x).ca) + (l.drop p).countP (fun x => (c k x).ca) := by
        rw [← List.countP_append, List.take_append_drop]
      rw [e2, List.countP_eq_zero.mpr (fun x hx => ?_), List.countP_eq_length.mpr (fun x hx => ?_)]
      · simp; omega
      · rw [h2 x hx]; rfl
      · have f := S.flip x k
        rcases h1 x hx with w | ⟨w, _⟩ <;> rw [f, w] <;> simp [Cm.flip, Cm.ca]
    unfold wrS
    rw [hc, e, inv_insA _ _ _ (arr_lt c k) (by omega), ih, hl]
theorem wrongB_spec (S : Sit th O c) {n how : Nat} {l ps : List Nat} (h : wrongB n c how l ps = true) : heldB n c = true ∧ l = arr c n ∧ ps.length = how ∧ how = wrS c n := by
  unfold wrongB at h
  simp at h
  obtain ⟨⟨h1, h2⟩, h3⟩ := h
  obtain ⟨hh, hl⟩ := ordB_spec S h1
  refine ⟨hh, hl, h2, ?_⟩
  have := exGo_inv ps (List.range n) l List.nodup_range (by simp) h3
  rw [hl, inv_arr S hh n (Nat.le_refl _), inv_sorted List.pairwise_lt_range] at this
  omega
theorem gd_mid (u : List Nat) (y : Nat) (w : List Nat) : gd (u ++ y :: w) u.length = y := by unfold gd; simp
theorem ex_dwn {n k p : Nat} {ps : List Nat} : ∀ (a : Nat) (u w : List Nat), u.length = a → p ≤ a → (∀ y ∈ u, y < k) → u.length + 1 + w.length = n → exGo n (u ++ k :: w) (dwn p a ++ ps) = exGo n (u.take p ++ k :: (u.drop p ++ w)) ps
  | 0, u, w, hu, hp, _, _ => by
    have : u = [] := List.length_eq_zero_iff.mp hu
    subst this
    simp [dwn]
  | a + 1, u, w, hu, hp, hlt, hn => by
    have hne : u ≠ [] := by intro e; rw [e] at hu; cases hu
    obtain ⟨v, y, rfl⟩ : ∃ v y, u = v ++ [y] := ⟨_, _, (List.dropLast_concat_getLast hne).symm⟩
    have hv : v.length = a := by simpa using hu
    by_cases h : p ≤ a
    · have hy : y < k := hlt y (by simp)
      have e1 : v ++ [y] ++ k :: w = v ++ y :: (k :: w) := by simp
      have e2 : v ++ y :: (k :: w) = (v ++ [y]) ++ k :: w := by simp
      have g1 : gd (v ++ y :: (k :: w)) a = y := by rw [← hv]; exact gd_mid _ _ _
      have g2 : gd (v ++ y :: (k :: w)) (a + 1) = k := by
        have := gd_mid (v ++ [y]) k w
        rw [← e2] at this
        simpa [hv] using this
      have hlen : (v ++ [y]).length + 1 + w.length = n := hn
      simp at hlen
      rw [dwn, if_pos h, List.cons_append, e1, exGo, g1, g2, if_pos ⟨by omega, by omega⟩]
      have e3 : ((v ++ y :: k :: w).set a k).set (a + 1) y = v ++ k :: (y :: w) := by
        subst hv
        simp
      rw [e3, ex_dwn a v (y :: w) hv h (fun z hz => hlt z (by simp [hz])) (by simp; omega)]
      have e4 : (v ++ [y]).take p = v.take p := List.take_append_of_le_length (by omega)
      have e5 : (v ++ [y]).drop p = v.drop p ++ [y] := List.drop_append_of_le_length (by omega)
      rw [e4, e5]
      simp
    · have : p = a + 1 := by omega
      subst this
      rw [dwn, if_neg (by omega)]
      have e4 : (v ++ [y]).take (a + 1) = v ++ [y] := List.take_of_length_le (by omega)
      have e5 : (v ++ [y]).drop (a + 1) = [] := List.drop_of_length_le (by omega)
      rw [e4, e5]
      simp
theorem ex_plc (c : Nat → Nat → Cm) (n : Nat) : ∀ (k : Nat) (ps : List Nat), k ≤ n → exGo n (List.range n) (plc c k ++ ps) = exGo n (arr c k ++ List.range' k (n - k)) ps
  | 0, ps, _ => by simp [plc, arr, List.range_eq_range']
  | k + 1, ps, hk => by
    have hl := arr_len c k
    have hp := posA_le c k (arr c k) k
    have e : plc c (k + 1) = plc c k ++ dwn (posA c k (arr c k) k) k := rfl
    have e2 : arr c (k + 1) = insA (arr c k) (posA c k (arr c k) k) k := rfl
    rw [e, e2, List.append_assoc, ex_plc c n k _ (by omega)]
    have e3 : n - k = (n - (k + 1)) + 1 := by omega
    rw [e3, List.range'_succ]
    rw [ex_dwn k (arr c k) _ hl hp (arr_lt c k) (by simp; omega)]
    unfold insA
    simp
theorem plc_wrong (S : Sit th O c) {n : Nat} (h : heldB n c = true) : wrongB n c (plc c n).length (arr c n) (plc c n) = true := by
  unfold wrongB
  rw [arr_ord S h]
  have := ex_plc c n n [] (Nat.le_refl _)
  rw [List.append_nil, Nat.sub_self] at this
  simp [exGo] at this
  simp [this]
end NM
/-! M2: what stays, falls -/
namespace NM
open PySem DL
variable {th : List D} {O : D} {c : Nat → Nat → Cm}
/-- the longest that ends at y -/
def mst (c : Nat → Nat → Cm) (y : Nat) : Nat := gd (msL c (y + 1)) y
theorem gd_appl {l m : List Nat} {k : Nat} (h : k < l.length) : gd (l ++ m) k = gd l k := by
  unfold gd
  rw [List.getD_eq_getElem?_getD, List.getD_eq_getElem?_getD, List.getElem?_append_left h]
theorem gd_ms (c : Nat → Nat → Cm) {y : Nat} : ∀ {k : Nat}, y < k → gd (msL c k) y = mst c y
  | k + 1, h => by
    by_cases e : y = k
    · subst e; rfl
    · have hl := msL_len c k
      rw [msL, gd_appl (by omega)]
      exact gd_ms c (by omega)
theorem mst_eq (c : Nat → Nat → Cm) (y : Nat) : mst c y = 1 + mx (((List.range y).filter fun x => (c x y).ra).map fun x => mst c x) := by
  have hl := msL_len c y
  unfold mst
  rw [msL]
  have : gd (msL c y ++ [1 + mx (((List.range y).filter fun x => (c x y).ra).map fun x => gd (msL c y) x)]) y = 1 + mx (((List.range y).filter fun x => (c x y).ra).map fun x => gd (msL c y) x) := by
    have := gd_mid (msL c y) (1 + mx (((List.range y).filter fun x => (c x y).ra).map fun x => gd (msL c y) x)) []
    rw [hl] at this
    exact this
  rw [this]
  congr 2
  apply List.map_congr_left
  intro x hx
  have := (List.mem_filter.mp hx).1
  exact gd_ms c (List.mem_range.mp this)
abbrev Ch (c : Nat → Nat → Cm) (a b : Nat) : Prop := a < b ∧ (c a b).ra = true
theorem adj_prefix {r : Nat → Nat → Prop} : ∀ {l m : List Nat}, Adj r (l ++ m) → Adj r l
  | [], _, _ => trivial
  | [_], _, _ => trivial
  | a :: b :: l, m, h => ⟨h.1, adj_prefix (l := b :: l) h.2⟩
theorem adj_last2 {r : Nat → Nat → Prop} : ∀ {l : List Nat} {x y : Nat}, Adj r (l ++ [x] ++ [y]) → r x y
  | [], _, _, h => h.1
  | [a], _, _, h => h.2.1
  | a :: b :: l, _, _, h => adj_last2 (l := b :: l) h.2
theorem chain_le (c : Nat → Nat → Cm) : ∀ (n : Nat) (l : List Nat) (y : Nat), l.length = n → Adj (Ch c) (l ++ [y]) → l.length + 1 ≤ mst c y
  | 0, l, y, h, _ => by rw [mst_eq, h]; omega
  | n + 1, l, y, h, ha => by
    have hne : l ≠ [] := by intro e; rw [e] at h; cases h
    obtain ⟨v, x, rfl⟩ : ∃ v x, l = v ++ [x] := ⟨_, _, (List.dropLast_concat_getLast hne).symm⟩
    have ih := chain_le c n v x (by simpa using h) (adj_prefix ha)
    obtain ⟨h1, h2⟩ := adj_last2 ha
    have hm : mst c x ≤ mx (((List.range y).filter fun x => (c x y).ra).map fun x => mst c x) := mx_ge _ (List.mem_map.mpr ⟨x, List.mem_filter.mpr ⟨List.mem_range.mpr h1, h2⟩, rfl⟩)
    rw [mst_eq c y]
    simp at h ⊢
    omega
theorem chain_ex (c : Nat → Nat → Cm) : ∀ (n y : Nat), y < n → ∃ l, l.length + 1 = mst c y ∧ Adj (Ch c) (l ++ [y]) ∧ ∀ a ∈ l ++ [y], a ≤ y
  | n + 1, y, hy => by
    rcases mx_mem (((List.range y).filter fun x => (c x y).ra).map fun x => mst c x) with h | h
    · refine ⟨[], ?_, trivial, by simp⟩
      rw [mst_eq, h]; rfl
    · obtain ⟨x, hx, e⟩ := List.mem_map.mp h
      obtain ⟨h1, h2⟩ := List.mem_filter.mp hx
      have h1 := List.mem_range.mp h1
      obtain ⟨l, q1, q2, q3⟩ := chain_ex c n x (by omega)
      refine ⟨l ++ [x], ?_, adj_snoc q2 ⟨h1, h2⟩, fun a ha => ?_⟩
      · rw [mst_eq c y, ← e, ← q1]
        simp; omega
      · rcases List.mem_append.mp ha with ha | ha
        · have := q3 a ha; omega
        · have := List.mem_singleton.mp ha; omega
theorem msL_mem (c : Nat → Nat → Cm) {n a : Nat} (h : a ∈ msL c n) : ∃ y, y < n ∧ a = mst c y := by
  have hl := msL_len c n
  obtain ⟨i, hi, rfl⟩ := List.mem_iff_getElem.mp h
  refine ⟨i, by omega, ?_⟩
  rw [← gd_ms c (k := n) (by omega), gd_get hi]
theorem mem_msL (c : Nat → Nat → Cm) {n y : Nat} (h : y < n) : mst c y ∈ msL c n := by
  have hl := msL_len c n
  rw [← gd_ms c h, gd_get (by omega)]
  exact List.getElem_mem _
/-- a fall: grows, each before the one before -/
abbrev Fa (c : Nat → Nat → Cm) (a b : Nat) : Prop := a < b ∧ c b a = .lt
theorem fallsB_spec (S : Sit th O c) {n : Nat} {f : List Nat} (h : fallsB n c f = true) : f.Pairwise (Fa c) := by
  unfold fallsB at h
  simp at h
  obtain ⟨⟨⟨_, _⟩, h3⟩, h4⟩ := h
  have w := adj_and ((growB_iff f).mp h3) ((fallB_iff f).mp h4)
  refine adj_pw (fun a b d x y => ⟨by omega, S.ll _ _ _ y.2 x.2⟩) (adj_mono (fun a b v => ⟨v.1, (ca_iff _).mp v.2⟩) w)
theorem pigeon (S : Sit th O c) {n : Nat} {ch : List Nat} {fs : List (List Nat)} (hc : ch.Pairwise (Ch c)) (hn : ∀ a ∈ ch, a < n) (hf : ∀ f ∈ fs, f.Pairwise (Fa c)) (hp : fs.flatten.Perm (List.range n)) : ch.length ≤ fs.length := by
  have hex : ∀ a, a < n → fs.findIdx (fun f => decide (a ∈ f)) < fs.length := fun a ha => by
    have : a ∈ fs.flatten := hp.mem_iff.mpr (List.mem_range.mpr ha)
    obtain ⟨f, h1, h2⟩ := List.mem_flatten.mp this
    exact List.findIdx_lt_length_of_exists ⟨f, h1, by simpa using h2⟩
  have hnd : (ch.map fun a => fs.findIdx (fun f => decide (a ∈ f))).Nodup := by
    rw [List.nodup_iff_pairwise_ne, List.pairwise_map]
    have hc' : ch.Pairwise fun a b => (a < n ∧ b < n) ∧ Ch c a b := by
      rw [List.pairwise_iff_getElem] at hc ⊢
      intro i j hi hj hij
      exact ⟨⟨hn _ (List.getElem_mem hi), hn _ (List.getElem_mem hj)⟩, hc i j hi hj hij⟩
    refine hc'.imp fun {a b} w e => ?_
    obtain ⟨⟨ha, hb⟩, hab, hr⟩ := w
    have ia := hex a ha
    have ib := hex b hb
    have ma := List.findIdx_getElem (w := ia)
    have mb := List.findIdx_getElem (w := ib)
    simp at ma mb
    have mb' : b ∈ fs[fs.findIdx (fun f => decide (a ∈ f))] := by
      have : fs[fs.findIdx (fun f => decide (a ∈ f))]'ia = fs[fs.findIdx (fun f => decide (b ∈ f))]'ib := by congr 1
      rw [this]; exact mb
    have hw := hf _ (List.getElem_mem ia)
    have : c b a = .lt := by
      obtain ⟨i, hi, e1⟩ := List.mem_iff_getElem.mp ma
      obtain ⟨j, hj, e2⟩ := List.mem_iff_getElem.mp mb'
      rcases Nat.lt_trichotomy i j with h | h | h
      · have := List.pairwise_iff_getElem.mp hw i j hi hj h
        rw [e1, e2] at this
        exact this.2
      · subst h
        rw [e1] at e2
        omega
      · have := List.pairwise_iff_getElem.mp hw j i hj hi h
        rw [e1, e2] at this
        omega
    have f := S.flip b a
    rw [this] at f
    rw [f] at hr
    simp [Cm.flip, Cm.ra] at hr
  have := List.Nodup.length_le_of_subset hnd (l₂ := List.range fs.length) (fun x hx => by
    obtain ⟨a, ha, rfl⟩ := List.mem_map.mp hx
    exact List.mem_range.mpr (hex a (hn a ha)))
  simpa using this
theorem ch_trans (S : Sit th O c) (a b d : Nat) (h : Ch c a b) (h2 : Ch c b d) : Ch c a d := ⟨by omega, S.ra_trans _ _ _ h.2 h2.2⟩
theorem staysB_spec (S : Sit th O c) {n how : Nat} {l : List Nat} {fs : List (List Nat)} (h : staysB n c how l fs = true) : how = mx (msL c n) := by
  unfold staysB at h
  rw [Bool.and_eq_true, Bool.and_eq_true, Bool.and_eq_true, Bool.and_eq_true, Bool.and_eq_true, Bool.and_eq_true] at h
  obtain ⟨⟨⟨⟨⟨⟨h1, h2⟩, h3⟩, h4⟩, h5⟩, h6⟩, h7⟩ := h
  have h5 := of_decide_eq_true h5
  have h6 := of_decide_eq_true h6
  have h7 := of_decide_eq_true h7
  have hf : ∀ f ∈ fs, f.Pairwise (Fa c) := fun f m => fallsB_spec S (List.all_eq_true.mp h4 f m)
  have hp : fs.flatten.Perm (List.range n) := by
    have := nsort_perm fs.flatten
    rw [h5] at this
    exact this.symm
  have hc : Adj (Ch c) l := adj_and ((growB_iff l).mp h2) ((riseB_iff l).mp h3)
  have hlt := (lineB_iff.mp h1).2
  have up : l.length ≤ mx (msL c n) := by
    by_cases e : l = []
    · rw [e]; exact Nat.zero_le _
    · obtain ⟨v, y, rfl⟩ : ∃ v y, l = v ++ [y] := ⟨_, _, (List.dropLast_concat_getLast e).symm⟩
      have := chain_le c v.length v y rfl hc
      have := mx_ge _ (mem_msL c (hlt y (by simp)))
      simp; omega
  have dn : mx (msL c n) ≤ fs.length := by
    rcases mx_mem (msL c n) with e | e
    · rw [e]; exact Nat.zero_le _
    · obtain ⟨y, hy, e⟩ := msL_mem c e
      obtain ⟨v, q1, q2, q3⟩ := chain_ex c (y + 1) y (by omega)
      have := pigeon S (adj_pw (ch_trans S) q2) (fun a ha => by have := q3 a ha; omega) hf hp
      simp at this
      omega
  omega
theorem piles_stays (S : Sit th O c) {n : Nat} (h : heldB n c = true) {st : List Nat} {fs : List (List Nat)} {kvs : List (Int × D)} (hI : PI c n fs kvs) (hl : st.length = fs.length) (ha : Adj (Up c) st) (hlt : ∀ a ∈ st, a < n) : staysB n c fs.length st fs = true := by
  unfold staysB
  have hg : Adj (· < ·) st := adj_mono (fun a b w => w.1) ha
  have hnd : ∀ {l : List Nat}, l.Pairwise (· < ·) → l.Nodup := fun w => List.nodup_iff_pairwise_ne.mpr (w.imp fun {a b} v => by omega)
  have hr : Adj (fun a b => (c a b).ra = true) st := adj_monoM (fun a b ma mb w => S.notca h (hlt b mb) (hlt a ma) (by have := w.1; omega) w.2) ha
  have h1 : lineB n st = true := lineB_iff.mpr ⟨hnd (adj_pw (r := (· < ·)) (fun a b d x y => Nat.lt_trans x y) hg), hlt⟩
  have h4 : fs.all (fallsB n c) = true := List.all_eq_true.mpr fun f m => by
    obtain ⟨g1, g2⟩ := hI.good f m
    have k1 : lineB n f = true := lineB_iff.mpr ⟨hnd (g2.imp fun v => v.1), hI.lt f m⟩
    have k2 : growB f = true := (growB_iff f).mpr (adj_mono (fun a b w => w.1) (pw_adj g2))
    have k3 : fallB c f = true := (fallB_iff f).mpr (adj_mono (fun a b w => (ca_iff _).mpr w.2) (pw_adj g2))
    unfold fallsB
    simp [k1, k2, k3, g1]
  have h5 : nsort fs.flatten = List.range n := List.Perm.eq_of_pairwise (le := (· ≤ ·)) (fun a b _ _ x y => Nat.le_antisymm x y) (nsort_sorted _) (List.pairwise_lt_range.imp fun w => Nat.le_of_lt w) ((nsort_perm _).trans hI.perm)
  rw [h1, (growB_iff st).mpr hg, (riseB_iff st).mpr hr, h4, h5, hl]
  simp
end NM
/-! M3: runs -/
namespace NM
open PySem DL
variable {th : List D} {O : D} {c : Nat → Nat → Cm}
def Run (c : Nat → Nat → Cm) (s e : Nat) : Prop := (∀ j, s ≤ j → j + 1 < e → (c j (j + 1)).ra = true) ∨ (∀ j, s ≤ j → j + 1 < e → (c (j + 1) j).ca = true)
theorem Run.sub {s e s' e' : Nat} (h : Run c s e) (h1 : s ≤ s') (h2 : e' ≤ e) : Run c s' e' := by
  rcases h with h | h
  · exact .inl fun j a b => h j (by omega) (by omega)
  · exact .inr fun j a b => h j (by omega) (by omega)
theorem gd_range' {s m k : Nat} (h : k < m) : gd (List.range' s m) k = s + k := by
  rw [gd_get (by simpa using h), List.getElem_range']
  omega
theorem rise_range (s e : Nat) (q : Nat → Nat → Bool) : ((List.range ((List.range' s (e - s)).length - 1)).all fun k => q (gd (List.range' s (e - s)) k) (gd (List.range' s (e - s)) (k + 1))) = true ↔ ∀ j, s ≤ j → j + 1 < e → q j (j + 1) = true := by
  rw [List.all_eq_true]
  simp only [List.mem_range, List.length_range']
  constructor
  · intro h j h1 h2
    have := h (j - s) (by omega)
    rw [gd_range' (by omega), gd_range' (by omega)] at this
    have e1 : s + (j - s) = j := by omega
    have e2 : s + (j - s + 1) = j + 1 := by omega
    rw [e1, e2] at this
    exact this
  · intro h k hk
    rw [gd_range' (by omega), gd_range' (by omega)]
    exact h (s + k) (by omega) (by omega)
theorem runB_iff (s e : Nat) : runB c s e = true ↔ Run c s e := by
  unfold runB riseB fallB Run
  rw [Bool.or_eq_true, rise_range s e (fun a b => (c a b).ra), rise_range s e (fun a b => (c b a).ca)]
theorem gt_iff (S : Sit th O c) (a b : Nat) : c a b = .gt ↔ (c b a).ca = true := by
  rw [S.flip a b]
  cases c a b <;> simp [Cm.flip, Cm.ca]
theorem runC_iff (S : Sit th O c) (s e : Nat) : runC c s e = true ↔ Run c s e := by
  unfold runC Run
  rw [Bool.or_eq_true, List.all_eq_true, List.all_eq_true]
  constructor
  · rintro (h | h)
    · exact .inl fun j h1 h2 => h j (by rw [List.mem_range'_1]; omega)
    · exact .inr fun j h1 h2 => (gt_iff S _ _).mp (of_decide_eq_true (h j (by rw [List.mem_range'_1]; omega)))
  · rintro (h | h)
    · refine .inl fun j hj => ?_
      rw [List.mem_range'_1] at hj
      exact h j (by omega) (by omega)
    · refine .inr fun j hj => ?_
      rw [List.mem_range'_1] at hj
      exact decide_eq_true ((gt_iff S _ _).mpr (h j (by omega) (by omega)))
def fw (c : Nat → Nat → Cm) (e : Nat) : Nat := gd (fewL c e) e
theorem gd_few (c : Nat → Nat → Cm) {s : Nat} : ∀ {k : Nat}, s ≤ k → gd (fewL c k) s = fw c s
  | 0, h => by
    have : s = 0 := by omega
    subst this; rfl
  | k + 1, h => by
    by_cases e : s = k + 1
    · subst e; rfl
    · have hl := fewL_len c k
      rw [fewL, gd_appl (by omega)]
      exact gd_few c (by omega)
theorem fw0 (c : Nat → Nat → Cm) : fw c 0 = 0 := rfl
theorem mnL_mem {l : List Nat} (h : l ≠ []) : mnL l ∈ l := by
  cases l with
  | nil => exact absurd rfl h
  | cons a l => exact mn_mem a l
theorem mnL_le {l : List Nat} {b : Nat} (h : b ∈ l) : mnL l ≤ b := by
  cases l with
  | nil => cases h
  | cons a l => exact mn_le a l h
theorem fw_succ (c : Nat → Nat → Cm) (k : Nat) : fw c (k + 1) = mnL (toldL c k (k + 1)) := by
  have hl := fewL_len c k
  unfold fw
  rw [fewL]
  have := gd_mid (fewL c k) (mnL (toldL c k (k + 1))) []
  rw [hl] at this
  exact this
theorem toldL_ne (c : Nat → Nat → Cm) (k : Nat) : toldL c k (k + 1) ≠ [] := by
  unfold toldL
  rw [List.range_succ, List.filter_append, List.map_append]
  simp [runC_last]
theorem fw_le (S : Sit th O c) {s k : Nat} (h : s ≤ k) (hr : Run c s (k + 1)) : fw c (k + 1) ≤ fw c s + 1 := by
  rw [fw_succ]
  refine mnL_le ?_
  unfold toldL
  exact List.mem_map.mpr ⟨s, List.mem_filter.mpr ⟨List.mem_range.mpr (by omega), (runC_iff S _ _).mpr hr⟩, by rw [gd_few c h]⟩
theorem fw_ex (S : Sit th O c) (k : Nat) : ∃ s, s ≤ k ∧ Run c s (k + 1) ∧ fw c (k + 1) = fw c s + 1 := by
  have h := mnL_mem (toldL_ne c k)
  rw [← fw_succ] at h
  unfold toldL at h
  obtain ⟨s, h1, h2⟩ := List.mem_map.mp h
  obtain ⟨h3, h4⟩ := List.mem_filter.mp h1
  have h3 := List.mem_range.mp h3
  refine ⟨s, by omega, (runC_iff S _ _).mp h4, ?_⟩
  rw [← h2, gd_few c (by omega)]
theorem gd_ends {n : Nat} {l : List Nat} {k : Nat} (h : k < l.length) : gd (endsOf n l) k = if k + 1 < l.length then gd l (k + 1) else n := by
  unfold endsOf
  by_cases hk : k + 1 < l.length
  · rw [if_pos hk, gd_appl (by simp; omega), gd_get (by simp; omega), gd_get hk, List.getElem_drop]
    congr 1
    omega
  · rw [if_neg hk]
    have : k = (l.drop 1).length := by simp; omega
    rw [this]
    exact gd_mid _ _ _
theorem adj_get {r : Nat → Nat → Prop} : ∀ {l : List Nat} {k : Nat}, Adj r l → k + 1 < l.length → r (gd l k) (gd l (k + 1))
  | [], _, _, h => by simp at h
  | [_], _, _, h => by simp at h
  | a :: b :: l, 0, w, _ => w.1
  | a :: b :: l, k + 1, w, h => adj_get (l := b :: l) w.2 (by simpa using h)
theorem gd_mem {l : List Nat} {k : Nat} (h : k < l.length) : gd l k ∈ l := by rw [gd_get h]; exact List.getElem_mem h
theorem greedy (S : Sit th O c) {n : Nat} {l : List Nat} (hne : l ≠ []) (h0 : gd l 0 = 0) (hg : Adj (· < ·) l) (hlt : ∀ a ∈ l, a < n) (hr : ∀ k, k < l.length → Run c (gd l k) (gd (endsOf n l) k) ∧ ¬ (gd (endsOf n l) k < n ∧ Run c (gd l k) (gd (endsOf n l) k + 1))) : fw c n = l.length := by
  have hpos := List.length_pos_iff.mpr hne
  have up : ∀ k, k < l.length → fw c (gd l k) ≤ k := by
    intro k
    induction k with
    | zero => intro _; rw [h0, fw0]; exact Nat.le_refl _
    | succ k ih =>
      intro hk
      have ih := ih (by omega)
      have hr1 := (hr k (by omega)).1
      rw [gd_ends (by omega), if_pos hk] at hr1
      have hlt1 := adj_get hg hk
      obtain ⟨m, hm⟩ : ∃ m, gd l (k + 1) = m + 1 := ⟨gd l (k + 1) - 1, by omega⟩
      rw [hm] at hr1 ⊢
      have := fw_le S (by omega) hr1
      omega
  have dn : ∀ k, k < l.length → ∀ e, gd l k < e → e ≤ n → k + 1 ≤ fw c e := by
    intro k
    induction k with
    | zero =>
      intro _ e h1 h2
      obtain ⟨m, rfl⟩ : ∃ m, e = m + 1 := ⟨e - 1, by omega⟩
      obtain ⟨s, _, _, q⟩ := fw_ex S m
      omega
    | succ k ih =>
      intro hk e h1 h2
      have ih := ih (by omega)
      have hr1 := (hr k (by omega)).2
      rw [gd_ends (by omega), if_pos hk] at hr1
      have hlt1 := adj_get hg hk
      obtain ⟨m, rfl⟩ : ∃ m, e = m + 1 := ⟨e - 1, by omega⟩
      obtain ⟨s, q1, q2, q3⟩ := fw_ex S m
      by_cases hs : gd l k < s
      · have := ih s hs (by omega)
        omega
      · exact absurd ⟨by omega, q2.sub (by omega) (by omega)⟩ hr1
  have hl1 : l.length - 1 < l.length := by omega
  have hlast := hlt _ (gd_mem hl1)
  have d := dn _ hl1 n hlast (Nat.le_refl _)
  have u := up _ hl1
  have hr1 := (hr _ hl1).1
  rw [gd_ends hl1, if_neg (by omega)] at hr1
  obtain ⟨m, rfl⟩ : ∃ m, n = m + 1 := ⟨n - 1, by omega⟩
  have := fw_le S (by omega) hr1
  omega
theorem runsB_spec (S : Sit th O c) {n how : Nat} {l : List Nat} (h : runsB n c how l = true) : how = gd (fewL c n) n := by
  show how = fw c n
  unfold runsB at h
  rw [Bool.and_eq_true, Bool.and_eq_true, Bool.and_eq_true] at h
  obtain ⟨⟨⟨h1, h2⟩, h3⟩, h4⟩ := h
  have h3 := of_decide_eq_true h3
  have hlt := (lineB_iff.mp h1).2
  by_cases h0 : l = [] ∨ gd l 0 ≠ 0
  · rw [if_pos h0] at h4
    have hn := of_decide_eq_true h4
    subst hn
    have : l = [] := by
      cases l with
      | nil => rfl
      | cons a l => have := hlt a (List.mem_cons_self ..); omega
    rw [fw0, ← h3, this]; rfl
  · rw [if_neg h0, List.all_eq_true] at h4
    have hne : l ≠ [] := fun e => h0 (.inl e)
    have hz : gd l 0 = 0 := by
      by_cases e : gd l 0 = 0
      · exact e
      · exact absurd (.inr e) h0
    rw [← h3]
    exact (greedy S hne hz ((growB_iff l).mp h2) hlt (fun k hk => by
      have := h4 k (List.mem_range.mpr hk)
      rw [Bool.and_eq_true] at this
      refine ⟨(runB_iff _ _).mp this.1, fun w => ?_⟩
      have h5 := this.2
      rw [(runB_iff _ _).mpr w.2, decide_eq_true w.1] at h5
      simp at h5)).symm
theorem starts_runs (S : Sit th O c) {n : Nat} (h : heldB n c = true) {l : List Nat} {fi : Option Bool} (hI : StI c n l fi) : runsB n c l.length l = true := by
  have way : ∀ (s e : Nat) (b : Bool), e ≤ n → (∀ j, s ≤ j → j + 1 < e → (c (j + 1) j).ca = b) → Run c s e := by
    intro s e b he hb
    cases b with
    | true => exact .inr hb
    | false => exact .inl fun j h1 h2 => S.notca h (by omega) (by omega) (by omega) (hb j h1 h2)
  unfold runsB
  rcases hI with ⟨rfl, rfl, rfl⟩ | ⟨hn, l', s, rfl, ha, hz, hlt, hfi⟩
  · simp [lineB, growB]
  · have hg : Adj (· < ·) (l' ++ [s]) := adj_mono (fun a b w => by have := w.1; omega) ha
    have hnd : (l' ++ [s]).Nodup := List.nodup_iff_pairwise_ne.mpr ((adj_pw (r := (· < ·)) (fun a b d x y => Nat.lt_trans x y) hg).imp fun {a b} v => by omega)
    rw [lineB_iff.mpr ⟨hnd, hlt⟩, (growB_iff _).mpr hg, if_neg (by simp [hz])]
    simp only [Bool.true_and, decide_true, List.all_eq_true, List.mem_range]
    intro k hk
    rw [gd_ends hk]
    by_cases hk1 : k + 1 < (l' ++ [s]).length
    · rw [if_pos hk1]
      obtain ⟨q1, b, q2, q3⟩ := adj_get ha hk1
      have hen := hlt _ (gd_mem hk1)
      generalize gd (l' ++ [s]) k = x at *
      generalize gd (l' ++ [s]) (k + 1) = e at *
      rw [(runB_iff _ _).mpr (way x e b (by omega) q2)]
      have hno : ¬ Run c x (e + 1) := by
        rintro (w | w)
        · have w1 := w (e - 1) (by omega) (by omega)
          have w2 := w x (by omega) (by omega)
          have e1 : e - 1 + 1 = e := by omega
          rw [e1] at w1
          have p1 := q2 x (by omega) (by omega)
          have f1 := S.flip (e - 1) e
          have f2 := S.flip x (x + 1)
          rw [f1] at q3
          rw [f2] at p1
          revert w1 w2 q3 p1
          cases c (e - 1) e <;> cases c x (x + 1) <;> cases b <;> simp [Cm.ra, Cm.ca, Cm.flip]
        · have w1 := w (e - 1) (by omega) (by omega)
          have w2 := w x (by omega) (by omega)
          have e1 : e - 1 + 1 = e := by omega
          rw [e1] at w1
          have p1 := q2 x (by omega) (by omega)
          rw [w1] at q3
          rw [w2] at p1
          rw [← p1] at q3
          simp at q3
      have : runB c x (e + 1) = false := by
        cases hh : runB c x (e + 1)
        · rfl
        · exact absurd ((runB_iff _ _).mp hh) hno
      rw [this]
      simp
    · rw [if_neg hk1]
      have hks : gd (l' ++ [s]) k = s := by
        have : k = l'.length := by simp at hk hk1; omega
        rw [this]
        exact gd_mid l' s []
      rw [hks]
      have : Run c s n := by
        cases fi with
        | none =>
          simp at hfi
          exact .inl fun j h1 h2 => by omega
        | some b =>
          simp at hfi
          exact way s n b (Nat.le_refl _) hfi.2
      rw [(runB_iff _ _).mpr this]
      simp
end NM
/-! S11: the law's claims, each taken only if due; law_exchanged; law_lines -/
namespace NM
open PySem DL
variable {th : List D} {O : D} {c : Nat → Nat → Cm}
theorem ok_held (S : Sit th O c) (l : List Nat) (h : l.length ≤ 100) : OkC (.tuple [.tuple [.str s_held, .tuple th, O], tN l, .bool (heldB th.length c)]) :=
  ⟨_, _, _, _, rfl, by rw [h_held S, f_judge_held S l h], fun w => by
    rw [Bool.and_eq_true] at w
    exact held_of_line S w.1 w.2⟩
theorem ok_ordered (S : Sit th O c) (l : List Nat) (h : l.length ≤ 100) : OkC (.tuple [.tuple [.str s_ordered, .tuple th, O, tN l], .none, .bool (heldB th.length c && decide (l = arr c th.length))]) :=
  ⟨_, _, _, _, rfl, by rw [h_ordered S, f_is_ordered S l h], fun w => by
    obtain ⟨a, b⟩ := ordB_spec S w
    simp [a, b]⟩
theorem ok_wrong (S : Sit th O c) (l ps : List Nat) (h : l.length ≤ 100) (h2 : ps.length ≤ 100) : OkC (.tuple [.tuple [.str s_wrong, .tuple th, O, nI ps.length], .tuple [tN l, tN ps], .bool (heldB th.length c && decide (ps.length = wrS c th.length))]) :=
  ⟨_, _, _, _, rfl, by rw [h_wrong S, f_judge_wrong S _ l ps h h2], fun w => by
    obtain ⟨a, b, d, e⟩ := wrongB_spec S w
    simp [a, e]⟩
theorem ok_wrong2 (S : Sit th O c) (l ps : List Nat) (k : Nat) (h : l.length ≤ 100) (h2 : ps.length ≤ 100) (hk : wrS c th.length < k) : OkC (.tuple [.tuple [.str s_wrong, .tuple th, O, nI k], .tuple [tN l, tN ps], .bool false]) :=
  ⟨_, _, _, _, rfl, by rw [h_wrong S, f_judge_wrong S _ l ps h h2], fun w => by
    obtain ⟨a, b, d, e⟩ := wrongB_spec S w
    omega⟩
theorem ok_stays (S : Sit th O c) (k : Nat) (l : List Nat) (fs : List (List Nat)) (h : l.length ≤ 100) (h2 : ∀ f ∈ fs, f.length ≤ 100) (h3 : fs.length ≤ 100) : OkC (.tuple [.tuple [.str s_stays, .tuple th, O, nI k], .tuple [tN l, tF fs], .bool (decide (k = mx (msL c th.length)))]) :=
  ⟨_, _, _, _, rfl, by rw [h_stays S, f_judge_stays S _ l fs h h2 h3], fun w => by
    have := staysB_spec S w
    simp [this]⟩
theorem ok_runs (S : Sit th O c) (k : Nat) (l : List Nat) (h : l.length ≤ 100) : OkC (.tuple [.tuple [.str s_runs, .tuple th, O, nI k], tN l, .bool (decide (k = gd (fewL c th.length) th.length))]) :=
  ⟨_, _, _, _, rfl, by rw [h_runs S, f_judge_runs S _ l h], fun w => by
    have := runsB_spec S w
    simp [this]⟩
theorem ok_runs2 (S : Sit th O c) (k : Nat) (l : List Nat) (h : l.length ≤ 100) (hk : gd (fewL c th.length) th.length < k) : OkC (.tuple [.tuple [.str s_runs, .tuple th, O, nI k], tN l, .bool false]) :=
  ⟨_, _, _, _, rfl, by rw [h_runs S, f_judge_runs S _ l h], fun w => by
    have := runsB_spec S w
    omega⟩
/-! slices -/
theorem cutD_map {α β : Type} (f : α → β) (l : List α) (lo hi : Option Int) : cutD (l.map f) lo hi = (cutD l lo hi).map f := by
  unfold cutD
  rw [List.length_map, List.map_take, List.map_drop]
theorem cutD_sub {α : Type} (l : List α) (lo hi : Option Int) : (cutD l lo hi).Sublist l := by
  unfold cutD
  exact (List.take_sublist _ _).trans (List.drop_sublist _ _)
theorem cutD_len {α : Type} (l : List α) (lo hi : Option Int) : (cutD l lo hi).length ≤ l.length := (cutD_sub l lo hi).length_le
@[simp] theorem cutN (l : List Nat) (lo hi : Option Int) : cutD (lN l) lo hi = lN (cutD l lo hi) := cutD_map nI l lo hi
theorem lN_app (l m : List Nat) : lN l ++ lN m = lN (l ++ m) := by simp
theorem tN_app (l m : List Nat) : (.tuple (lN l ++ lN m) : D) = tN (l ++ m) := by simp
/-- a number left over -/
theorem mod_nat (x : Int) {m : Int} (h : 0 < m) : ∃ k : Nat, x % m = (k : Int) ∧ (k : Int) < m := by
  have h1 := Int.emod_nonneg x (by omega : m ≠ 0)
  have h2 := Int.emod_lt_of_pos x h
  exact ⟨(x % m).toNat, by omega, by omega⟩
theorem f_law_exchanged (l : List Nat) (x : Int) (h : l.length ≤ 20) : ∃ m, F_law_exchanged [tN l, .int x] = some (tN m) ∧ m.length ≤ 2 * l.length + 2 := by
  rw [u_law_exchanged]
  unfold B_law_exchanged
  by_cases h2 : l.length < 2
  · refine ⟨l, ?_, by omega⟩
    have : (l.length : Int) < 2 := by omega
    simp [this]
  · have h3 : ¬ (l.length : Int) < 2 := by omega
    have hp : (0 : Int) < (l.length : Int) - 1 := by omega
    obtain ⟨k, hk, hk2⟩ := mod_nat x hp
    have w1 := atI_tN (l := l) (k := k) (by omega)
    have w2 := atI_tN1 (l := l) (k := k) (by omega)
    have c1 := cutD_len l none (some (k : Int))
    have c2 := cutD_len l (some ((k : Int) + 2)) none
    refine ⟨cutD l none (some (k : Int)) ++ [gd l (k + 1), gd l k] ++ cutD l (some ((k : Int) + 2)) none, ?_, by simp; omega⟩
    have q0 : (1 : Int) < (l.length : Int) := by omega
    simp [h3, q0, hk, w1, w2]
    rw [lim_ok (by omega)]
    simp
    rw [lim_ok (by omega)]
    simp
    rw [lim_ok (by omega)]
    simp
def TNs (ds : List D) : Prop := ∀ d ∈ ds, ∃ l : List Nat, d = tN l ∧ l.length ≤ 100
theorem TNs.cons {l : List Nat} {ds : List D} (h : l.length ≤ 100) (t : TNs ds) : TNs (tN l :: ds) := fun d hd => by
  rcases List.mem_cons.mp hd with rfl | hd
  · exact ⟨l, rfl, h⟩
  · exact t d hd
theorem TNs.nil : TNs [] := fun d h => by cases h
def AllOk (ds : List D) : Prop := ∀ d ∈ ds, OkC d
theorem AllOk.snoc {ds : List D} {d : D} (h : AllOk ds) (k : OkC d) : AllOk (ds ++ [d]) := fun e he => by
  rcases List.mem_append.mp he with he | he
  · exact h e he
  · rw [List.mem_singleton.mp he]; exact k
theorem AllOk.nil : AllOk [] := fun d h => by cases h
theorem lines_in (S : Sit th O c) (l : List Nat) (hl : l.length ≤ 100) (x2 x3 x4 x8 x9 x10 : Option Cell) (ds : List D) (hds : TNs ds) (xs : List D) (hx : AllOk xs) (hlen : xs.length + ds.length ≤ 1000) (x12 : Option Cell) :
    ∃ ys y12, AllOk ys ∧ ys.length = xs.length + ds.length ∧ loopD (gN 12) (sApp 5 (fTup (fCons (fTup (fCons (fC (.str "wrong")) (fCons (fV 0) (fCons (fV 1) (fCons (f1 gLen (fR 12)) fNil))))) (fCons (fTup (fCons (fV 6) (fCons (fV 12) fNil))) (fCons (fAnd (fV 7) (f2 gEq (f1 gLen (fR 12)) (fR 11))) fNil))))) ds
      [some (.dat (.tuple th)), some (.dat O), x2, x3, x4, some (.own xs), some (.dat (tN l)), some (.dat (.bool (heldB th.length c))), x8, x9, x10, some (.dat (nI (wrS c th.length))), x12]
      = some (.nx [some (.dat (.tuple th)), some (.dat O), x2, x3, x4, some (.own ys), some (.dat (tN l)), some (.dat (.bool (heldB th.length c))), x8, x9, x10, some (.dat (nI (wrS c th.length))), y12]) := by
  obtain ⟨ρ', e, ys, y12, rfl, q1, q2⟩ := loop_inv (g := gN 12) (b := sApp 5 (fTup (fCons (fTup (fCons (fC (.str "wrong")) (fCons (fV 0) (fCons (fV 1) (fCons (f1 gLen (fR 12)) fNil))))) (fCons (fTup (fCons (fV 6) (fCons (fV 12) fNil))) (fCons (fAnd (fV 7) (f2 gEq (f1 gLen (fR 12)) (fR 11))) fNil)))))
    (fun k ρ => ∃ ys y12, ρ = [some (.dat (.tuple th)), some (.dat O), x2, x3, x4, some (.own ys), some (.dat (tN l)), some (.dat (.bool (heldB th.length c))), x8, x9, x10, some (.dat (nI (wrS c th.length))), y12] ∧ AllOk ys ∧ ys.length = xs.length + k) ds 0 (by
      rintro k d hd ρ ⟨ys, y12, rfl, q1, q2⟩
      obtain ⟨ps, rfl, hp⟩ := hds d (List.mem_of_getElem? hd)
      have hk : k < ds.length := (List.getElem?_eq_some_iff.mp hd).1
      refine ⟨_, _, rfl, ?_, ys ++ [.tuple [.tuple [.str s_wrong, .tuple th, O, nI ps.length], .tuple [tN l, tN ps], .bool (heldB th.length c && decide (ps.length = wrS c th.length))]], some (.dat (tN ps)), rfl, q1.snoc (ok_wrong S l ps hl hp), by simp; omega⟩
      have e9 : ((ps.length : Int) = (wrS c th.length : Int)) ↔ (ps.length = wrS c th.length) := by omega
      have L : ∀ {α : Type} (a : α), lim ys.length a = some a := fun a => lim_ok (by omega)
      cases heldB th.length c
      · simp [lim_ok, L]
      · simp [lim_ok, L, e9]) _ ⟨xs, x12, rfl, hx, by simp⟩
  exact ⟨ys, y12, q1, by omega, e⟩
end NM
/-! S12: law_lines -/
namespace NM
open PySem DL
variable {th : List D} {O : D} {c : Nat → Nat → Cm}
abbrev lnIn : Rho → Option Out := sApp 5 (fTup (fCons (fTup (fCons (fC (.str "wrong")) (fCons (fV 0) (fCons (fV 1) (fCons (f1 gLen (fR 12)) fNil))))) (fCons (fTup (fCons (fV 6) (fCons (fV 12) fNil))) (fCons (fAnd (fV 7) (f2 gEq (f1 gLen (fR 12)) (fR 11))) fNil))))
abbrev lnPs : Rho → Option (List D) := iL (fL (fLst (fCons (fV 10) (fCons (f2 gAdd (fR 10) (fTup (fCons (fV 3) (fCons (fV 3) fNil)))) (fCons (f2 gAdd (fTup (fCons (fV 3) (fCons (fV 3) fNil))) (fR 10)) (fCons (fSl (fR 10) oNone (oSome (f1 gNeg (fC (.int 1))))) (fCons (fSl (fR 10) (oSome (fC (.int 1))) oNone) (fCons (fTup fNil) (fCons (f2 gAdd (fR 10) (fTup (fCons (fV 3) fNil))) fNil)))))))))
abbrev lnBo : Rho → Option Out := sSeq (sApp 5 (fTup (fCons (fTup (fCons (fC (.str "held")) (fCons (fV 0) (fCons (fV 1) fNil)))) (fCons (fV 6) (fCons (fV 7) fNil)))))
  (sSeq (sApp 5 (fTup (fCons (fTup (fCons (fC (.str "ordered")) (fCons (fV 0) (fCons (fV 1) (fCons (fV 6) fNil))))) (fCons (fC .none) (fCons (fAnd (fV 7) (f2 gEq (fR 6) (fR 8))) fNil)))))
  (sSeq (sFor lnPs (gN 12) lnIn)
  (sApp 5 (fTup (fCons (fTup (fCons (fC (.str "wrong")) (fCons (fV 0) (fCons (fV 1) (fCons (f2 gAdd (f2 gAdd (fR 11) (fC (.int 1))) (f2 gMod (f2 gIx (fR 2) (fC (.int 3))) (fC (.int 3)))) fNil))))) (fCons (fTup (fCons (fV 6) (fCons (fV 10) fNil))) (fCons (fC (.bool false)) fNil)))))))
abbrev lnOn : Rho → Option (List D) := iL (fL (fLst (fCons (fV 8) (fCons (f1 gRgT (fR 9)) (fCons (f1 gRevT (fR 8)) (fCons (fV 4) (fCons (fCall F_law_exchanged (fCons (fV 4) (fCons (f2 gIx (fR 2) (fC (.int 2))) fNil))) (fCons (f2 gAdd (fSl (fR 8) oNone (oSome (fC (.int 1)))) (fR 8)) fNil))))))))
abbrev lnSt (th : List D) (O : D) (c : Nat → Nat → Cm) (ys : List D) (a : Nat) (bent : List Nat) (xs : List D) (x6 x12 : Option Cell) : Rho :=
  [some (.dat (.tuple th)), some (.dat O), some (.dat (.list ys)), some (.dat (nI a)), some (.dat (tN bent)), some (.own xs), x6, some (.dat (.bool (heldB th.length c))), some (.dat (tN (arr c th.length))), some (.dat (nI th.length)), some (.dat (tN (plc c th.length))), some (.dat (nI (wrS c th.length))), x12]
theorem ln_ps (S : Sit th O c) (ys : List D) (a : Nat) (bent : List Nat) (xs : List D) (x6 x12 : Option Cell) : ∃ ds, lnPs (lnSt th O c ys a bent xs x6 x12) = some ds ∧ TNs ds ∧ ds.length = 7 := by
  have n7 := S.n7
  have hp := plc_len c th.length n7
  have c1 := cutD_len (plc c th.length) none (some (-1))
  have c2 := cutD_len (plc c th.length) (some 1) none
  refine ⟨[tN (plc c th.length), tN (plc c th.length ++ [a, a]), tN ([a, a] ++ plc c th.length), tN (cutD (plc c th.length) none (some (-1))), tN (cutD (plc c th.length) (some 1) none), tN [], tN (plc c th.length ++ [a])], ?_, ?_, rfl⟩
  · have L1 : ∀ {α : Type} (a : α), lim ((plc c th.length).length + 2) a = some a := fun a => lim_ok (by omega)
    have L2 : ∀ {α : Type} (a : α), lim (2 + (plc c th.length).length) a = some a := fun a => lim_ok (by omega)
    have L3 : ∀ {α : Type} (a : α), lim ((plc c th.length).length + 1) a = some a := fun a => lim_ok (by omega)
    simp [lim_ok, L1, L2, L3]
  · exact .cons (by omega) (.cons (by simp; omega) (.cons (by simp; omega) (.cons (by omega) (.cons (by omega) (.cons (by simp) (.cons (by simp; omega) .nil))))))
theorem ln_body (S : Sit th O c) (x0 x1 x2 x3 : Int) (r : List D) (a : Nat) (bent l : List Nat) (hl : l.length ≤ 100) (xs : List D) (hx : AllOk xs) (hlen : xs.length ≤ 900) (x12 : Option Cell) :
    ∃ zs y12, AllOk zs ∧ zs.length = xs.length + 10 ∧ lnBo (lnSt th O c (.int x0 :: .int x1 :: .int x2 :: .int x3 :: r) a bent xs (some (.dat (tN l))) x12) = some (.nx (lnSt th O c (.int x0 :: .int x1 :: .int x2 :: .int x3 :: r) a bent zs (some (.dat (tN l))) y12)) := by
  have n7 := S.n7
  let ys : List D := .int x0 :: .int x1 :: .int x2 :: .int x3 :: r
  let xs1 : List D := xs ++ [.tuple [.tuple [.str s_held, .tuple th, O], tN l, .bool (heldB th.length c)]]
  let xs2 : List D := xs1 ++ [.tuple [.tuple [.str s_ordered, .tuple th, O, tN l], .none, .bool (heldB th.length c && decide (l = arr c th.length))]]
  have k1 : AllOk xs1 := hx.snoc (ok_held S l hl)
  have k2 : AllOk xs2 := k1.snoc (ok_ordered S l hl)
  have l1 : xs1.length = xs.length + 1 := by simp [xs1]
  have l2 : xs2.length = xs.length + 2 := by simp [xs2, l1]
  obtain ⟨ds, d1, d2, d3⟩ := ln_ps S ys a bent xs2 (some (.dat (tN l))) x12
  obtain ⟨zs, y12, q1, q2, q3⟩ := lines_in S l hl (some (.dat (.list ys))) (some (.dat (nI a))) (some (.dat (tN bent))) (some (.dat (tN (arr c th.length)))) (some (.dat (nI th.length))) (some (.dat (tN (plc c th.length)))) ds d2 xs2 k2 (by omega) x12
  obtain ⟨m, hm, hm2⟩ := mod_nat x3 (m := 3) (by decide)
  have hpl := plc_len c th.length n7
  refine ⟨zs ++ [.tuple [.tuple [.str s_wrong, .tuple th, O, nI (wrS c th.length + 1 + m)], .tuple [tN l, tN (plc c th.length)], .bool false]], y12, q1.snoc (ok_wrong2 S l _ _ hl (by omega) (by omega)), by simp; omega, ?_⟩
  unfold lnBo
  have h1 : (sApp 5 (fTup (fCons (fTup (fCons (fC (.str "held")) (fCons (fV 0) (fCons (fV 1) fNil)))) (fCons (fV 6) (fCons (fV 7) fNil)))) : Rho → Option Out) (lnSt th O c ys a bent xs (some (.dat (tN l))) x12) = some (.nx (lnSt th O c ys a bent xs1 (some (.dat (tN l))) x12)) := by
    have L : ∀ {α : Type} (a : α), lim xs.length a = some a := fun a => lim_ok (by omega)
    simp [lim_ok, L, xs1]
  have h2 : (sApp 5 (fTup (fCons (fTup (fCons (fC (.str "ordered")) (fCons (fV 0) (fCons (fV 1) (fCons (fV 6) fNil))))) (fCons (fC .none) (fCons (fAnd (fV 7) (f2 gEq (fR 6) (fR 8))) fNil)))) : Rho → Option Out) (lnSt th O c ys a bent xs1 (some (.dat (tN l))) x12) = some (.nx (lnSt th O c ys a bent xs2 (some (.dat (tN l))) x12)) := by
    have L : ∀ {α : Type} (a : α), lim xs1.length a = some a := fun a => lim_ok (by omega)
    have e2 : xs2 = xs1 ++ [.tuple [.tuple [.str s_ordered, .tuple th, O, tN l], .none, .bool (heldB th.length c && decide (l = arr c th.length))]] := rfl
    rw [e2]
    clear_value xs1
    cases hH : heldB th.length c
    · simp [lim_ok, L, hH]
    · simp [lim_ok, L, hH]
  rw [sSeq_nx h1, sSeq_nx h2, sSeq_nx ((sFor_eq d1).trans q3)]
  have L : ∀ {α : Type} (a : α), lim zs.length a = some a := fun a => lim_ok (by omega)
  have w : L2.atI ys 3 = some (.int x3) := atI_nat ys 3
  simp [lim_ok, L, w, hm, ys]
theorem f_law_lines (S : Sit th O c) (x0 x1 x2 x3 : Int) (r : List D) : ∃ ds, F_law_lines [.tuple th, O, .list (.int x0 :: .int x1 :: .int x2 :: .int x3 :: r)] = some (.list ds) ∧ AllOk ds ∧ ds.length ≤ 1000 := by
  have n7 := S.n7
  have hal := arr_len c th.length
  rw [u_law_lines]
  unfold B_law_lines
  have hm : (0 : Int) < (if (1 : Int) < (th.length : Int) - 1 then (th.length : Int) - 1 else 1) := by split <;> omega
  obtain ⟨a, ha, _⟩ := mod_nat x0 hm
  obtain ⟨bent, hb, hbl⟩ := f_law_exchanged (arr c th.length) x1 (by omega)
  obtain ⟨b2, hb2, hb2l⟩ := f_law_exchanged bent x2 (by omega)
  have w0 : L2.atI (.int x0 :: .int x1 :: .int x2 :: .int x3 :: r) 0 = some (.int x0) := atI_nat _ 0
  have w1 : L2.atI (.int x0 :: .int x1 :: .int x2 :: .int x3 :: r) 1 = some (.int x1) := atI_nat _ 1
  have w2 : L2.atI (.int x0 :: .int x1 :: .int x2 :: .int x3 :: r) 2 = some (.int x2) := atI_nat _ 2
  have h1 : (sPar2 7 8 (cD (fCall F_law_all_held (fCons (fV 0) (fCons (fV 1) fNil)))) (cD (fCall F_law_arranged (fCons (fV 0) (fCons (fV 1) fNil))))) [some (.dat (.tuple th)), some (.dat O), some (.dat (.list (.int x0 :: .int x1 :: .int x2 :: .int x3 :: r))), none, none, none, none, none, none, none, none, none, none] = some (.nx [some (.dat (.tuple th)), some (.dat O), some (.dat (.list (.int x0 :: .int x1 :: .int x2 :: .int x3 :: r))), none, none, none, none, some (.dat (.bool (heldB th.length c))), some (.dat (tN (arr c th.length))), none, none, none, none]) := by
    simp [f_law_all_held S, f_law_arranged S]
  have h2 : (sPar3 9 10 11 (cD (f1 gLen (fR 0))) (cD (fCall F_law_places (fCons (fV 0) (fCons (fV 1) fNil)))) (cD (fCall F_law_wrong (fCons (fV 0) (fCons (fV 1) fNil))))) [some (.dat (.tuple th)), some (.dat O), some (.dat (.list (.int x0 :: .int x1 :: .int x2 :: .int x3 :: r))), none, none, none, none, some (.dat (.bool (heldB th.length c))), some (.dat (tN (arr c th.length))), none, none, none, none] = some (.nx [some (.dat (.tuple th)), some (.dat O), some (.dat (.list (.int x0 :: .int x1 :: .int x2 :: .int x3 :: r))), none, none, none, none, some (.dat (.bool (heldB th.length c))), some (.dat (tN (arr c th.length))), some (.dat (nI th.length)), some (.dat (tN (plc c th.length))), some (.dat (nI (wrS c th.length))), none]) := by
    simp [f_law_places S, f_law_wrong S]
  have h3 : (sSet 3 (f2 gMod (f2 gIx (fR 2) (fC (.int 0))) (f2 gMax2 (fC (.int 1)) (f2 DL.gSub (fR 9) (fC (.int 1)))))) [some (.dat (.tuple th)), some (.dat O), some (.dat (.list (.int x0 :: .int x1 :: .int x2 :: .int x3 :: r))), none, none, none, none, some (.dat (.bool (heldB th.length c))), some (.dat (tN (arr c th.length))), some (.dat (nI th.length)), some (.dat (tN (plc c th.length))), some (.dat (nI (wrS c th.length))), none] = some (.nx [some (.dat (.tuple th)), some (.dat O), some (.dat (.list (.int x0 :: .int x1 :: .int x2 :: .int x3 :: r))), some (.dat (nI a)), none, none, none, some (.dat (.bool (heldB th.length c))), some (.dat (tN (arr c th.length))), some (.dat (nI th.length)), some (.dat (tN (plc c th.length))), some (.dat (nI (wrS c th.length))), none]) := by
    simp [w0]
    exact ⟨hm, ha⟩
  have h4 : (sSet 4 (fCall F_law_exchanged (fCons (fV 8) (fCons (f2 gIx (fR 2) (fC (.int 1))) fNil)))) [some (.dat (.tuple th)), some (.dat O), some (.dat (.list (.int x0 :: .int x1 :: .int x2 :: .int x3 :: r))), some (.dat (nI a)), none, none, none, some (.dat (.bool (heldB th.length c))), some (.dat (tN (arr c th.length))), some (.dat (nI th.length)), some (.dat (tN (plc c th.length))), some (.dat (nI (wrS c th.length))), none] = some (.nx [some (.dat (.tuple th)), some (.dat O), some (.dat (.list (.int x0 :: .int x1 :: .int x2 :: .int x3 :: r))), some (.dat (nI a)), some (.dat (tN bent)), none, none, some (.dat (.bool (heldB th.length c))), some (.dat (tN (arr c th.length))), some (.dat (nI th.length)), some (.dat (tN (plc c th.length))), some (.dat (nI (wrS c th.length))), none]) := by
    simp [w1, hb]
  have h5 : (sSetF 5 (fLst fNil)) [some (.dat (.tuple th)), some (.dat O), some (.dat (.list (.int x0 :: .int x1 :: .int x2 :: .int x3 :: r))), some (.dat (nI a)), some (.dat (tN bent)), none, none, some (.dat (.bool (heldB th.length c))), some (.dat (tN (arr c th.length))), some (.dat (nI th.length)), some (.dat (tN (plc c th.length))), some (.dat (nI (wrS c th.length))), none] = some (.nx (lnSt th O c (.int x0 :: .int x1 :: .int x2 :: .int x3 :: r) a bent [] none none)) := by
    simp [lim_ok]
  have c1 := cutD_len (arr c th.length) none (some 1)
  have hds : ∃ ds, lnOn (lnSt th O c (.int x0 :: .int x1 :: .int x2 :: .int x3 :: r) a bent [] none none) = some ds ∧ TNs ds ∧ ds.length = 6 := by
    refine ⟨[tN (arr c th.length), tN (List.range th.length), tN (arr c th.length).reverse, tN bent, tN b2, tN (cutD (arr c th.length) none (some 1) ++ arr c th.length)], ?_, ?_, rfl⟩
    · have L : ∀ {α : Type} (a : α), lim ((cutD (arr c th.length) none (some 1)).length + (arr c th.length).length) a = some a := fun a => lim_ok (by omega)
      have L' : ∀ {α : Type} (a : α), lim ((cutD (arr c th.length) none (some 1)).length + th.length) a = some a := fun a => lim_ok (by omega)
      have hr : gRgT (nI th.length) = some (tN (List.range th.length)) := by
        rw [e_gRgT, if_pos (by omega), rangeD_zero]
        simp
      simp [lim_ok, hr, w2, hb2, L, L', hal]
    · exact .cons (by omega) (.cons (by simp; omega) (.cons (by simp; omega) (.cons (by omega) (.cons (by omega) (.cons (by simp; omega) .nil)))))
  obtain ⟨ds, d1, d2, d3⟩ := hds
  obtain ⟨ρ', e, zs, x6, x12, rfl, q1, q2⟩ := loop_inv (g := gN 6) (b := lnBo) (fun k ρ => ∃ zs x6 x12, ρ = lnSt th O c (.int x0 :: .int x1 :: .int x2 :: .int x3 :: r) a bent zs x6 x12 ∧ AllOk zs ∧ zs.length = 10 * k) ds 0 (by
    rintro k d hd ρ ⟨zs, x6, x12, rfl, q1, q2⟩
    obtain ⟨l, rfl, hl⟩ := d2 d (List.mem_of_getElem? hd)
    have hk : k < ds.length := (List.getElem?_eq_some_iff.mp hd).1
    obtain ⟨zs', y12, p1, p2, p3⟩ := ln_body S x0 x1 x2 x3 r a bent l hl zs q1 (by omega) x12
    exact ⟨_, _, rfl, p3, zs', _, _, rfl, p1, by omega⟩) _ ⟨[], none, none, rfl, AllOk.nil, rfl⟩
  rw [sSeq_nx h1, sSeq_nx h2, sSeq_nx h3, sSeq_nx h4, sSeq_nx h5, sSeq_nx ((sFor_eq d1).trans e)]
  refine ⟨zs, ?_, q1, by omega⟩
  simp
end NM
/-! S13: law_stays -/
namespace NM
open PySem DL
variable {th : List D} {O : D} {c : Nat → Nat → Cm}
def TF1 (fs : List (List Nat)) : Prop := fs.length ≤ 100 ∧ ∀ f ∈ fs, f.length ≤ 100
def TFs (ds : List D) : Prop := ∀ d ∈ ds, ∃ fs : List (List Nat), d = tF fs ∧ TF1 fs
theorem TFs.cons {l : List (List Nat)} {ds : List D} (h : TF1 l) (t : TFs ds) : TFs (tF l :: ds) := fun d hd => by
  rcases List.mem_cons.mp hd with rfl | hd
  · exact ⟨l, rfl, h⟩
  · exact t d hd
theorem TFs.nil : TFs [] := fun d h => by cases h
abbrev sy3 : Rho → Option Out := sApp 7 (fTup (fCons (fTup (fCons (fC (.str "stays")) (fCons (fV 0) (fCons (fV 1) (fCons (fV 17) fNil))))) (fCons (fTup (fCons (fV 8) (fCons (fV 16) fNil))) (fCons (f2 gEq (fR 17) (fR 12)) fNil))))
abbrev sy2 : Rho → Option Out := sFor (iL (fL (fLst (fCons (f1 gLen (fR 8)) (fCons (f1 gLen (fR 16)) fNil))))) (gN 17) sy3
abbrev sy1 : Rho → Option Out := sFor (iL (fV 5)) (gN 16) sy2
abbrev sySt (th : List D) (O : D) (c : Nat → Nat → Cm) (x2 x3 x4 : Option Cell) (ts : List D) (x6 : Option Cell) (xs : List D) (x8 x9 x10 x11 x13 x14 x15 x16 x17 x18 : Option Cell) : Rho :=
  [some (.dat (.tuple th)), some (.dat O), x2, x3, x4, some (.dat (.list ts)), x6, some (.own xs), x8, x9, x10, x11, some (.dat (nI (mx (msL c th.length)))), x13, x14, x15, x16, x17, x18]
theorem sy_3 (S : Sit th O c) (x2 x3 x4 : Option Cell) (ts : List D) (x6 : Option Cell) (xs : List D) (x9 x10 x11 x13 x14 x15 x18 : Option Cell) (l : List Nat) (fs : List (List Nat)) (k : Nat) (hl : l.length ≤ 100) (hf : TF1 fs) (hx : AllOk xs) (hn : xs.length ≤ 1000) :
    ∃ zs, AllOk zs ∧ zs.length = xs.length + 1 ∧ sy3 (sySt th O c x2 x3 x4 ts x6 xs (some (.dat (tN l))) x9 x10 x11 x13 x14 x15 (some (.dat (tF fs))) (some (.dat (nI k))) x18) = some (.nx (sySt th O c x2 x3 x4 ts x6 zs (some (.dat (tN l))) x9 x10 x11 x13 x14 x15 (some (.dat (tF fs))) (some (.dat (nI k))) x18)) := by
  refine ⟨xs ++ [.tuple [.tuple [.str s_stays, .tuple th, O, nI k], .tuple [tN l, tF fs], .bool (decide (k = mx (msL c th.length)))]], hx.snoc (ok_stays S k l fs hl hf.2 hf.1), by simp, ?_⟩
  have L : ∀ {α : Type} (a : α), lim xs.length a = some a := fun a => lim_ok (by omega)
  have e9 : ((k : Int) = (mx (msL c th.length) : Int)) ↔ (k = mx (msL c th.length)) := by omega
  simp [lim_ok, L, e9]
theorem sy_2 (S : Sit th O c) (x2 x3 x4 : Option Cell) (ts : List D) (x6 : Option Cell) (xs : List D) (x9 x10 x11 x13 x14 x15 x17 x18 : Option Cell) (l : List Nat) (fs : List (List Nat)) (hl : l.length ≤ 100) (hf : TF1 fs) (hx : AllOk xs) (hn : xs.length ≤ 900) :
    ∃ zs y17, AllOk zs ∧ zs.length = xs.length + 2 ∧ sy2 (sySt th O c x2 x3 x4 ts x6 xs (some (.dat (tN l))) x9 x10 x11 x13 x14 x15 (some (.dat (tF fs))) x17 x18) = some (.nx (sySt th O c x2 x3 x4 ts x6 zs (some (.dat (tN l))) x9 x10 x11 x13 x14 x15 (some (.dat (tF fs))) y17 x18)) := by
  have h1 : (iL (fL (fLst (fCons (f1 gLen (fR 8)) (fCons (f1 gLen (fR 16)) fNil))))) (sySt th O c x2 x3 x4 ts x6 xs (some (.dat (tN l))) x9 x10 x11 x13 x14 x15 (some (.dat (tF fs))) x17 x18) = some (lN [l.length, fs.length]) := by
    simp [lim_ok]
  obtain ⟨ρ', e, zs, y17, rfl, q1, q2⟩ := loop_inv (g := gN 17) (b := sy3) (fun k ρ => ∃ zs y17, ρ = sySt th O c x2 x3 x4 ts x6 zs (some (.dat (tN l))) x9 x10 x11 x13 x14 x15 (some (.dat (tF fs))) y17 x18 ∧ AllOk zs ∧ zs.length = xs.length + k) (lN [l.length, fs.length]) 0 (by
    rintro k d hd ρ ⟨zs, y17, rfl, q1, q2⟩
    obtain ⟨m, _, rfl⟩ := List.mem_map.mp (List.mem_of_getElem? hd)
    have hk : k < (lN [l.length, fs.length]).length := (List.getElem?_eq_some_iff.mp hd).1
    simp at hk
    obtain ⟨zs', p1, p2, p3⟩ := sy_3 S x2 x3 x4 ts x6 zs x9 x10 x11 x13 x14 x15 x18 l fs m hl hf q1 (by omega)
    exact ⟨_, _, rfl, p3, zs', _, rfl, p1, by omega⟩) _ ⟨xs, x17, rfl, hx, rfl⟩
  refine ⟨zs, y17, q1, by simpa using q2, ?_⟩
  exact (sFor_eq h1).trans e
theorem sy_1 (S : Sit th O c) (x2 x3 x4 : Option Cell) (ts : List D) (hts : TFs ts) (hts2 : ts.length = 10) (x6 : Option Cell) (xs : List D) (x9 x10 x11 x13 x14 x15 x16 x17 x18 : Option Cell) (l : List Nat) (hl : l.length ≤ 100) (hx : AllOk xs) (hn : xs.length ≤ 500) :
    ∃ zs y16 y17, AllOk zs ∧ zs.length = xs.length + 20 ∧ sy1 (sySt th O c x2 x3 x4 ts x6 xs (some (.dat (tN l))) x9 x10 x11 x13 x14 x15 x16 x17 x18) = some (.nx (sySt th O c x2 x3 x4 ts x6 zs (some (.dat (tN l))) x9 x10 x11 x13 x14 x15 y16 y17 x18)) := by
  have h1 : (iL (fV 5)) (sySt th O c x2 x3 x4 ts x6 xs (some (.dat (tN l))) x9 x10 x11 x13 x14 x15 x16 x17 x18) = some ts := rfl
  obtain ⟨ρ', e, zs, y16, y17, rfl, q1, q2⟩ := loop_inv (g := gN 16) (b := sy2) (fun k ρ => ∃ zs y16 y17, ρ = sySt th O c x2 x3 x4 ts x6 zs (some (.dat (tN l))) x9 x10 x11 x13 x14 x15 y16 y17 x18 ∧ AllOk zs ∧ zs.length = xs.length + 2 * k) ts 0 (by
    rintro k d hd ρ ⟨zs, y16, y17, rfl, q1, q2⟩
    obtain ⟨fs, rfl, hf⟩ := hts d (List.mem_of_getElem? hd)
    have hk : k < ts.length := (List.getElem?_eq_some_iff.mp hd).1
    obtain ⟨zs', y, p1, p2, p3⟩ := sy_2 S x2 x3 x4 ts x6 zs x9 x10 x11 x13 x14 x15 y17 x18 l fs hl hf q1 (by omega)
    exact ⟨_, _, rfl, p3, zs', _, _, rfl, p1, by omega⟩) _ ⟨xs, x16, x17, rfl, hx, rfl⟩
  refine ⟨zs, y16, y17, q1, by omega, ?_⟩
  exact (sFor_eq h1).trans e
@[simp] theorem cutF (l : List (List Nat)) (lo hi : Option Int) : cutD (lF l) lo hi = lF (cutD l lo hi) := cutD_map tN l lo hi
theorem cut_mem {l : List (List Nat)} {lo hi : Option Int} {f : List Nat} (h : f ∈ cutD l lo hi) : f ∈ l := (cutD_sub l lo hi).subset h
theorem TF1.cut {fs : List (List Nat)} (h : TF1 fs) (lo hi : Option Int) : TF1 (cutD fs lo hi) := ⟨by have := cutD_len fs lo hi; have := h.1; omega, fun f hf => h.2 f (cut_mem hf)⟩
theorem TF1.app {fs gs : List (List Nat)} (h : fs.length + gs.length ≤ 100) (h1 : ∀ f ∈ fs, f.length ≤ 100) (h2 : ∀ f ∈ gs, f.length ≤ 100) : TF1 (fs ++ gs) := ⟨by simp; omega, fun f hf => by
  rcases List.mem_append.mp hf with hf | hf
  · exact h1 f hf
  · exact h2 f hf⟩
end NM
/-! S14: law_stays, whole -/
namespace NM
open PySem DL
variable {th : List D} {O : D} {c : Nat → Nat → Cm}
theorem PI.flen {k : Nat} {fs : List (List Nat)} {kvs : List (Int × D)} (h : PI c k fs kvs) : ∀ f ∈ fs, f.length ≤ k := fun f hf => by
  have h1 : f.length ≤ fs.flatten.length := (List.sublist_flatten_of_mem hf).length_le
  have := h.perm.length_eq
  rw [List.length_range] at this
  omega
abbrev syTwo : Rho → Option Out := sIf (fB (f2 gGt (f1 gLen (fR 10)) (fC (.int 1)))) (sSeq (sSet 13 (f2 gMod (fR 13) (f2 DL.gSub (f1 gLen (fR 10)) (fC (.int 1)))))
  (sSet 3 (f2 gAdd (f2 gAdd (fSl (fR 10) oNone (oSome (fV 13))) (fTup (fCons (f1 gTupOf (f1 gSorted (f2 gAdd (f2 gIx (fR 10) (fR 13)) (f2 gIx (fR 10) (f2 gAdd (fR 13) (fC (.int 1))))))) fNil))) (fSl (fR 10) (oSome (f2 gAdd (fR 13) (fC (.int 2)))) oNone)))) sNx
theorem sy_two (fs : List (List Nat)) (h1 : fs.length ≤ 7) (h2 : ∀ f ∈ fs, f.length ≤ 7) (a : Nat) (x0 x1 x2 x9 x11 x12 x14 x15 : Option Cell) : ∃ two a', TF1 two ∧ syTwo [x0, x1, x2, some (.dat (tF fs)), none, none, none, none, none, x9, some (.dat (tF fs)), x11, x12, some (.dat (nI a)), x14, x15, none, none, none]
    = some (.nx [x0, x1, x2, some (.dat (tF two)), none, none, none, none, none, x9, some (.dat (tF fs)), x11, x12, some (.dat (nI a')), x14, x15, none, none, none]) := by
  by_cases h : fs.length ≤ 1
  · refine ⟨fs, a, ⟨by omega, fun f hf => by have := h2 f hf; omega⟩, ?_⟩
    have : ¬ (1 : Int) < (fs.length : Int) := by omega
    simp [this]
  · have hp : (0 : Int) < (fs.length : Int) - 1 := by omega
    obtain ⟨k, hk, hk2⟩ := mod_nat (a : Int) hp
    have hk3 : k + 1 < fs.length := by omega
    have hk4 : k < fs.length := by omega
    have w1 := atI_lF hk4
    have w2 : L2.atI (lF fs) ((k : Int) + 1) = some (tN fs[k + 1]) := atI_lF (k := k + 1) hk3
    have f1 := h2 _ (List.getElem_mem hk4)
    have f2' := h2 _ (List.getElem_mem hk3)
    have ns := (nsort_perm (fs[k] ++ fs[k + 1])).length_eq
    have c1 := cutD_len fs none (some (k : Int))
    have c2 := cutD_len fs (some ((k : Int) + 2)) none
    refine ⟨cutD fs none (some (k : Int)) ++ [nsort (fs[k] ++ fs[k + 1])] ++ cutD fs (some ((k : Int) + 2)) none, k, ?_, ?_⟩
    · refine TF1.app (by simp; omega) ?_ (fun f hf => by have := h2 f (cut_mem hf); omega)
      intro f hf
      rcases List.mem_append.mp hf with hf | hf
      · have := h2 f (cut_mem hf); omega
      · rw [List.mem_singleton.mp hf]
        simp at ns
        omega
    · have q0 : (1 : Int) < (fs.length : Int) := by omega
      have L1 : ∀ {α : Type} (a : α), lim (fs[k].length + fs[k + 1].length) a = some a := fun a => lim_ok (by omega)
      have L2 : ∀ {α : Type} (a : α), lim ((cutD fs none (some (k : Int))).length + 1) a = some a := fun a => lim_ok (by omega)
      have L3 : ∀ {α : Type} (a : α), lim ((cutD fs none (some (k : Int))).length + ((cutD fs (some ((k : Int) + 2)) none).length + 1)) a = some a := fun a => lim_ok (by omega)
      have L4 : ∀ {α : Type} (a : α), lim ((cutD fs none (some (k : Int))).length + 1 + (cutD fs (some ((k : Int) + 2)) none).length) a = some a := fun a => lim_ok (by omega)
      have gs : gSorted (.tuple (lN fs[k] ++ lN fs[k + 1])) = some (.list (lN (nsort (fs[k] ++ fs[k + 1])))) := by
        rw [lN_app, gSorted_tN]
      simp [q0, hk, w1, w2, L1, L2, L3, L4, lim_ok, gs]
theorem f_law_stays (S : Sit th O c) (x0 : Int) (r : List D) : ∃ ds, F_law_stays [.tuple th, O, .list (.int x0 :: r)] = some (.list ds) ∧ AllOk ds ∧ ds.length ≤ 1000 := by
  have n7 := S.n7
  have hal := arr_len c th.length
  obtain ⟨st, fs, kvs, hpl, hI, hst, _, _⟩ := f_law_piles S
  have hfl := hI.len
  have hff := hI.flen
  have hff7 : ∀ f ∈ fs, f.length ≤ 7 := fun f hf => by have := hff f hf; omega
  rw [u_law_stays]
  unfold B_law_stays
  have hm : (0 : Int) < (if (1 : Int) < (fs.length : Int) then (fs.length : Int) else 1) := by split <;> omega
  obtain ⟨a, ha, _⟩ := mod_nat x0 hm
  have w0 : L2.atI (.int x0 :: r) 0 = some (.int x0) := atI_nat _ 0
  have hr : gRgT (nI th.length) = some (tN (List.range th.length)) := by
    rw [e_gRgT, if_pos (by omega), rangeD_zero]
    simp
  have h1 : (sAsg (fCall F_law_piles (fCons (fV 0) (fCons (fV 1) fNil))) (gT [9, 10])) [some (.dat (.tuple th)), some (.dat O), some (.dat (.list (.int x0 :: r))), none, none, none, none, none, none, none, none, none, none, none, none, none, none, none, none]
      = some (.nx [some (.dat (.tuple th)), some (.dat O), some (.dat (.list (.int x0 :: r))), none, none, none, none, none, none, some (.dat (tN st)), some (.dat (tF fs)), none, none, none, none, none, none, none, none]) := by
    simp [hpl]
  have h2 : (sPar3 11 12 13 (cD (f1 gLen (fR 0))) (cD (fCall F_law_most_stay (fCons (fV 0) (fCons (fV 1) fNil)))) (cD (f2 gMod (f2 gIx (fR 2) (fC (.int 0))) (f2 gMax2 (fC (.int 1)) (f1 gLen (fR 10)))))) [some (.dat (.tuple th)), some (.dat O), some (.dat (.list (.int x0 :: r))), none, none, none, none, none, none, some (.dat (tN st)), some (.dat (tF fs)), none, none, none, none, none, none, none, none]
      = some (.nx [some (.dat (.tuple th)), some (.dat O), some (.dat (.list (.int x0 :: r))), none, none, none, none, none, none, some (.dat (tN st)), some (.dat (tF fs)), some (.dat (nI th.length)), some (.dat (nI (mx (msL c th.length)))), some (.dat (nI a)), none, none, none, none, none]) := by
    simp [f_law_most_stay S, w0, hm, ha]
  have h3 : (sPar2 14 15 (cD (f1 gRgT (fR 11))) (cD (f1 gTupOf (fL (fLc (iR1 (fR 11)) (gN 18) tYesF (fTup (fCons (fV 18) fNil)) (List.map (fun p : PySem.Str × Nat => p.2) [("_law_k", 18)])))))) [some (.dat (.tuple th)), some (.dat O), some (.dat (.list (.int x0 :: r))), none, none, none, none, none, none, some (.dat (tN st)), some (.dat (tF fs)), some (.dat (nI th.length)), some (.dat (nI (mx (msL c th.length)))), some (.dat (nI a)), none, none, none, none, none]
      = some (.nx [some (.dat (.tuple th)), some (.dat O), some (.dat (.list (.int x0 :: r))), none, none, none, none, none, none, some (.dat (tN st)), some (.dat (tF fs)), some (.dat (nI th.length)), some (.dat (nI (mx (msL c th.length)))), some (.dat (nI a)), some (.dat (tN (List.range th.length))), some (.dat (tF ((List.range th.length).map fun k => [k]))), none, none, none]) := by
    have hl : lcGo (gN 18) tYesF (fTup (fCons (fV 18) fNil)) [some (.dat (.tuple th)), some (.dat O), some (.dat (.list (.int x0 :: r))), none, none, none, none, none, none, some (.dat (tN st)), some (.dat (tF fs)), some (.dat (nI th.length)), some (.dat (nI (mx (msL c th.length)))), some (.dat (nI a)), none, none, none, none, none] (rangeD 0 th.length) = some ((List.range th.length).map fun k => tN [k]) := lcGo_rng (fun k => tN [k]) fun k hk => by simp [lim_ok]
    have hrl : (rangeD 0 th.length).length = th.length := by rw [rangeD_zero]; simp
    have L : ∀ {α : Type} (a : α), lim th.length a = some a := fun a => lim_ok (by omega)
    simp [hr]
    rw [if_pos (by omega)]
    simp [hrl, L, hl]
  have h4 : (sSet 3 (fV 10)) [some (.dat (.tuple th)), some (.dat O), some (.dat (.list (.int x0 :: r))), none, none, none, none, none, none, some (.dat (tN st)), some (.dat (tF fs)), some (.dat (nI th.length)), some (.dat (nI (mx (msL c th.length)))), some (.dat (nI a)), some (.dat (tN (List.range th.length))), some (.dat (tF ((List.range th.length).map fun k => [k]))), none, none, none]
      = some (.nx [some (.dat (.tuple th)), some (.dat O), some (.dat (.list (.int x0 :: r))), some (.dat (tF fs)), none, none, none, none, none, some (.dat (tN st)), some (.dat (tF fs)), some (.dat (nI th.length)), some (.dat (nI (mx (msL c th.length)))), some (.dat (nI a)), some (.dat (tN (List.range th.length))), some (.dat (tF ((List.range th.length).map fun k => [k]))), none, none, none]) := by simp
  obtain ⟨two, a', ht, h5⟩ := sy_two fs (by omega) hff7 a (some (.dat (.tuple th))) (some (.dat O)) (some (.dat (.list (.int x0 :: r)))) (some (.dat (tN st))) (some (.dat (nI th.length))) (some (.dat (nI (mx (msL c th.length))))) (some (.dat (tN (List.range th.length)))) (some (.dat (tF ((List.range th.length).map fun k => [k]))))
  have h6 : (sSet 4 (fCall F_law_arranged (fCons (fV 0) (fCons (fV 1) fNil)))) [some (.dat (.tuple th)), some (.dat O), some (.dat (.list (.int x0 :: r))), some (.dat (tF two)), none, none, none, none, none, some (.dat (tN st)), some (.dat (tF fs)), some (.dat (nI th.length)), some (.dat (nI (mx (msL c th.length)))), some (.dat (nI a')), some (.dat (tN (List.range th.length))), some (.dat (tF ((List.range th.length).map fun k => [k]))), none, none, none]
      = some (.nx [some (.dat (.tuple th)), some (.dat O), some (.dat (.list (.int x0 :: r))), some (.dat (tF two)), some (.dat (tN (arr c th.length))), none, none, none, none, some (.dat (tN st)), some (.dat (tF fs)), some (.dat (nI th.length)), some (.dat (nI (mx (msL c th.length)))), some (.dat (nI a')), some (.dat (tN (List.range th.length))), some (.dat (tF ((List.range th.length).map fun k => [k]))), none, none, none]) := by
    simp [f_law_arranged S]
  have c1 := cutD_len fs (some 1) none
  have c2 := cutD_len fs none (some (-1))
  have c3 := cutD_len fs none (some 1)
  obtain ⟨ts, h7, ht2, ht3⟩ : ∃ ts, (sSet 5 (fL (fLst (fCons (fV 10) (fCons (fV 15) (fCons (fTup (fCons (fV 14) fNil)) (fCons (f2 gAdd (fR 10) (fTup (fCons (fTup fNil) fNil))) (fCons (fSl (fR 10) (oSome (fC (.int 1))) oNone) (fCons (fSl (fR 10) oNone (oSome (f1 gNeg (fC (.int 1))))) (fCons (f2 gAdd (fR 10) (fSl (fR 10) oNone (oSome (fC (.int 1))))) (fCons (fV 3) (fCons (fTup (fCons (f1 gRevT (fR 4)) fNil)) (fCons (fTup fNil) fNil))))))))))))) [some (.dat (.tuple th)), some (.dat O), some (.dat (.list (.int x0 :: r))), some (.dat (tF two)), some (.dat (tN (arr c th.length))), none, none, none, none, some (.dat (tN st)), some (.dat (tF fs)), some (.dat (nI th.length)), some (.dat (nI (mx (msL c th.length)))), some (.dat (nI a')), some (.dat (tN (List.range th.length))), some (.dat (tF ((List.range th.length).map fun k => [k]))), none, none, none]
      = some (.nx [some (.dat (.tuple th)), some (.dat O), some (.dat (.list (.int x0 :: r))), some (.dat (tF two)), some (.dat (tN (arr c th.length))), some (.dat (.list ts)), none, none, none, some (.dat (tN st)), some (.dat (tF fs)), some (.dat (nI th.length)), some (.dat (nI (mx (msL c th.length)))), some (.dat (nI a')), some (.dat (tN (List.range th.length))), some (.dat (tF ((List.range th.length).map fun k => [k]))), none, none, none]) ∧ TFs ts ∧ ts.length = 10 := by
    refine ⟨[tF fs, tF ((List.range th.length).map fun k => [k]), tF [List.range th.length], tF (fs ++ [[]]), tF (cutD fs (some 1) none), tF (cutD fs none (some (-1))), tF (fs ++ cutD fs none (some 1)), tF two, tF [(arr c th.length).reverse], tF []], ?_, ?_, rfl⟩
    · have L1 : ∀ {α : Type} (a : α), lim (fs.length + 1) a = some a := fun a => lim_ok (by omega)
      have L2 : ∀ {α : Type} (a : α), lim (fs.length + (cutD fs none (some 1)).length) a = some a := fun a => lim_ok (by omega)
      simp [lim_ok, L1, L2]
    · have b0 : TF1 fs := ⟨by omega, fun f hf => by have := hff7 f hf; omega⟩
      have b1 : TF1 ((List.range th.length).map fun k => [k]) := ⟨by simp; omega, fun f hf => by obtain ⟨k, _, rfl⟩ := List.mem_map.mp hf; simp⟩
      have b2 : TF1 [List.range th.length] := ⟨by simp, fun f hf => by rw [List.mem_singleton.mp hf]; simp; omega⟩
      have b3 : TF1 (fs ++ [[]]) := TF1.app (by simp; omega) b0.2 (fun f hf => by rw [List.mem_singleton.mp hf]; simp)
      have b6 : TF1 (fs ++ cutD fs none (some 1)) := TF1.app (by omega) b0.2 (b0.cut _ _).2
      have b8 : TF1 [(arr c th.length).reverse] := ⟨by simp, fun f hf => by rw [List.mem_singleton.mp hf]; simp; omega⟩
      have b9 : TF1 [] := ⟨by simp, fun f hf => by cases hf⟩
      exact .cons b0 (.cons b1 (.cons b2 (.cons b3 (.cons (b0.cut _ _) (.cons (b0.cut _ _) (.cons b6 (.cons ht (.cons b8 (.cons b9 .nil)))))))))
  have d1 := cutD_len st none (some 1)
  have d2 := cutD_len st (some 1) none
  have d3 := cutD_len st (some (-1)) none
  have d4 := cutD_len (List.range th.length) none (some (fs.length : Int))
  rw [List.length_range] at d4
  obtain ⟨ws, h8, hw2, hw3⟩ : ∃ ws, (sSet 6 (fL (fLst (fCons (fV 9) (fCons (fV 14) (fCons (fV 4) (fCons (fSl (fR 9) oNone (oSome (fC (.int 1)))) (fCons (fSl (fR 9) (oSome (fC (.int 1))) oNone) (fCons (f2 gAdd (fR 9) (fSl (fR 9) (oSome (f1 gNeg (fC (.int 1)))) oNone)) (fCons (fSl (fR 14) oNone (oSome (f1 gLen (fR 10)))) (fCons (fTup fNil) fNil))))))))))) [some (.dat (.tuple th)), some (.dat O), some (.dat (.list (.int x0 :: r))), some (.dat (tF two)), some (.dat (tN (arr c th.length))), some (.dat (.list ts)), none, none, none, some (.dat (tN st)), some (.dat (tF fs)), some (.dat (nI th.length)), some (.dat (nI (mx (msL c th.length)))), some (.dat (nI a')), some (.dat (tN (List.range th.length))), some (.dat (tF ((List.range th.length).map fun k => [k]))), none, none, none]
      = some (.nx [some (.dat (.tuple th)), some (.dat O), some (.dat (.list (.int x0 :: r))), some (.dat (tF two)), some (.dat (tN (arr c th.length))), some (.dat (.list ts)), some (.dat (.list ws)), none, none, some (.dat (tN st)), some (.dat (tF fs)), some (.dat (nI th.length)), some (.dat (nI (mx (msL c th.length)))), some (.dat (nI a')), some (.dat (tN (List.range th.length))), some (.dat (tF ((List.range th.length).map fun k => [k]))), none, none, none]) ∧ TNs ws ∧ ws.length = 8 := by
    refine ⟨[tN st, tN (List.range th.length), tN (arr c th.length), tN (cutD st none (some 1)), tN (cutD st (some 1) none), tN (st ++ cutD st (some (-1)) none), tN (cutD (List.range th.length) none (some (fs.length : Int))), tN []], ?_, ?_, rfl⟩
    · have L2 : ∀ {α : Type} (a : α), lim (st.length + (cutD st (some (-1)) none).length) a = some a := fun a => lim_ok (by omega)
      simp [lim_ok, L2]
    · exact .cons (by omega) (.cons (by simp; omega) (.cons (by omega) (.cons (by omega) (.cons (by omega) (.cons (by simp; omega) (.cons (by omega) (.cons (by simp) .nil)))))))
  have h9 : (sSetF 7 (fLst fNil)) [some (.dat (.tuple th)), some (.dat O), some (.dat (.list (.int x0 :: r))), some (.dat (tF two)), some (.dat (tN (arr c th.length))), some (.dat (.list ts)), some (.dat (.list ws)), none, none, some (.dat (tN st)), some (.dat (tF fs)), some (.dat (nI th.length)), some (.dat (nI (mx (msL c th.length)))), some (.dat (nI a')), some (.dat (tN (List.range th.length))), some (.dat (tF ((List.range th.length).map fun k => [k]))), none, none, none]
      = some (.nx (sySt th O c (some (.dat (.list (.int x0 :: r)))) (some (.dat (tF two))) (some (.dat (tN (arr c th.length)))) ts (some (.dat (.list ws))) [] none (some (.dat (tN st))) (some (.dat (tF fs))) (some (.dat (nI th.length))) (some (.dat (nI a'))) (some (.dat (tN (List.range th.length)))) (some (.dat (tF ((List.range th.length).map fun k => [k])))) none none none)) := by
    simp [lim_ok]
  have h10 : (iL (fV 6)) (sySt th O c (some (.dat (.list (.int x0 :: r)))) (some (.dat (tF two))) (some (.dat (tN (arr c th.length)))) ts (some (.dat (.list ws))) [] none (some (.dat (tN st))) (some (.dat (tF fs))) (some (.dat (nI th.length))) (some (.dat (nI a'))) (some (.dat (tN (List.range th.length)))) (some (.dat (tF ((List.range th.length).map fun k => [k])))) none none none) = some ws := rfl
  obtain ⟨ρ', e, zs, x8, x16, x17, rfl, q1, q2⟩ := loop_inv (g := gN 8) (b := sy1) (fun k ρ => ∃ zs x8 x16 x17, ρ = sySt th O c (some (.dat (.list (.int x0 :: r)))) (some (.dat (tF two))) (some (.dat (tN (arr c th.length)))) ts (some (.dat (.list ws))) zs x8 (some (.dat (tN st))) (some (.dat (tF fs))) (some (.dat (nI th.length))) (some (.dat (nI a'))) (some (.dat (tN (List.range th.length)))) (some (.dat (tF ((List.range th.length).map fun k => [k])))) x16 x17 none ∧ AllOk zs ∧ zs.length = 20 * k) ws 0 (by
    rintro k d hd ρ ⟨zs, x8, x16, x17, rfl, q1, q2⟩
    obtain ⟨l, rfl, hl⟩ := hw2 d (List.mem_of_getElem? hd)
    have hk : k < ws.length := (List.getElem?_eq_some_iff.mp hd).1
    obtain ⟨zs', y16, y17, p1, p2, p3⟩ := sy_1 S (some (.dat (.list (.int x0 :: r)))) (some (.dat (tF two))) (some (.dat (tN (arr c th.length)))) ts ht2 ht3 (some (.dat (.list ws))) zs (some (.dat (tN st))) (some (.dat (tF fs))) (some (.dat (nI th.length))) (some (.dat (nI a'))) (some (.dat (tN (List.range th.length)))) (some (.dat (tF ((List.range th.length).map fun k => [k])))) x16 x17 none l hl q1 (by omega)
    exact ⟨_, _, rfl, p3, zs', _, _, _, rfl, p1, by omega⟩) _ ⟨[], none, none, none, rfl, AllOk.nil, rfl⟩
  rw [sSeq_nx h1, sSeq_nx h2, sSeq_nx h3, sSeq_nx h4, sSeq_nx (g := syTwo) h5, sSeq_nx h6, sSeq_nx h7, sSeq_nx h8, sSeq_nx h9, sSeq_nx ((sFor_eq h10).trans e)]
  refine ⟨zs, ?_, q1, by omega⟩
  simp
end NM
/-! S15: law_runs -/
namespace NM
open PySem DL
variable {th : List D} {O : D} {c : Nat → Nat → Cm}
theorem flat_lN (l : List Nat) : (lN l).all flatD = true := by
  rw [List.all_eq_true]
  intro d hd
  obtain ⟨k, _, rfl⟩ := List.mem_map.mp hd
  rfl
theorem gNotIn_tN (k : Nat) (l : List Nat) : gNotIn (nI k) (tN l) = some (.bool (!decide (k ∈ l))) := by
  show (if flatD (nI k) = true ∧ (lN l).all flatD = true then some (PyData.bool (!inD (nI k) (lN l))) else none) = _
  rw [if_pos ⟨rfl, flat_lN l⟩]
  have : inD (nI k) (lN l) = decide (k ∈ l) := by
    unfold inD lN
    rw [List.any_map, Bool.eq_iff_iff, List.any_eq_true]
    constructor
    · rintro ⟨x, hx, e⟩
      have : (x : Int) = (k : Int) := by simpa [PyData.eqv] using e
      have : x = k := by omega
      subst this
      simpa using hx
    · intro h
      exact ⟨k, by simpa using h, by simp [PyData.eqv]⟩
  rw [this]
abbrev rnPs : Rho → Option (List D) := iL (fL (fLst (fCons (fV 9) (fCons (fV 4) (fCons (fSl (fR 4) oNone (oSome (fC (.int 1)))) (fCons (f1 gEvT (fR 4)) (fCons (f2 gAdd (fSl (fR 9) oNone (oSome (fV 3))) (fSl (fR 9) (oSome (f2 gAdd (fR 3) (fC (.int 1)))) oNone)) (fCons (fSl (fR 9) (oSome (fC (.int 1))) oNone) (fCons (fSl (fR 9) oNone (oSome (f1 gNeg (fC (.int 1))))) (fCons (fTup fNil) fNil))))))))))
abbrev rnB : Rho → Option Out := sSeq (sApp 5 (fTup (fCons (fTup (fCons (fC (.str "runs")) (fCons (fV 0) (fCons (fV 1) (fCons (f1 gLen (fR 6)) fNil))))) (fCons (fV 6) (fCons (f2 gEq (f1 gLen (fR 6)) (fR 10)) fNil)))))
  (sApp 5 (fTup (fCons (fTup (fCons (fC (.str "runs")) (fCons (fV 0) (fCons (fV 1) (fCons (f2 gAdd (f2 gAdd (fR 10) (fC (.int 1))) (f2 gMod (f2 gIx (fR 2) (fC (.int 1))) (fC (.int 3)))) fNil))))) (fCons (fV 6) (fCons (fC (.bool false)) fNil)))))
abbrev rnK : Rho → Option Out := sApp 5 (fTup (fCons (fTup (fCons (fC (.str "runs")) (fCons (fV 0) (fCons (fV 1) (fCons (f2 gAdd (fR 10) (fC (.int 1))) fNil))))) (fCons (f1 gTupOf (f1 gSorted (f2 gAdd (fR 9) (fTup (fCons (fV 8) fNil))))) (fCons (fC (.bool false)) fNil))))
abbrev rnF (th : List D) (c : Nat → Nat → Cm) : Nat := gd (fewL c th.length) th.length
abbrev rnSt (th : List D) (O : D) (c : Nat → Nat → Cm) (ys : List D) (a : Nat) (xs : List D) (x6 x7 x8 : Option Cell) (sl : List Nat) : Rho :=
  [some (.dat (.tuple th)), some (.dat O), some (.dat (.list ys)), some (.dat (nI a)), some (.dat (tN (List.range th.length))), some (.own xs), x6, x7, x8, some (.dat (tN sl)), some (.dat (nI (rnF th c))), some (.dat (nI th.length))]
theorem picks_lN (l : List Nat) (a b : Int) (n : Nat) : picks (lN l) a b n = lN (picks l a b n) := by
  unfold picks lN
  rw [List.map_filterMap]
  congr 1
  funext k
  rw [List.getElem?_map]
theorem picks_len {α : Type} (l : List α) (a b : Int) (n : Nat) : (picks l a b n).length ≤ n := by
  unfold picks
  have := List.length_filterMap_le (fun (k : Nat) => l[(a + (k : Int) * b).toNat]?) (List.range n)
  simpa using this
theorem rn_ps (S : Sit th O c) (ys : List D) (a : Nat) (xs : List D) (x6 x7 x8 : Option Cell) (sl : List Nat) (hs : sl.length ≤ 7) : ∃ ds, rnPs (rnSt th O c ys a xs x6 x7 x8 sl) = some ds ∧ TNs ds ∧ ds.length = 8 := by
  have n7 := S.n7
  have c1 := cutD_len (List.range th.length) none (some 1)
  have c2 := cutD_len sl none (some (a : Int))
  have c3 := cutD_len sl (some ((a : Int) + 1)) none
  have c4 := cutD_len sl (some 1) none
  have c5 := cutD_len sl none (some (-1))
  have c6 := picks_len (List.range th.length) 0 2 ((th.length + 1) / 2)
  rw [List.length_range] at c1
  refine ⟨[tN sl, tN (List.range th.length), tN (cutD (List.range th.length) none (some 1)), tN (picks (List.range th.length) 0 2 ((th.length + 1) / 2)), tN (cutD sl none (some (a : Int)) ++ cutD sl (some ((a : Int) + 1)) none), tN (cutD sl (some 1) none), tN (cutD sl none (some (-1))), tN []], ?_, ?_, rfl⟩
  · have L : ∀ {α : Type} (b : α), lim ((cutD sl none (some (a : Int))).length + (cutD sl (some ((a : Int) + 1)) none).length) b = some b := fun a => lim_ok (by omega)
    have hp := picks_lN (List.range th.length) 0 2 ((th.length + 1) / 2)
    simp only [lN] at hp
    simp [lim_ok, L, hp]
  · exact .cons (by omega) (.cons (by simp; omega) (.cons (by omega) (.cons (by omega) (.cons (by simp; omega) (.cons (by omega) (.cons (by omega) (.cons (by simp) .nil)))))))
theorem rn_body (S : Sit th O c) (x0 x1 : Int) (r : List D) (a : Nat) (xs : List D) (x7 x8 : Option Cell) (sl : List Nat) (l : List Nat) (hl : l.length ≤ 100) (hx : AllOk xs) (hn : xs.length ≤ 900) :
    ∃ zs, AllOk zs ∧ zs.length = xs.length + 2 ∧ rnB (rnSt th O c (.int x0 :: .int x1 :: r) a xs (some (.dat (tN l))) x7 x8 sl) = some (.nx (rnSt th O c (.int x0 :: .int x1 :: r) a zs (some (.dat (tN l))) x7 x8 sl)) := by
  let xs1 : List D := xs ++ [.tuple [.tuple [.str s_runs, .tuple th, O, nI l.length], tN l, .bool (decide (l.length = rnF th c))]]
  have k1 : AllOk xs1 := hx.snoc (ok_runs S l.length l hl)
  have l1 : xs1.length = xs.length + 1 := by simp [xs1]
  obtain ⟨m, hm, hm2⟩ := mod_nat x1 (m := 3) (by decide)
  refine ⟨xs1 ++ [.tuple [.tuple [.str s_runs, .tuple th, O, nI (rnF th c + 1 + m)], tN l, .bool false]], k1.snoc (ok_runs2 S _ l hl (by show rnF th c < _; omega)), by simp; omega, ?_⟩
  have w : L2.atI (PyData.int x0 :: PyData.int x1 :: r) 1 = some (.int x1) := atI_nat _ 1
  have h1 : (sApp 5 (fTup (fCons (fTup (fCons (fC (.str "runs")) (fCons (fV 0) (fCons (fV 1) (fCons (f1 gLen (fR 6)) fNil))))) (fCons (fV 6) (fCons (f2 gEq (f1 gLen (fR 6)) (fR 10)) fNil))))) (rnSt th O c (.int x0 :: .int x1 :: r) a xs (some (.dat (tN l))) x7 x8 sl) = some (.nx (rnSt th O c (.int x0 :: .int x1 :: r) a xs1 (some (.dat (tN l))) x7 x8 sl)) := by
    have L : ∀ {α : Type} (a : α), lim xs.length a = some a := fun a => lim_ok (by omega)
    have e9 : ((l.length : Int) = (rnF th c : Int)) ↔ (l.length = rnF th c) := by omega
    simp [lim_ok, L, xs1, e9]
  unfold rnB
  rw [sSeq_nx h1]
  clear_value xs1
  have L : ∀ {α : Type} (a : α), lim xs1.length a = some a := fun a => lim_ok (by omega)
  simp [lim_ok, L, w, hm]
theorem rn_split (S : Sit th O c) (ys : List D) (a : Nat) (xs : List D) (x6 x7 : Option Cell) (sl : List Nat) (hs : sl.length ≤ 7) (k : Nat) (hx : AllOk xs) (hn : xs.length ≤ 900) :
    ∃ zs, AllOk zs ∧ zs.length = xs.length + 1 ∧ rnK (rnSt th O c ys a xs x6 x7 (some (.dat (nI k))) sl) = some (.nx (rnSt th O c ys a zs x6 x7 (some (.dat (nI k))) sl)) := by
  have np := (nsort_perm (sl ++ [k])).length_eq
  simp at np
  refine ⟨xs ++ [.tuple [.tuple [.str s_runs, .tuple th, O, nI (rnF th c + 1)], tN (nsort (sl ++ [k])), .bool false]], hx.snoc (ok_runs2 S _ _ (by omega) (by show rnF th c < _; omega)), by simp, ?_⟩
  have L : ∀ {α : Type} (a : α), lim xs.length a = some a := fun a => lim_ok (by omega)
  have L2 : ∀ {α : Type} (a : α), lim (sl.length + 1) a = some a := fun a => lim_ok (by omega)
  have gs : gSorted (.tuple (lN sl ++ [nI k])) = some (.list (lN (nsort (sl ++ [k])))) := by
    rw [show lN sl ++ [nI k] = lN (sl ++ [k]) by simp, gSorted_tN]
  simp [lim_ok, L, L2, gs]
theorem rn_h6 (S : Sit th O c) (ys : List D) (a : Nat) (zs : List D) (x6 : Option Cell) (sl : List Nat) : (sSet 7 (fL (fLc (iT (fV 4)) (gN 8) (fB (f2 gNotIn (fR 8) (fR 9))) (fV 8) (List.map (fun p : PySem.Str × Nat => p.2) [("_law_k", 8)])))) (rnSt th O c ys a zs x6 none none sl) = some (.nx (rnSt th O c ys a zs x6 (some (.dat (.list (lN ((List.range th.length).filter fun k => !decide (k ∈ sl)))))) none sl)) := by
  have n7 := S.n7
  have hl : lcGo (gN 8) (fB (f2 gNotIn (fR 8) (fR 9))) (fV 8) (rnSt th O c ys a zs x6 none none sl) (rangeD 0 th.length) = some (((List.range th.length).filter fun k => !decide (k ∈ sl)).map nI) := lcGo_rngF (j := 8) (n := th.length) (fun k => !decide (k ∈ sl)) nI (fun k hk => by
    have := gNotIn_tN k sl
    simp [this])
  rw [rangeD_zero] at hl
  have L : ∀ {α : Type} (a : α), lim th.length a = some a := fun a => lim_ok (by omega)
  have h1 : (fLc (iT (fV 4)) (gN 8) (fB (f2 gNotIn (fR 8) (fR 9))) (fV 8) (List.map (fun p : PySem.Str × Nat => p.2) [("_law_k", 8)])) (rnSt th O c ys a zs x6 none none sl) = some (((List.range th.length).filter fun k => !decide (k ∈ sl)).map nI) := by
    rw [e_fLc]
    have : (iT (fV 4)) (rnSt th O c ys a zs x6 none none sl) = some (lN (List.range th.length)) := rfl
    rw [this, Option.bind_some, List.length_map, List.length_range, L, Option.bind_some]
    exact hl
  rw [e_sSet, e_fL, h1]
  rfl
theorem rn_h1 (F G : List D → Option D) (R O X a b : D) (hF : F [.tuple th, O] = some a) (hG : G [.tuple th, O] = some b) : (sAsg (fTup (fCons (fCall F (fCons (fV 0) (fCons (fV 1) fNil))) (fCons (fCall G (fCons (fV 0) (fCons (fV 1) fNil))) (fCons (f1 gLen (fR 0)) fNil)))) (gT [9, 10, 11])) [some (.dat (.tuple th)), some (.dat O), some (.dat X), none, none, none, none, none, none, none, none, none]
      = some (.nx [some (.dat (.tuple th)), some (.dat O), some (.dat X), none, none, none, none, none, none, some (.dat a), some (.dat b), some (.dat (nI th.length))]) := by
  simp [hF, hG, lim_ok]
theorem f_law_runs (S : Sit th O c) (x0 x1 : Int) (r : List D) : ∃ ds, F_law_runs [.tuple th, O, .list (.int x0 :: .int x1 :: r)] = some (.list ds) ∧ AllOk ds ∧ ds.length ≤ 1000 := by
  have n7 := S.n7
  obtain ⟨sl, fi, hst, hI, hsl⟩ := f_law_starts S
  have hs7 : sl.length ≤ 7 := by omega
  rw [u_law_runs]
  unfold B_law_runs
  have hm : (0 : Int) < (if (1 : Int) < (sl.length : Int) then (sl.length : Int) else 1) := by split <;> omega
  obtain ⟨a, ha, _⟩ := mod_nat x0 hm
  have w0 : L2.atI (PyData.int x0 :: PyData.int x1 :: r) 0 = some (.int x0) := atI_nat _ 0
  have hr : gRgT (nI th.length) = some (tN (List.range th.length)) := by
    rw [e_gRgT, if_pos (by omega), rangeD_zero]
    simp
  have h1 : (sAsg (fTup (fCons (fCall F_law_starts (fCons (fV 0) (fCons (fV 1) fNil))) (fCons (fCall F_law_fewest (fCons (fV 0) (fCons (fV 1) fNil))) (fCons (f1 gLen (fR 0)) fNil)))) (gT [9, 10, 11])) [some (.dat (.tuple th)), some (.dat O), some (.dat (.list (.int x0 :: .int x1 :: r))), none, none, none, none, none, none, none, none, none]
      = some (.nx [some (.dat (.tuple th)), some (.dat O), some (.dat (.list (.int x0 :: .int x1 :: r))), none, none, none, none, none, none, some (.dat (tN sl)), some (.dat (nI (rnF th c))), some (.dat (nI th.length))]) := by
    exact rn_h1 F_law_starts F_law_fewest (.tuple th) O _ _ _ hst (f_law_fewest S)
  have h2 : (sSet 3 (f2 gMod (f2 gIx (fR 2) (fC (.int 0))) (f2 gMax2 (fC (.int 1)) (f1 gLen (fR 9))))) [some (.dat (.tuple th)), some (.dat O), some (.dat (.list (.int x0 :: .int x1 :: r))), none, none, none, none, none, none, some (.dat (tN sl)), some (.dat (nI (rnF th c))), some (.dat (nI th.length))]
      = some (.nx [some (.dat (.tuple th)), some (.dat O), some (.dat (.list (.int x0 :: .int x1 :: r))), some (.dat (nI a)), none, none, none, none, none, some (.dat (tN sl)), some (.dat (nI (rnF th c))), some (.dat (nI th.length))]) := by
    simp [w0, hm, ha]
  have h3 : (sSet 4 (f1 gRgT (fR 11))) [some (.dat (.tuple th)), some (.dat O), some (.dat (.list (.int x0 :: .int x1 :: r))), some (.dat (nI a)), none, none, none, none, none, some (.dat (tN sl)), some (.dat (nI (rnF th c))), some (.dat (nI th.length))]
      = some (.nx [some (.dat (.tuple th)), some (.dat O), some (.dat (.list (.int x0 :: .int x1 :: r))), some (.dat (nI a)), some (.dat (tN (List.range th.length))), none, none, none, none, some (.dat (tN sl)), some (.dat (nI (rnF th c))), some (.dat (nI th.length))]) := by
    simp [hr]
  have h4 : (sSetF 5 (fLst fNil)) [some (.dat (.tuple th)), some (.dat O), some (.dat (.list (.int x0 :: .int x1 :: r))), some (.dat (nI a)), some (.dat (tN (List.range th.length))), none, none, none, none, some (.dat (tN sl)), some (.dat (nI (rnF th c))), some (.dat (nI th.length))]
      = some (.nx (rnSt th O c (.int x0 :: .int x1 :: r) a [] none none none sl)) := by
    simp [lim_ok]
  obtain ⟨ds, d1, d2, d3⟩ := rn_ps S (.int x0 :: .int x1 :: r) a [] none none none sl hs7
  obtain ⟨ρ', e, zs, x6, rfl, q1, q2⟩ := loop_inv (g := gN 6) (b := rnB) (fun k ρ => ∃ zs x6, ρ = rnSt th O c (.int x0 :: .int x1 :: r) a zs x6 none none sl ∧ AllOk zs ∧ zs.length = 2 * k) ds 0 (by
    rintro k d hd ρ ⟨zs, x6, rfl, q1, q2⟩
    obtain ⟨l, rfl, hl⟩ := d2 d (List.mem_of_getElem? hd)
    have hk : k < ds.length := (List.getElem?_eq_some_iff.mp hd).1
    obtain ⟨zs', p1, p2, p3⟩ := rn_body S x0 x1 r a zs none none sl l hl q1 (by omega)
    exact ⟨_, _, rfl, p3, zs', _, rfl, p1, by omega⟩) _ ⟨[], none, rfl, AllOk.nil, rfl⟩
  have h6 := rn_h6 S (.int x0 :: .int x1 :: r) a zs x6 sl
  have fl : ((List.range th.length).filter fun k => !decide (k ∈ sl)).length ≤ 7 := by
    have := List.length_filter_le (fun k => !decide (k ∈ sl)) (List.range th.length)
    rw [List.length_range] at this
    omega
  obtain ⟨ρ'', e2, ws, x8, rfl, r1, r2⟩ := loop_inv (g := gN 8) (b := rnK) (fun k ρ => ∃ ws x8, ρ = rnSt th O c (.int x0 :: .int x1 :: r) a ws x6 (some (.dat (.list (lN ((List.range th.length).filter fun k => !decide (k ∈ sl)))))) x8 sl ∧ AllOk ws ∧ ws.length = zs.length + k) (lN ((List.range th.length).filter fun k => !decide (k ∈ sl))) 0 (by
    rintro k d hd ρ ⟨ws, x8, rfl, q1, q2⟩
    have hk : k < (lN ((List.range th.length).filter fun k => !decide (k ∈ sl))).length := (List.getElem?_eq_some_iff.mp hd).1
    rw [List.length_map] at hk
    obtain ⟨m, _, rfl⟩ := List.mem_map.mp (List.mem_of_getElem? hd)
    obtain ⟨ws', p1, p2, p3⟩ := rn_split S (.int x0 :: .int x1 :: r) a ws x6 (some (.dat (.list (lN ((List.range th.length).filter fun k => !decide (k ∈ sl)))))) sl hs7 m q1 (by omega)
    exact ⟨_, _, rfl, p3, ws', _, rfl, p1, by omega⟩) _ ⟨zs, none, rfl, q1, rfl⟩
  have h7 : (iL (fV 7)) (rnSt th O c (.int x0 :: .int x1 :: r) a zs x6 (some (.dat (.list (lN ((List.range th.length).filter fun k => !decide (k ∈ sl)))))) none sl) = some (lN ((List.range th.length).filter fun k => !decide (k ∈ sl))) := rfl
  rw [sSeq_nx h1, sSeq_nx h2, sSeq_nx h3, sSeq_nx h4, sSeq_nx (g := sFor rnPs (gN 6) rnB) ((sFor_eq d1).trans e), sSeq_nx h6, sSeq_nx (g := sFor (iL (fV 7)) (gN 8) rnK) ((sFor_eq h7).trans e2)]
  rw [List.length_map] at r2
  refine ⟨ws, ?_, r1, by omega⟩
  simp
end NM
/-! S16: law_shown -/
namespace NM
open PySem DL
variable {th : List D} {O : D} {c : Nat → Nat → Cm}
theorem sh_par3 (F G H : List D → Option D) {R O a b d : D} (hF : F [R, O] = some a) (hG : G [R, O] = some b) (hH : H [R, O] = some d) : (sPar3 4 5 6 (cD (fCall F (fCons (fV 0) (fCons (fV 1) fNil)))) (cD (fCall G (fCons (fV 0) (fCons (fV 1) fNil)))) (cD (fCall H (fCons (fV 0) (fCons (fV 1) fNil))))) [some (.dat R), some (.dat O), none, none, none, none, none, none, none, none, none]
    = some (.nx [some (.dat R), some (.dat O), none, none, some (.dat a), some (.dat b), some (.dat d), none, none, none, none]) := by
  simp [hF, hG, hH]
abbrev shB : Rho → Option Out := sExt 2 (fLc (iR1 (fR 3)) (gN 10) tYesF (fCall F_holds (fCons (fTup (fCons (fC (.str "unheld")) (fCons (fV 0) (fCons (fV 1) fNil)))) (fCons (fTup (fCons (fV 10) (fCons (fV 3) fNil))) fNil))) (List.map (fun p : PySem.Str × Nat => p.2) [("_law_x", 10)]))
theorem sh_un (F : List D → Option D) (R O : D) (x y : Nat) (a2 a4 a5 a6 a7 a8 a9 : Option Cell) (b : D) (hF : F [.tuple [.str s_unheld, R, O], .tuple [nI x, nI y]] = some b) : (fCall F (fCons (fTup (fCons (fC (.str "unheld")) (fCons (fV 0) (fCons (fV 1) fNil)))) (fCons (fTup (fCons (fV 10) (fCons (fV 3) fNil))) fNil))) [some (.dat R), some (.dat O), a2, some (.dat (nI y)), a4, a5, a6, a7, a8, a9, some (.dat (nI x))] = some b := by
  simp [lim_ok, hF]
theorem sh_body (S : Sit th O c) (y : Nat) (hy : y < th.length) (bs : List Bool) (hb : bs.length ≤ 1000) (a4 a5 a6 a7 a8 a9 x10 : Option Cell) : shB [some (.dat (.tuple th)), some (.dat O), some (.own (bs.map .bool)), some (.dat (nI y)), a4, a5, a6, a7, a8, a9, x10]
    = some (.nx [some (.dat (.tuple th)), some (.dat O), some (.own ((bs ++ (List.range y).map fun x => decide (c x y = .no)).map .bool)), some (.dat (nI y)), a4, a5, a6, a7, a8, a9, x10]) := by
  have n7 := S.n7
  have h1 : (fLc (iR1 (fR 3)) (gN 10) tYesF (fCall F_holds (fCons (fTup (fCons (fC (.str "unheld")) (fCons (fV 0) (fCons (fV 1) fNil)))) (fCons (fTup (fCons (fV 10) (fCons (fV 3) fNil))) fNil))) (List.map (fun p : PySem.Str × Nat => p.2) [("_law_x", 10)])) [some (.dat (.tuple th)), some (.dat O), some (.own (bs.map .bool)), some (.dat (nI y)), a4, a5, a6, a7, a8, a9, x10] = some ((List.range y).map fun x => .bool (decide (c x y = .no))) := by
    have hr : (iR1 (fR 3)) [some (.dat (.tuple th)), some (.dat O), some (.own (bs.map .bool)), some (.dat (nI y)), a4, a5, a6, a7, a8, a9, x10] = some (rangeD 0 y) := iR1_nat y rfl (by omega)
    have hrl : (rangeD 0 y).length = y := by rw [rangeD_zero]; simp
    rw [e_fLc, hr, Option.bind_some, hrl, lim_ok (by omega), Option.bind_some]
    exact lcGo_rng (j := 10) (n := y) (fun x => .bool (decide (c x y = .no))) fun x hx => by
      refine sh_un F_holds (.tuple th) O x y _ _ _ _ _ _ _ _ ?_
      rw [h_unheld S, f_judge_unheld S x y hx hy]
  rw [shB, e_sExt, h1]
  have L : ∀ {α : Type} (a : α), lim (bs.length + y) a = some a := fun a => lim_ok (by omega)
  simp [L]
theorem sh_if1 (F : List D → Option D) (R O L : D) (H : Bool) (bs : List Bool) (hF : F [.tuple [.str s_held, R, O], L] = some (.bool H)) (hb : bs.any id = !H) (a3 a5 a7 a8 a9 a10 : Option Cell) :
    (sIf (tOrF (fB (f2 gNe (fCall F (fCons (fTup (fCons (fC (.str "held")) (fCons (fV 0) (fCons (fV 1) fNil)))) (fCons (fV 4) fNil))) (fR 6))) (fB (f2 gEq (f1 gAny (fR 2)) (fR 6)))) (sRet (fC (.bool false))) sNx) [some (.dat R), some (.dat O), some (.own (bs.map .bool)), a3, some (.dat L), a5, some (.dat (.bool H)), a7, a8, a9, a10]
    = some (.nx [some (.dat R), some (.dat O), some (.own (bs.map .bool)), a3, some (.dat L), a5, some (.dat (.bool H)), a7, a8, a9, a10]) := by
  have ha : gAny (.list (bs.map .bool)) = some (.bool (!H)) := by
    show (blsOf _).map _ = _
    rw [blsOf_map]
    show some (PyData.bool (bs.any id)) = _
    rw [hb]
  cases H <;> simp [lim_ok, hF, ha]
theorem sh_asg (F G : List D → Option D) (R O a b d : D) (hF : F [R, O] = some a) (hG : G [R, O] = some (.tuple [b, d])) (a2 a3 a4 a5 a6 a10 : Option Cell) :
    (sAsg (f2 gAdd (fTup (fCons (fCall F (fCons (fV 0) (fCons (fV 1) fNil))) fNil)) (fCall G (fCons (fV 0) (fCons (fV 1) fNil)))) (gT [7, 8, 9])) [some (.dat R), some (.dat O), a2, a3, a4, a5, a6, none, none, none, a10]
    = some (.nx [some (.dat R), some (.dat O), a2, a3, a4, a5, a6, some (.dat a), some (.dat b), some (.dat d), a10]) := by
  simp [lim_ok, hF, hG]
theorem sh_if2 (F G : List D → Option D) (R O : D) (l : List Nat) (hF : F [R, O] = some (nI l.length)) (hG : G [.tuple [.str s_runs, R, O, nI l.length], tN l] = some (.bool true)) (a2 a3 a4 a5 a6 a8 a9 a10 : Option Cell) :
    (sIf (tOrF (fB (f2 gNe (f1 gLen (fR 7)) (fCall F (fCons (fV 0) (fCons (fV 1) fNil))))) (tNotF (fB (fCall G (fCons (fTup (fCons (fC (.str "runs")) (fCons (fV 0) (fCons (fV 1) (fCons (f1 gLen (fR 7)) fNil))))) (fCons (fV 7) fNil)))))) (sRet (fC (.bool false))) sNx) [some (.dat R), some (.dat O), a2, a3, a4, a5, a6, some (.dat (tN l)), a8, a9, a10]
    = some (.nx [some (.dat R), some (.dat O), a2, a3, a4, a5, a6, some (.dat (tN l)), a8, a9, a10]) := by
  simp [lim_ok, hF, hG]
theorem sh_if3 (F G : List D → Option D) (R O : D) (st : List Nat) (fs : List (List Nat)) (hF : F [R, O] = some (nI fs.length)) (hG : G [.tuple [.str s_stays, R, O, nI fs.length], .tuple [tN st, tF fs]] = some (.bool true)) (a2 a3 a4 a5 a6 a7 a10 : Option Cell) :
    (sIf (tOrF (fB (f2 gNe (f1 gLen (fR 9)) (fCall F (fCons (fV 0) (fCons (fV 1) fNil))))) (tNotF (fB (fCall G (fCons (fTup (fCons (fC (.str "stays")) (fCons (fV 0) (fCons (fV 1) (fCons (f1 gLen (fR 9)) fNil))))) (fCons (fTup (fCons (fV 8) (fCons (fV 9) fNil))) fNil)))))) (sRet (fC (.bool false))) sNx) [some (.dat R), some (.dat O), a2, a3, a4, a5, a6, a7, some (.dat (tN st)), some (.dat (tF fs)), a10]
    = some (.nx [some (.dat R), some (.dat O), a2, a3, a4, a5, a6, a7, some (.dat (tN st)), some (.dat (tF fs)), a10]) := by
  simp [lim_ok, hF, hG]
theorem sh_last (F G : List D → Option D) (R O : D) (l ps : List Nat) (hF : F [R, O] = some (nI ps.length)) (hG : G [.tuple [.str s_wrong, R, O, nI ps.length], .tuple [tN l, tN ps]] = some (.bool true)) (a2 a3 a6 a7 a8 a9 a10 : Option Cell) :
    (sRet (fAnd (f2 gEq (f1 gLen (fR 5)) (fCall F (fCons (fV 0) (fCons (fV 1) fNil)))) (fCall G (fCons (fTup (fCons (fC (.str "wrong")) (fCons (fV 0) (fCons (fV 1) (fCons (f1 gLen (fR 5)) fNil))))) (fCons (fTup (fCons (fV 4) (fCons (fV 5) fNil))) fNil))))) [some (.dat R), some (.dat O), a2, a3, some (.dat (tN l)), some (.dat (tN ps)), a6, a7, a8, a9, a10]
    = some (.rt (.bool true)) := by
  simp [lim_ok, hF, hG]
theorem sIf_rt {t : Rho → Option Bool} {g h : Rho → Option Out} {ρ : Rho} {d : D} {k : Rho → Option Out} (ht : t ρ = some true) (hg : g ρ = some (.rt d)) : sSeq (sIf t g h) k ρ = some (.rt d) := by
  rw [e_sSeq, e_sIf, ht, Option.bind_some, if_pos rfl, hg]; rfl
theorem sIf_nx {t : Rho → Option Bool} {g : Rho → Option Out} {ρ : Rho} {k : Rho → Option Out} (ht : t ρ = some false) : sSeq (sIf t g sNx) k ρ = k ρ :=
  sSeq_nx (by rw [e_sIf, ht, Option.bind_some, if_neg (by decide)]; rfl)
theorem f_law_shown (S : Sit th O c) : F_law_shown [.tuple th, O] = some (.bool true) := by
  have n7 := S.n7
  have hal := arr_len c th.length
  have hpl7 := plc_len c th.length n7
  rw [u_law_shown]
  unfold B_law_shown
  rw [sSeq_nx (sh_par3 F_law_arranged F_law_places F_law_all_held (f_law_arranged S) (f_law_places S) (f_law_all_held S))]
  have h2 : (sSetF 2 (fLst fNil)) [some (.dat (.tuple th)), some (.dat O), none, none, some (.dat (tN (arr c th.length))), some (.dat (tN (plc c th.length))), some (.dat (.bool (heldB th.length c))), none, none, none, none] = some (.nx [some (.dat (.tuple th)), some (.dat O), some (.own []), none, some (.dat (tN (arr c th.length))), some (.dat (tN (plc c th.length))), some (.dat (.bool (heldB th.length c))), none, none, none, none]) := by simp [lim_ok]
  rw [sSeq_nx h2]
  have h3 : (iR1 (f1 gLen (fR 0))) [some (.dat (.tuple th)), some (.dat O), some (.own []), none, some (.dat (tN (arr c th.length))), some (.dat (tN (plc c th.length))), some (.dat (.bool (heldB th.length c))), none, none, none, none] = some (rangeD 0 th.length) := iR1_nat th.length rfl (by omega)
  obtain ⟨ρ', e, bs, x3, rfl, q1, q2⟩ := loop_rng (n := th.length) (g := gN 3) (b := shB)
    (fun k ρ => ∃ bs x3, ρ = [some (.dat (.tuple th)), some (.dat O), some (.own (bs.map .bool)), x3, some (.dat (tN (arr c th.length))), some (.dat (tN (plc c th.length))), some (.dat (.bool (heldB th.length c))), none, none, none, none] ∧ bs.length ≤ 7 * k ∧ (bs.any id = true ↔ ∃ y x, y < k ∧ x < y ∧ c x y = .no))
    (ρ := [some (.dat (.tuple th)), some (.dat O), some (.own []), none, some (.dat (tN (arr c th.length))), some (.dat (tN (plc c th.length))), some (.dat (.bool (heldB th.length c))), none, none, none, none]) ⟨[], none, rfl, Nat.le_refl _, by simp⟩ (by
    rintro k hk ρ ⟨bs, x3, rfl, q1, q2⟩
    refine ⟨_, _, rfl, sh_body S k hk bs (by omega) _ _ _ _ _ _ _, _, _, rfl, by simp; omega, ?_⟩
    rw [List.any_append, Bool.or_eq_true, q2, List.any_map, List.any_eq_true]
    constructor
    · rintro (⟨y, x, h1, h2, h3⟩ | ⟨x, h1, h2⟩)
      · exact ⟨y, x, by omega, h2, h3⟩
      · exact ⟨k, x, by omega, List.mem_range.mp h1, by simpa using h2⟩
    · rintro ⟨y, x, h1, h2, h3⟩
      by_cases hyk : y = k
      · subst hyk
        exact .inr ⟨x, List.mem_range.mpr h2, by simpa using h3⟩
      · exact .inl ⟨y, x, by omega, h2, h3⟩)
  rw [sSeq_nx ((sFor_eq h3).trans e)]
  have hh : F_holds [.tuple [.str s_held, .tuple th, O], tN (arr c th.length)] = some (.bool (heldB th.length c)) := by
    rw [h_held S, f_judge_held S _ (by omega)]
    congr 2
    rw [Bool.eq_iff_iff, Bool.and_eq_true]
    constructor
    · rintro ⟨h1, h2⟩; exact held_of_line S h1 h2
    · intro h
      have := arr_ord S h
      unfold ordB at this
      rw [Bool.and_eq_true, Bool.and_eq_true] at this
      exact this.1
  have hb : bs.any id = !heldB th.length c := by
    rw [Bool.eq_iff_iff, q2]
    cases h : heldB th.length c
    · simp
      apply Classical.byContradiction
      intro hn
      have : heldB th.length c = true := heldB_iff.mpr fun x y h1 h2 h3 => hn ⟨y, h2, x, h1, h3⟩
      rw [h] at this
      cases this
    · simp
      intro y h1 x h2
      exact heldB_iff.mp h x y h2 h1
  rw [sSeq_nx (sh_if1 F_holds (.tuple th) O (tN (arr c th.length)) (heldB th.length c) bs hh hb _ _ _ _ _ _)]
  cases h : heldB th.length c
  · have ht : (tNotF (fB (fV 6))) [some (.dat (.tuple th)), some (.dat O), some (.own (bs.map .bool)), x3, some (.dat (tN (arr c th.length))), some (.dat (tN (plc c th.length))), some (.dat (.bool false)), none, none, none, none] = some true := by simp
    rw [sIf_rt (h := sNx) ht (g := sRet (fC (.bool true))) (d := .bool true) rfl]
    rfl
  · have ht : (tNotF (fB (fV 6))) [some (.dat (.tuple th)), some (.dat O), some (.own (bs.map .bool)), x3, some (.dat (tN (arr c th.length))), some (.dat (tN (plc c th.length))), some (.dat (.bool true)), none, none, none, none] = some false := by simp
    rw [sIf_nx ht]
    obtain ⟨sl, fi, hst, hI, hsl⟩ := f_law_starts S
    obtain ⟨st, fs, kvs, hpl, hPI, hstl, hAd, hlt⟩ := f_law_piles S
    have hR := starts_runs S h hI
    have hRn := runsB_spec S hR
    have hS := piles_stays S h hPI hstl hAd hlt
    have hSn := staysB_spec S hS
    have hW := plc_wrong S h
    have hWn := (wrongB_spec S hW).2.2.2
    have hfl := hPI.flen
    have hfl2 := hPI.len
    rw [sSeq_nx (sh_asg F_law_starts F_law_piles (.tuple th) O _ _ _ hst hpl _ _ _ _ _ _)]
    rw [sSeq_nx (sh_if2 F_law_fewest F_holds (.tuple th) O sl (by rw [hRn]; exact f_law_fewest S) (by rw [h_runs S, f_judge_runs S _ _ (by omega), hR]) _ _ _ _ _ _ _ _)]
    rw [sSeq_nx (sh_if3 F_law_most_stay F_holds (.tuple th) O st fs (by rw [hSn]; exact f_law_most_stay S) (by rw [h_stays S, f_judge_stays S _ _ _ (by omega) (fun f hf => by have := hfl f hf; omega) (by omega), hS]) _ _ _ _ _ _ _)]
    rw [sh_last F_law_wrong F_holds (.tuple th) O (arr c th.length) (plc c th.length) (by rw [hWn]; exact f_law_wrong S) (by rw [h_wrong S, f_judge_wrong S _ _ _ (by omega) (by omega), hW]) _ _ _ _ _ _ _]
    rfl
end NM
/-! G1: keys, things, how an order compares two -/
namespace NM
open PySem DL
inductive Ky where
  | n (i : Int)
  | w (s : PySem.Str)
def Ky.D : Ky → D
  | .n i => .int i
  | .w s => .str s
def lt26 : List Nat := (("abcdefghijklmnopqrstuvwxyz" : PySem.Str)).cps.toList
def Ky.ok : Ky → Prop
  | .n i => -1000000000 < i ∧ i < 1000000000
  | .w s => 1 ≤ s.length ∧ s.length ≤ 8 ∧ ∀ a ∈ s.cps.toList, a ∈ lt26
def kc : Ky → Ky → Cm
  | .n i, .n j => if i = j then .eq else if i < j then .lt else .gt
  | .w s, .w t => if s = t then .eq else if s.cps.toList < t.cps.toList then .lt else .gt
  | _, _ => .no
theorem str_ext {s t : PySem.Str} (h : s.cps.toList = t.cps.toList) : s = t := by
  cases s; cases t
  simp at h
  rw [h]
theorem ll_tri {s t : List Nat} (h : s ≠ t) (h2 : ¬ s < t) : t < s := by
  apply Classical.byContradiction
  intro h3
  exact h (List.le_antisymm (List.not_lt.mp h3) (List.not_lt.mp h2))
theorem kc_flip (a b : Ky) : kc b a = (kc a b).flip := by
  cases a with
  | n i => cases b with
    | n j =>
      unfold kc
      by_cases h : i = j
      · simp [h, Cm.flip]
      · have h' : ¬ j = i := fun e => h e.symm
        by_cases h2 : i < j
        · have : ¬ j < i := by omega
          simp [h, h', h2, this, Cm.flip]
        · have : j < i := by omega
          simp [h, h', h2, this, Cm.flip]
    | w t => rfl
  | w s => cases b with
    | n j => rfl
    | w t =>
      unfold kc
      by_cases h : s = t
      · simp [h, Cm.flip]
      · have h' : ¬ t = s := fun e => h e.symm
        by_cases h2 : s.cps.toList < t.cps.toList
        · have : ¬ t.cps.toList < s.cps.toList := List.lt_asymm h2
          simp only [h, h', h2, this, if_true, if_false, Cm.flip]
        · have : t.cps.toList < s.cps.toList := ll_tri (fun e => h (str_ext e)) h2
          simp only [h, h', h2, this, if_true, if_false, Cm.flip]
theorem kc_nn (i j : Int) : kc (.n i) (.n j) = if i = j then .eq else if i < j then .lt else .gt := rfl
theorem kc_ww (s t : PySem.Str) : kc (.w s) (.w t) = if s = t then .eq else if s.cps.toList < t.cps.toList then .lt else .gt := rfl
theorem kc_nw (i : Int) (t : PySem.Str) : kc (.n i) (.w t) = .no := rfl
theorem kc_wn (i : Int) (t : PySem.Str) : kc (.w t) (.n i) = .no := rfl
theorem kc_nn_lt {i j : Int} (h : kc (.n i) (.n j) = .lt) : i < j := by
  rw [kc_nn] at h
  by_cases e : i = j
  · rw [if_pos e] at h; cases h
  · rw [if_neg e] at h
    by_cases e2 : i < j
    · exact e2
    · rw [if_neg e2] at h; cases h
theorem kc_ww_lt {s t : PySem.Str} (h : kc (.w s) (.w t) = .lt) : s.cps.toList < t.cps.toList := by
  rw [kc_ww] at h
  by_cases e : s = t
  · rw [if_pos e] at h; cases h
  · rw [if_neg e] at h
    by_cases e2 : s.cps.toList < t.cps.toList
    · exact e2
    · rw [if_neg e2] at h; cases h
theorem kc_eq {a b : Ky} (h : kc a b = .eq) : a = b := by
  cases a with
  | n i => cases b with
    | n j =>
      rw [kc_nn] at h
      by_cases e : i = j
      · rw [e]
      · rw [if_neg e] at h
        by_cases e2 : i < j
        · rw [if_pos e2] at h; cases h
        · rw [if_neg e2] at h; cases h
    | w t => rw [kc_nw] at h; cases h
  | w s => cases b with
    | n j => rw [kc_wn] at h; cases h
    | w t =>
      rw [kc_ww] at h
      by_cases e : s = t
      · rw [e]
      · rw [if_neg e] at h
        by_cases e2 : s.cps.toList < t.cps.toList
        · rw [if_pos e2] at h; cases h
        · rw [if_neg e2] at h; cases h
theorem kc_lt {a b d : Ky} (h : kc a b = .lt) (h2 : kc b d = .lt) : kc a d = .lt := by
  cases a with
  | n i => cases b with
    | n j => cases d with
      | n k =>
        have e1 := kc_nn_lt h
        have e2 := kc_nn_lt h2
        rw [kc_nn, if_neg (by omega), if_pos (by omega)]
      | w t => rw [kc_nw] at h2; cases h2
    | w t => rw [kc_nw] at h; cases h
  | w s => cases b with
    | n j => rw [kc_wn] at h; cases h
    | w t => cases d with
      | n k => rw [kc_wn] at h2; cases h2
      | w u =>
        have e3 := List.lt_trans (kc_ww_lt h) (kc_ww_lt h2)
        rw [kc_ww, if_neg (fun e => List.lt_irrefl u.cps.toList (by rw [e] at e3; exact e3)), if_pos e3]
theorem kc_gt {a b d : Ky} (h : kc a b = .gt) (h2 : kc b d = .gt) : kc a d = .gt := by
  have f1 := kc_flip a b
  have f2 := kc_flip b d
  rw [h] at f1
  rw [h2] at f2
  have := kc_lt f2 f1
  rw [kc_flip d a, this]; rfl
def way (up : Bool) (q : Cm) : Cm := if up then q else q.flip
/-- a comparison, column by column -/
def cmpL : List (Nat × Bool) → List Ky → List Ky → Cm
  | [], _, _ => .eq
  | (k, up) :: o, x, y => match x[k - 1]?, y[k - 1]? with
    | some a, some b => if kc a b = .eq then cmpL o x y else way up (kc a b)
    | _, _ => .no
theorem cmpL_flip : ∀ (o : List (Nat × Bool)) (x y : List Ky), cmpL o y x = (cmpL o x y).flip
  | [], _, _ => rfl
  | (k, up) :: o, x, y => by
    unfold cmpL
    cases hx : x[k - 1]? with
    | none => cases hy : y[k - 1]? <;> rfl
    | some a => cases hy : y[k - 1]? with
      | none => rfl
      | some b =>
        simp only
        rw [kc_flip a b]
        cases h : kc a b <;> cases up <;> simp [Cm.flip, way, cmpL_flip o x y]
def LtEq (q : Cm) : Prop := q = .lt ∨ q = .eq
theorem cmpL_trans : ∀ (o : List (Nat × Bool)) (x y z : List Ky) (p q : Cm), LtEq p → LtEq q → cmpL o x y = p → cmpL o y z = q → cmpL o x z = if p = .eq then q else .lt
  | [], x, y, z, p, q, _, _, h1, h2 => by
    unfold cmpL at *
    subst h1
    subst h2
    rfl
  | (k, up) :: o, x, y, z, p, q, hp, hq, h1, h2 => by
    unfold cmpL at *
    cases hx : x[k - 1]? with
    | none =>
      rw [hx] at h1
      simp at h1
      subst h1
      rcases hp with h | h <;> cases h
    | some a => cases hy : y[k - 1]? with
      | none =>
        rw [hx, hy] at h1
        simp at h1
        subst h1
        rcases hp with h | h <;> cases h
      | some b => cases hz : z[k - 1]? with
        | none =>
          rw [hy, hz] at h2
          simp at h2
          subst h2
          rcases hq with h | h <;> cases h
        | some d =>
          rw [hx, hy] at h1
          rw [hy, hz] at h2
          simp only at h1 h2 ⊢
          by_cases e1 : kc a b = .eq
          · rw [if_pos e1] at h1
            have := kc_eq e1
            subst this
            by_cases e2 : kc a d = .eq
            · rw [if_pos e2] at h2 ⊢
              exact cmpL_trans o x y z p q hp hq h1 h2
            · rw [if_neg e2] at h2 ⊢
              rw [h2]
              have : q ≠ .eq := by
                intro e
                rw [e] at h2
                cases h : kc a d <;> cases up <;> rw [h] at h2 <;> simp [way, Cm.flip] at h2 e2
                · exact e2 h
                · exact e2 h
              rcases hq with rfl | rfl
              · split <;> rfl
              · exact absurd rfl this
          · rw [if_neg e1] at h1
            have hpl : p = .lt := by
              rcases hp with h | h
              · exact h
              · exfalso
                rw [h] at h1
                cases h3 : kc a b <;> cases up <;> rw [h3] at h1 <;> simp [way, Cm.flip] at h1
                · exact e1 h3
                · exact e1 h3
            subst hpl
            by_cases e2 : kc b d = .eq
            · have := kc_eq e2
              subst this
              rw [if_neg e1, h1]
              rfl
            · rw [if_neg e2] at h2
              have hql : q = .lt := by
                rcases hq with h | h
                · exact h
                · exfalso
                  rw [h] at h2
                  cases h3 : kc b d <;> cases up <;> rw [h3] at h2 <;> simp [way, Cm.flip] at h2
                  · exact e2 h3
                  · exact e2 h3
              subst hql
              cases up with
              | true =>
                simp [way] at h1 h2
                rw [kc_lt h1 h2]
                simp [way]
              | false =>
                have g1 : kc a b = .gt := by
                  cases h3 : kc a b <;> rw [h3] at h1 <;> simp [way, Cm.flip] at h1
                have g2 : kc b d = .gt := by
                  cases h3 : kc b d <;> rw [h3] at h2 <;> simp [way, Cm.flip] at h2
                rw [kc_gt g1 g2]
                simp [way, Cm.flip]
end NM
/-! G2: the model's two comparisons are cmpL; rows and orders that pass the checks -/
namespace NM
open PySem DL
abbrev lK (x : List Ky) : List D := x.map Ky.D
abbrev tK (x : List Ky) : D := .tuple (lK x)
abbrev wD (up : Bool) : D := if up then .str "up" else .str "down"
abbrev pD (q : Nat × Bool) : D := .tuple [nI q.1, wD q.2]
theorem up_eq (up : Bool) : gEq (wD up) (.str "up") = some (.bool up) := by
  cases up
  · exact (gEq_ss (by decide +kernel) (by decide +kernel)).trans (congrArg (fun b => some (PyData.bool b)) (by decide +kernel))
  · exact (gEq_ss (by decide +kernel) (by decide +kernel)).trans (congrArg (fun b => some (PyData.bool b)) (by decide +kernel))
theorem lt26_ok : ∀ a ∈ lt26, a < 0x110000 := by decide +kernel
theorem ok_str {s : PySem.Str} (h : Ky.ok (.w s)) : PyData.strOk s = true := by
  unfold PyData.strOk
  rw [Array.all_eq_true']
  intro a ha
  have := lt26_ok a (h.2.2 a (by simpa using ha))
  simpa using this
theorem k_sh {a : Ky} (h : a.ok) : SeqAt.shaped a.D = true := by
  cases a with
  | n i => rfl
  | w s => exact sh_str s (ok_str h)
theorem k_eqv (a b : Ky) : PyData.eqv a.D b.D = decide (kc a b = .eq) := by
  cases a with
  | n i => cases b with
    | n j =>
      show (i == j) = _
      rw [kc_nn, Bool.eq_iff_iff]
      by_cases e : i = j
      · simp [e]
      · by_cases e2 : i < j <;> simp [e, e2]
    | w t => rfl
  | w s => cases b with
    | n j => rfl
    | w t =>
      show (s == t) = _
      rw [kc_ww, Bool.eq_iff_iff]
      by_cases e : s = t
      · simp [e]
      · by_cases e2 : s.cps.toList < t.cps.toList
        · simp only [if_neg e, if_pos e2]; simp [e]
        · simp only [if_neg e, if_neg e2]; simp [e]
theorem k_ne {a b : Ky} (h : a.ok) (h2 : b.ok) : gNe a.D b.D = some (.bool (!decide (kc a b = .eq))) := by
  rw [gNe_ok (k_sh h) (k_sh h2), k_eqv]
theorem k_str (a b : Ky) : ∃ p q, gIsStr a.D = some (.bool p) ∧ gIsStr b.D = some (.bool q) ∧ (kc a b = .no ↔ p ≠ q) := by
  cases a with
  | n i => cases b with
    | n j =>
      refine ⟨false, false, rfl, rfl, ?_⟩
      rw [kc_nn]
      by_cases e : i = j
      · simp [e]
      · by_cases e2 : i < j <;> simp [e, e2]
    | w t => exact ⟨false, true, rfl, rfl, by simp [kc_nw]⟩
  | w s => cases b with
    | n j => exact ⟨true, false, rfl, rfl, by simp [kc_wn]⟩
    | w t =>
      refine ⟨true, true, rfl, rfl, ?_⟩
      rw [kc_ww]
      by_cases e : s = t
      · simp [e]
      · by_cases e2 : s.cps.toList < t.cps.toList
        · simp only [if_neg e, if_pos e2]; simp
        · simp only [if_neg e, if_neg e2]; simp
theorem k_lt {a b : Ky} (h : kc a b ≠ .no) (h2 : kc a b ≠ .eq) : gLt a.D b.D = some (.bool (decide (kc a b = .lt))) := by
  cases a with
  | n i => cases b with
    | n j =>
      show some (PyData.bool (decide (i < j))) = _
      rw [kc_nn] at *
      by_cases e : i = j
      · simp [e] at h2
      · by_cases e2 : i < j <;> simp [e, e2]
    | w t => exact absurd rfl h
  | w s => cases b with
    | n j => exact absurd rfl h
    | w t =>
      show some (PyData.bool (decide (s.cps.toList < t.cps.toList))) = _
      rw [kc_ww] at *
      by_cases e : s = t
      · simp [e] at h2
      · by_cases e2 : s.cps.toList < t.cps.toList
        · simp only [if_neg e, if_pos e2]; simp [e2]
        · simp only [if_neg e, if_neg e2]; simp [e2]
theorem atI_lK {x : List Ky} {k : Nat} {a : Ky} (hk : 1 ≤ k) (h : x[k - 1]? = some a) : L2.atI (lK x) ((k : Int) - 1) = some a.D := by
  have e : (k : Int) - 1 = ((k - 1 : Nat) : Int) := by omega
  rw [e, atI_nat, List.getElem?_map, h]; rfl
abbrev coB : Rho → Option Out := sSeq (sIf (fB (f2 gLt (f2 gMin2 (f1 gLen (fR 1)) (f1 gLen (fR 2))) (fR 3))) (sRet (fC .none)) sNx)
  (sSeq (sSet 5 (f2 gIx (fR 1) (f2 DL.gSub (fR 3) (fC (.int 1)))))
  (sSeq (sSet 6 (f2 gIx (fR 2) (f2 DL.gSub (fR 3) (fC (.int 1)))))
  (sSeq (sIf (fB (f2 gNe (f1 gIsStr (fR 5)) (f1 gIsStr (fR 6)))) (sRet (fC .none)) sNx)
  (sIf (fB (f2 gNe (fR 5) (fR 6))) (sSeq (sIf (fB (f2 gEq (f2 gLt (fR 5) (fR 6)) (f2 gEq (fR 4) (fC (.str "up"))))) (sRet (f1 gNeg (fC (.int 1)))) sNx)
  (sRet (fC (.int 1)))) sNx))))
abbrev heB : Rho → Option Out := sSeq (sIf (tOrF (fB (f2 gLt (f1 gLen (fR 1)) (fR 3))) (fB (f2 gLt (f1 gLen (fR 2)) (fR 3)))) (sRet (fC .none)) sNx)
  (sSeq (sPar2 5 6 (cD (f2 gIx (fR 1) (f2 DL.gSub (fR 3) (fC (.int 1))))) (cD (f2 gIx (fR 2) (f2 DL.gSub (fR 3) (fC (.int 1))))))
  (sSeq (sIf (fB (f2 gNe (f1 gIsStr (fR 5)) (f1 gIsStr (fR 6)))) (sRet (fC .none)) sNx)
  (sIf (fB (f2 gNe (fR 5) (fR 6))) (sRet (f2 gIx (fL (fLst (fCons (fC (.int 1)) (fCons (f1 gNeg (fC (.int 1))) fNil)))) (f1 gInt (f2 gEq (f2 gLt (fR 5) (fR 6)) (f2 gEq (fR 4) (fC (.str "up"))))))) sNx)))
def One (k : Nat) (up : Bool) (x y : List Ky) : Cm := match x[k - 1]?, y[k - 1]? with
  | some a, some b => way up (kc a b)
  | _, _ => .no
theorem gIx1 (b : Bool) : gIx (.list [.int 1, .int (-1)]) (.int (if b = true then 1 else 0)) = some (.int (if b then -1 else 1)) := by cases b <;> rfl
theorem one_body (O : D) (k : Nat) (up : Bool) (x y : List Ky) (hk : 1 ≤ k) (hx : ∀ a ∈ x, a.ok) (hy : ∀ a ∈ y, a.ok) (x5 x6 : Option Cell) :
    ∃ y5 y6, coB [some (.dat O), some (.dat (tK x)), some (.dat (tK y)), some (.dat (nI k)), some (.dat (wD up)), x5, x6] = some (if One k up x y = .eq then .nx [some (.dat O), some (.dat (tK x)), some (.dat (tK y)), some (.dat (nI k)), some (.dat (wD up)), y5, y6] else .rt (One k up x y).D)
    ∧ heB [some (.dat O), some (.dat (tK x)), some (.dat (tK y)), some (.dat (nI k)), some (.dat (wD up)), x5, x6] = some (if One k up x y = .eq then .nx [some (.dat O), some (.dat (tK x)), some (.dat (tK y)), some (.dat (nI k)), some (.dat (wD up)), y5, y6] else .rt (One k up x y).D) := by
  by_cases h1 : x.length < k
  · have e : x[k - 1]? = none := List.getElem?_eq_none (by omega)
    have e1 : One k up x y = .no := by unfold One; rw [e]
    refine ⟨none, none, ?_, ?_⟩
    · have : (if y.length < x.length then (y.length : Int) else (x.length : Int)) < (k : Int) := by split <;> omega
      simp [e1, Cm.D, this]
    · have : (x.length : Int) < (k : Int) := by omega
      simp [e1, Cm.D, this, h1]
  by_cases h2 : y.length < k
  · have e : y[k - 1]? = none := List.getElem?_eq_none (by omega)
    have e1 : One k up x y = .no := by unfold One; rw [e]; cases x[k - 1]? <;> rfl
    refine ⟨none, none, ?_, ?_⟩
    · have : (if y.length < x.length then (y.length : Int) else (x.length : Int)) < (k : Int) := by split <;> omega
      simp [e1, Cm.D, this]
    · have : ¬ (x.length : Int) < (k : Int) := by omega
      simp [e1, Cm.D, this, h1, h2]
  have lx : k - 1 < x.length := by omega
  have ly : k - 1 < y.length := by omega
  have ex := List.getElem?_eq_getElem lx
  have ey := List.getElem?_eq_getElem ly
  have ax := hx _ (List.getElem_mem lx)
  have ay := hy _ (List.getElem_mem ly)
  have e1 : One k up x y = way up (kc x[k - 1] y[k - 1]) := by unfold One; rw [ex, ey]
  have w1 := atI_lK hk ex
  have w2 := atI_lK hk ey
  rw [e1]
  generalize x[k - 1] = a at *
  generalize y[k - 1] = b at *
  have hmin : ¬ (if y.length < x.length then (y.length : Int) else (x.length : Int)) < (k : Int) := by split <;> omega
  have hn1 : ¬ (x.length : Int) < (k : Int) := by omega
  have hn2 : ¬ (y.length : Int) < (k : Int) := by omega
  obtain ⟨p, q, s1, s2, s3⟩ := k_str a b
  refine ⟨some (.dat a.D), some (.dat b.D), ?_⟩
  by_cases hno : kc a b = .no
  · have hpq := s3.mp hno
    have hpq' : (p == q) = false := by simpa using hpq
    constructor <;> simp [hmin, h1, h2, w1, w2, s1, s2, hpq, hpq', hno] <;> cases up <;> simp [way, Cm.flip, Cm.D]
  · have hpq : p = q := by
      apply Classical.byContradiction
      intro h; exact hno (s3.mpr h)
    subst hpq
    have kne := k_ne ax ay
    by_cases heq : kc a b = .eq
    · constructor <;> simp [hmin, h1, h2, w1, w2, s1, s2, kne, heq] <;> cases up <;> simp [way, Cm.flip, Cm.D]
    · have klt := k_lt hno heq
      have hup := up_eq up
      constructor
      · simp [hmin, h1, h2, w1, w2, s1, s2, kne, heq, klt, hup]
        cases up <;> cases hk : kc a b <;> simp [way, Cm.flip, Cm.D] <;> first | exact hno hk | exact heq hk
      · have g0 : L2.atI [PyData.int 1, PyData.int (-1)] (0 : Int) = some (.int 1) := rfl
        have g1 : L2.atI [PyData.int 1, PyData.int (-1)] (1 : Int) = some (.int (-1)) := rfl
        cases hk : kc a b with
        | no => exact absurd hk hno
        | eq => exact absurd hk heq
        | lt =>
          rw [hk] at klt kne
          cases up <;> simp [h1, h2, w1, w2, s1, s2, kne, klt, hup, way, Cm.flip, Cm.D, lim_ok, g0, g1]
        | gt =>
          rw [hk] at klt kne
          cases up <;> simp [h1, h2, w1, w2, s1, s2, kne, klt, hup, way, Cm.flip, Cm.D, lim_ok, g0, g1]
end NM
/-! G3: compared, law_held; rows and orders -/
namespace NM
open PySem DL
theorem cmpL_one (k : Nat) (up : Bool) (o : List (Nat × Bool)) (x y : List Ky) : cmpL ((k, up) :: o) x y = if One k up x y = .eq then cmpL o x y else One k up x y := by
  rw [cmpL]
  unfold One
  cases hx : x[k - 1]? with
  | none => rfl
  | some a => cases hy : y[k - 1]? with
    | none => rfl
    | some b =>
      simp only
      cases h : kc a b <;> cases up <;> simp [way, Cm.flip]
abbrev lO (o : List (Nat × Bool)) : List D := o.map pD
abbrev tO (o : List (Nat × Bool)) : D := .tuple (lO o)
theorem loop_co {B : Rho → Option Out} (O : D) (x y : List Ky) (hB : ∀ k up, 1 ≤ k → ∀ x5 x6 : Option Cell, ∃ y5 y6, B [some (.dat O), some (.dat (tK x)), some (.dat (tK y)), some (.dat (nI k)), some (.dat (wD up)), x5, x6] = some (if One k up x y = .eq then .nx [some (.dat O), some (.dat (tK x)), some (.dat (tK y)), some (.dat (nI k)), some (.dat (wD up)), y5, y6] else .rt (One k up x y).D)) :
    ∀ (o : List (Nat × Bool)) (_ : ∀ q ∈ o, 1 ≤ q.1) (x3 x4 x5 x6 : Option Cell), ∃ ρ', loopD (gT [3, 4]) B (lO o) [some (.dat O), some (.dat (tK x)), some (.dat (tK y)), x3, x4, x5, x6] = some (if cmpL o x y = .eq then .nx ρ' else .rt (cmpL o x y).D)
  | [], _, x3, x4, x5, x6 => ⟨_, rfl⟩
  | (k, up) :: o, h, x3, x4, x5, x6 => by
    obtain ⟨y5, y6, e⟩ := hB k up (h (k, up) (List.mem_cons_self ..)) x5 x6
    obtain ⟨ρ', e2⟩ := loop_co O x y hB o (fun q m => h q (List.mem_cons_of_mem _ m)) (some (.dat (nI k))) (some (.dat (wD up))) y5 y6
    refine ⟨ρ', ?_⟩
    rw [cmpL_one]
    have hg : gT [3, 4] (pD (k, up)) [some (.dat O), some (.dat (tK x)), some (.dat (tK y)), x3, x4, x5, x6] = some [some (.dat O), some (.dat (tK x)), some (.dat (tK y)), some (.dat (nI k)), some (.dat (wD up)), x5, x6] := rfl
    show (gT [3, 4] (pD (k, up)) _).bind _ = _
    rw [hg, Option.bind_some, e, Option.bind_some]
    by_cases hq : One k up x y = .eq
    · rw [if_pos hq, if_pos hq]
      exact e2
    · rw [if_neg hq, if_neg hq, if_neg hq]
theorem f_compared (o : List (Nat × Bool)) (x y : List Ky) (ho : ∀ q ∈ o, 1 ≤ q.1) (hx : ∀ a ∈ x, a.ok) (hy : ∀ a ∈ y, a.ok) : F_compared [tO o, tK x, tK y] = some (cmpL o x y).D := by
  rw [u_compared]
  obtain ⟨ρ', e⟩ := loop_co (B := coB) (tO o) x y (fun k up hk x5 x6 => by
    obtain ⟨y5, y6, h, _⟩ := one_body (tO o) k up x y hk hx hy x5 x6
    exact ⟨y5, y6, h⟩) o ho none none none none
  show Option.map outD (sSeq (sFor (iT (fV 0)) (gT [3, 4]) coB) (sRet (fC (.int 0))) _) = _
  rw [e_sSeq, sFor_eq (ds := lO o) rfl, e, Option.bind_some]
  by_cases h : cmpL o x y = .eq
  · rw [if_pos h, h]; rfl
  · rw [if_neg h]; rfl
theorem f_law_held (o : List (Nat × Bool)) (x y : List Ky) (ho : ∀ q ∈ o, 1 ≤ q.1) (hx : ∀ a ∈ x, a.ok) (hy : ∀ a ∈ y, a.ok) : F_law_held [tO o, tK x, tK y] = some (cmpL o x y).D := by
  rw [u_law_held]
  obtain ⟨ρ', e⟩ := loop_co (B := heB) (tO o) x y (fun k up hk x5 x6 => by
    obtain ⟨y5, y6, _, h⟩ := one_body (tO o) k up x y hk hx hy x5 x6
    exact ⟨y5, y6, h⟩) o ho none none none none
  show Option.map outD (sSeq (sFor (iT (fV 0)) (gT [3, 4]) heB) (sRet (fC (.int 0))) _) = _
  rw [e_sSeq, sFor_eq (ds := lO o) rfl, e, Option.bind_some]
  by_cases h : cmpL o x y = .eq
  · rw [if_pos h, h]; rfl
  · rw [if_neg h]; rfl
theorem f_is_key {a : Ky} (h : a.ok) : F_is_key [a.D] = some (.bool true) := by
  rw [u_is_key]
  unfold B_is_key
  cases a with
  | n i =>
    obtain ⟨h1, h2⟩ := h
    have hw : F_is_whole [.int i] = some (.bool true) := by simp [u_is_whole, B_is_whole]
    simp [Ky.D, hw, h1, h2]
  | w s =>
    obtain ⟨h1, h2, h3⟩ := h
    have hw : F_is_whole [.str s] = some (.bool false) := by simp [u_is_whole, B_is_whole]
    have L : ∀ {α : Type} (a : α), lim s.length a = some a := fun a => lim_ok (by omega)
    have L2 : ∀ {α : Type} (a : α), lim s.cps.size a = some a := fun a => lim_ok (by show s.length ≤ _; omega)
    have e1 : (1 : Int) ≤ (s.length : Int) := by omega
    have e2 : (s.length : Int) ≤ 8 := by omega
    have hl : lcGo (gN 1) tYesF (f2 gIn (fR 1) (fC (.str "abcdefghijklmnopqrstuvwxyz"))) [some (.dat (.str s)), none] (chars s) = some (s.cps.toList.map fun c => .bool (decide (c ∈ lt26))) := by
      unfold chars
      exact lcGo_mapL (fun c => PyData.str ⟨#[c]⟩) (fun c => .bool (decide (c ∈ lt26))) _ fun c hc => by
        simp
        rfl
    have hlen : (chars s).length = s.length := by unfold chars; simp; rfl
    have hall : (s.cps.toList.all fun c => decide (c ∈ lt26)) = true := List.all_eq_true.mpr fun c hc => decide_eq_true (h3 c hc)
    simp [Ky.D, hw, L, e1, e2, hlen, hl]
    rw [gAll_map, hall]

def ThOk (x : List Ky) : Prop := 1 ≤ x.length ∧ x.length ≤ 4 ∧ ∀ a ∈ x, a.ok
def RowOk (r : List (List Ky)) : Prop := r.length ≤ 7 ∧ ∀ x ∈ r, ThOk x
def OrdOk (o : List (Nat × Bool)) : Prop := 1 ≤ o.length ∧ o.length ≤ 4 ∧ (∀ q ∈ o, 1 ≤ q.1 ∧ q.1 ≤ 4) ∧ (o.map (·.1)).Nodup
theorem lcGo_mapM {α : Type} {j : Nat} {e : Rho → Option D} {ρ : Rho} (f h : α → D) : ∀ (l : List α), (∀ a ∈ l, e (ρ.set j (some (.dat (f a)))) = some (h a)) → lcGo (gN j) tYesF e ρ (l.map f) = some (l.map h) := lcGo_mapL f h
theorem f_is_thing {x : List Ky} (h : ThOk x) : F_is_thing [tK x] = some (.bool true) := by
  obtain ⟨h1, h2, h3⟩ := h
  rw [u_is_thing]
  unfold B_is_thing
  have hl : lcGo (gN 1) tYesF (fCall F_is_key (fCons (fV 1) fNil)) [some (.dat (tK x)), none] (lK x) = some (x.map fun _ => .bool true) := lcGo_mapL Ky.D (fun _ => .bool true) x fun a ha => by
    simp [f_is_key (h3 a ha)]
  have L : ∀ {α : Type} (a : α), lim x.length a = some a := fun a => lim_ok (by omega)
  have e1 : (1 : Int) ≤ (x.length : Int) := by omega
  have e2 : (x.length : Int) ≤ 4 := by omega
  have e3 : 1 ≤ x.length := h1
  simp only [lK] at hl
  have ga := gAll_map x (fun _ => true)
  have hall : (x.all fun _ => true) = true := List.all_eq_true.mpr fun _ _ => rfl
  rw [hall] at ga
  simp only [e_sRet, e_fAnd, e_f1, e_fR, e_fCh, e_fC]
  simp [L, e1, e2, e3, hl, ga]
theorem f_is_row {r : List (List Ky)} (h : RowOk r) : F_is_row [.tuple (r.map tK)] = some (.bool true) := by
  obtain ⟨h1, h3⟩ := h
  rw [u_is_row]
  unfold B_is_row
  have hl : lcGo (gN 1) tYesF (fCall F_is_thing (fCons (fV 1) fNil)) [some (.dat (.tuple (r.map tK))), none] (r.map tK) = some (r.map fun _ => .bool true) := lcGo_mapL tK (fun _ => .bool true) r fun a ha => by
    simp [f_is_thing (h3 a ha)]
  have L : ∀ {α : Type} (a : α), lim r.length a = some a := fun a => lim_ok (by omega)
  have e2 : (r.length : Int) ≤ 60 := by omega
  have ga := gAll_map r (fun _ => true)
  have hall : (r.all fun _ => true) = true := List.all_eq_true.mpr fun _ _ => rfl
  rw [hall] at ga
  simp [L, e2, hl, ga]
theorem wD_in (up : Bool) : gIn (wD up) (.tuple [.str "up", .str "down"]) = some (.bool true) := by cases up <;> rfl
theorem wD_str (up : Bool) : gIsStr (wD up) = some (.bool true) := by cases up <;> rfl
theorem f_is_part (q : Nat × Bool) (h1 : 1 ≤ q.1) (h2 : q.1 ≤ 4) : F_is_part [pD q] = some (.bool true) := by
  obtain ⟨k, up⟩ := q
  rw [u_is_part]
  unfold B_is_part
  have w1 : L2.atI [nI k, wD up] (0 : Int) = some (nI k) := rfl
  have w2 : L2.atI [nI k, wD up] (1 : Int) = some (wD up) := rfl
  have hw := whole_nI k
  have hi := wD_in up
  have hs := wD_str up
  have e1 : (1 : Int) ≤ (k : Int) := by simp at h1; omega
  have e2 : (k : Int) ≤ 4 := by simp at h2; omega
  have e3 : 1 ≤ k := h1
  unfold pD
  generalize wD up = W at *
  simp [w1, w2, hw, hs, hi, e1, e2, e3, lim_ok]
theorem gIn_lN (k : Nat) (l : List Nat) : gIn (nI k) (.list (lN l)) = some (.bool (decide (k ∈ l))) := by
  show (if flatD (nI k) = true ∧ (lN l).all flatD = true then some (PyData.bool (inD (nI k) (lN l))) else none) = _
  rw [if_pos ⟨rfl, flat_lN l⟩]
  have : inD (nI k) (lN l) = decide (k ∈ l) := by
    unfold inD lN
    rw [List.any_map, Bool.eq_iff_iff, List.any_eq_true]
    constructor
    · rintro ⟨x, hx, e⟩
      have : (x : Int) = (k : Int) := by simpa [PyData.eqv] using e
      have : x = k := by omega
      subst this
      simpa using hx
    · intro h
      exact ⟨k, by simpa using h, by simp [PyData.eqv]⟩
  rw [this]
abbrev orB : Rho → Option Out := sSeq (sIf (tOrF (tNotF (fB (fCall F_is_part (fCons (fV 2) fNil)))) (fB (f2 gIn (f2 gIx (fR 2) (fC (.int 0))) (fR 1)))) (sRet (fC (.bool false))) sNx)
  (sApp 1 (f2 gIx (fR 2) (fC (.int 0))))
theorem or_body (F : List D → Option D) (O : D) (l : List Nat) (q : Nat × Bool) (hF : F [pD q] = some (.bool true)) (hq : q.1 ∉ l) (hl : l.length ≤ 100) : (sSeq (sIf (tOrF (tNotF (fB (fCall F (fCons (fV 2) fNil)))) (fB (f2 gIn (f2 gIx (fR 2) (fC (.int 0))) (fR 1)))) (sRet (fC (.bool false))) sNx)
  (sApp 1 (f2 gIx (fR 2) (fC (.int 0))))) [some (.dat O), some (.own (lN l)), some (.dat (pD q))] = some (.nx [some (.dat O), some (.own (lN (l ++ [q.1]))), some (.dat (pD q))]) := by
  obtain ⟨k, up⟩ := q
  have w1 : L2.atI [nI k, wD up] (0 : Int) = some (nI k) := rfl
  have hg := gIn_lN k l
  have hk : k ∉ l := hq
  have L : ∀ {α : Type} (a : α), lim l.length a = some a := fun a => lim_ok (by omega)
  simp only [lN] at hg
  unfold pD at *
  generalize wD up = W at *
  simp [hF, w1, hg, hk, L]
theorem f_is_order {o : List (Nat × Bool)} (h : OrdOk o) : F_is_order [tO o] = some (.bool true) := by
  obtain ⟨h1, h2, h3, h4⟩ := h
  rw [u_is_order]
  unfold B_is_order
  have hlp : ∀ (o' : List (Nat × Bool)) (l : List Nat) (x2 : Option Cell), (∀ q ∈ o', 1 ≤ q.1 ∧ q.1 ≤ 4) → (l ++ o'.map (·.1)).Nodup → l.length + o'.length ≤ 100 → ∃ y2, loopD (gN 2) orB (lO o') [some (.dat (tO o)), some (.own (lN l)), x2] = some (.nx [some (.dat (tO o)), some (.own (lN (l ++ o'.map (·.1)))), y2]) := by
    intro o'
    induction o' with
    | nil => intro l x2 _ _ _; exact ⟨x2, by simp [loopD]⟩
    | cons q o' ih =>
      intro l x2 g1 g2 g3
      have hq : q.1 ∉ l := by
        intro hm
        have := List.pairwise_append.mp (List.nodup_iff_pairwise_ne.mp g2)
        exact this.2.2 _ hm q.1 (by simp) rfl
      have hb := or_body F_is_part (tO o) l q (f_is_part q (g1 q (List.mem_cons_self ..)).1 (g1 q (List.mem_cons_self ..)).2) hq (by omega)
      obtain ⟨y2, e⟩ := ih (l ++ [q.1]) (some (.dat (pD q))) (fun q m => g1 q (List.mem_cons_of_mem _ m)) (by simpa using g2) (by simp at g3 ⊢; omega)
      refine ⟨y2, ?_⟩
      show (gN 2 (pD q) [some (.dat (tO o)), some (.own (lN l)), x2]).bind _ = _
      have hg : gN 2 (pD q) [some (.dat (tO o)), some (.own (lN l)), x2] = some [some (.dat (tO o)), some (.own (lN l)), some (.dat (pD q))] := rfl
      rw [hg, Option.bind_some]
      show (orB _).bind _ = _
      rw [show orB [some (.dat (tO o)), some (.own (lN l)), some (.dat (pD q))] = _ from hb, Option.bind_some]
      have : l ++ (q :: o').map (·.1) = l ++ [q.1] ++ o'.map (·.1) := by simp
      rw [this]
      exact e
  obtain ⟨y2, e⟩ := hlp o [] none h3 (by simpa using h4) (by simp; omega)
  have e1 : (1 : Int) ≤ (o.length : Int) := by omega
  have e2 : (o.length : Int) ≤ 4 := by omega
  have ht : (tOrF (tNotF (fB (f1 gIsTup (fR 0)))) (tNotF (fB (fCh gLe gLe (fC (.int 1)) (f1 gLen (fR 0)) (fC (.int 4)))))) [some (.dat (tO o)), none, none] = some false := by
    have e3 : 1 ≤ o.length := h1
    simp [e1, e2, e3]
  rw [sIf_nx ht]
  have h5 : (sSetF 1 (fLst fNil)) [some (.dat (tO o)), none, none] = some (.nx [some (.dat (tO o)), some (.own (lN [])), none]) := by simp [lim_ok]
  rw [sSeq_nx h5, sSeq_nx ((sFor_eq (ds := lO o) rfl).trans e)]
  rfl
theorem row_sh {r : List (List Ky)} (h : RowOk r) : SeqAt.shaped (.tuple (r.map tK)) = true := by
  have k1 : ∀ x : List Ky, (∀ a ∈ x, a.ok) → PyData.canLayAll0 (lK x) = true ∧ PyData.depthAll (lK x) = 0 := by
    intro x
    induction x with
    | nil => intro _; exact ⟨rfl, rfl⟩
    | cons a x ih =>
      intro hx
      obtain ⟨i1, i2⟩ := ih (fun b m => hx b (List.mem_cons_of_mem _ m))
      have ha := hx a (List.mem_cons_self ..)
      have c0 : PyData.canLay0 a.D = true ∧ PyData.depth a.D = 0 := by
        cases a with
        | n i => exact ⟨rfl, rfl⟩
        | w s =>
          have hs : PyData.canLay0 (.str s) = PyData.strOk s := by simp [PyData.canLay0]
          exact ⟨hs.trans (ok_str ha), by simp [Ky.D, PyData.depth]⟩
      refine ⟨?_, ?_⟩
      · show (PyData.canLay0 a.D && PyData.canLayAll0 (lK x)) = true
        rw [c0.1, i1]; rfl
      · show max (PyData.depth a.D) (PyData.depthAll (lK x)) = 0
        rw [c0.2, i2]; rfl
  have k2 : ∀ r : List (List Ky), (∀ x ∈ r, ThOk x) → PyData.canLayAll0 (r.map tK) = true ∧ PyData.depthAll (r.map tK) ≤ 1 := by
    intro r
    induction r with
    | nil => intro _; exact ⟨rfl, by decide⟩
    | cons x r ih =>
      intro hr
      obtain ⟨i1, i2⟩ := ih (fun b m => hr b (List.mem_cons_of_mem _ m))
      obtain ⟨j1, j2⟩ := k1 x (hr x (List.mem_cons_self ..)).2.2
      have e0 : PyData.canLay0 (tK x) = PyData.canLayAll0 (lK x) := by simp [PyData.canLay0]
      have e1 : PyData.depth (tK x) = PyData.depthAll (lK x) + 1 := by simp [PyData.depth]
      refine ⟨?_, ?_⟩
      · show (PyData.canLay0 (tK x) && PyData.canLayAll0 (r.map tK)) = true
        rw [e0, j1, i1]; rfl
      · show max (PyData.depth (tK x)) (PyData.depthAll (r.map tK)) ≤ 1
        rw [e1, j2]
        omega
  obtain ⟨q1, q2⟩ := k2 r h.2
  show (PyData.canLayAll0 (r.map tK) && decide (PyData.depthAll (r.map tK) + 1 ≤ 64)) = true
  have : PyData.depthAll (r.map tK) + 1 ≤ 64 := by omega
  simp [q1, this]
def cRow (r : List (List Ky)) (o : List (Nat × Bool)) (x y : Nat) : Cm := match r[x]?, r[y]? with
  | some a, some b => cmpL o a b
  | _, _ => .no
theorem cRow_tr (r : List (List Ky)) (o : List (Nat × Bool)) (x y z : Nat) (p q : Cm) (hp : LtEq p) (hq : LtEq q) (h1 : cRow r o x y = p) (h2 : cRow r o y z = q) : cRow r o x z = if p = .eq then q else .lt := by
  unfold cRow at *
  cases hx : r[x]? with
  | none =>
    rw [hx] at h1
    simp at h1
    subst h1
    rcases hp with h | h <;> cases h
  | some a => cases hy : r[y]? with
    | none =>
      rw [hx, hy] at h1
      simp at h1
      subst h1
      rcases hp with h | h <;> cases h
    | some b => cases hz : r[z]? with
      | none =>
        rw [hy, hz] at h2
        simp at h2
        subst h2
        rcases hq with h | h <;> cases h
      | some d =>
        rw [hx, hy] at h1
        rw [hy, hz] at h2
        exact cmpL_trans o a b d p q hp hq h1 h2
theorem sit_of {r : List (List Ky)} {o : List (Nat × Bool)} (hr : RowOk r) (ho : OrdOk o) : Sit (r.map tK) (tO o) (cRow r o) where
  n7 := by rw [List.length_map]; exact hr.1
  row := f_is_row hr
  ord := f_is_order ho
  sh := row_sh hr
  cmp := fun x y hx hy => by
    rw [List.length_map] at hx hy
    have e : cRow r o x y = cmpL o r[x] r[y] := by
      unfold cRow
      rw [List.getElem?_eq_getElem hx, List.getElem?_eq_getElem hy]
    rw [List.getElem_map, List.getElem_map, e]
    exact f_compared o r[x] r[y] (fun q m => (ho.2.2.1 q m).1) (hr.2 _ (List.getElem_mem hx)).2.2 (hr.2 _ (List.getElem_mem hy)).2.2
  hld := fun x y hx hy => by
    rw [List.length_map] at hx hy
    have e : cRow r o x y = cmpL o r[x] r[y] := by
      unfold cRow
      rw [List.getElem?_eq_getElem hx, List.getElem?_eq_getElem hy]
    rw [List.getElem_map, List.getElem_map, e]
    exact f_law_held o r[x] r[y] (fun q m => (ho.2.2.1 q m).1) (hr.2 _ (List.getElem_mem hx)).2.2 (hr.2 _ (List.getElem_mem hy)).2.2
  flip := fun x y => by
    unfold cRow
    cases r[x]? <;> cases r[y]? <;> first | rfl | exact cmpL_flip o _ _
  ee := fun x y z h1 h2 => cRow_tr r o x y z .eq .eq (.inr rfl) (.inr rfl) h1 h2
  el := fun x y z h1 h2 => cRow_tr r o x y z .eq .lt (.inr rfl) (.inl rfl) h1 h2
  le := fun x y z h1 h2 => cRow_tr r o x y z .lt .eq (.inl rfl) (.inr rfl) h1 h2
  ll := fun x y z h1 h2 => cRow_tr r o x y z .lt .lt (.inl rfl) (.inl rfl) h1 h2
end NM
/-! G4: what the law draws -/
namespace NM
open PySem DL
abbrev lI (l : List Int) : List D := l.map PyData.int
def Dr (l : List Int) : Prop := ∀ d ∈ l, 0 ≤ d ∧ d < 1000000007
theorem cut_drop {α : Type} (l : List α) (k : Nat) : cutD l (some (k : Int)) none = l.drop k := by
  unfold cutD
  rw [HT.sIx_none, HT.sIx_nat]
  by_cases h : k ≤ l.length
  · rw [Nat.min_eq_left h, List.take_of_length_le (by simp)]
  · rw [Nat.min_eq_right (by omega), List.drop_of_length_le (Nat.le_refl _), List.drop_of_length_le (by omega)]; simp
theorem cut_take {α : Type} (l : List α) (k : Nat) : cutD l none (some (k : Int)) = l.take k := by
  unfold cutD
  rw [HT.sIx_none, HT.sIx_nat, List.drop_zero, Nat.sub_zero]
  by_cases h : k ≤ l.length
  · rw [Nat.min_eq_left h]
  · rw [Nat.min_eq_right (by omega), List.take_of_length_le (Nat.le_refl _), List.take_of_length_le (by omega)]
theorem at_lI {l : List Int} {k : Nat} (hk : k < l.length) : ∃ v, L2.atI (lI l) (k : Int) = some (.int v) ∧ v ∈ l := by
  refine ⟨l[k], ?_, List.getElem_mem hk⟩
  rw [atI_nat, List.getElem?_map, List.getElem?_eq_getElem hk]; rfl
theorem at_Dr {l : List Int} (h : Dr l) {k : Nat} (hk : k < l.length) : ∃ v, L2.atI (lI l) (k : Int) = some (.int v) ∧ 0 ≤ v ∧ v < 1000000007 := by
  obtain ⟨v, e, m⟩ := at_lI hk
  exact ⟨v, e, h v m⟩
theorem Dr.drop {l : List Int} (h : Dr l) (k : Nat) : Dr (l.drop k) := fun d hd => h d (List.mem_of_mem_drop hd)
/-! a cell -/
abbrev ceB : Rho → Option Out := sSet 2 (f2 gMod (f2 gAdd (f2 gMul (fR 2) (fC (.int 50021))) (fR 3)) (fC (.int 1000000009)))
theorem ce_body (s x : Int) (h : 0 ≤ s) (h2 : s < 1000000009) (a0 a1 : Option Cell) : ∃ t, 0 ≤ t ∧ t < 1000000009 ∧ ceB [a0, a1, some (.dat (.int s)), some (.dat (.int x))] = some (.nx [a0, a1, some (.dat (.int t)), some (.dat (.int x))]) := by
  refine ⟨(s * 50021 + x) % 1000000009, Int.emod_nonneg _ (by decide), Int.emod_lt_of_pos _ (by decide), ?_⟩
  have c1 : (-18446744073709551616 : Int) < s := by omega
  have c2 : s < 18446744073709551616 := by omega
  simp [c1, c2]
theorem ce_init (x : Int) (c1 : -18446744073709551616 < x) (c2 : x < 18446744073709551616) (a0 a3 : Option Cell) : ∃ s : Int, 0 ≤ s ∧ s < 1000000009 ∧ (sSet 2 (f2 gMod (f2 gMul (fC (.int 40009)) (f2 gAdd (f2 gAdd (f2 gMul (fR 1) (fR 1)) (f2 gMul (fC (.int 3)) (fR 1))) (fC (.int 7)))) (fC (.int 1000000009)))) [a0, some (.dat (.int x)), none, a3] = some (.nx [a0, some (.dat (.int x)), some (.dat (.int s)), a3]) := by
  refine ⟨(40009 * (x * x + 3 * x + 7)) % 1000000009, Int.emod_nonneg _ (by decide), Int.emod_lt_of_pos _ (by decide), ?_⟩
  simp [c1, c2]
theorem f_law_cell (ns : List Int) (hn : ns.length ≤ 63) (k : Nat) (hk : k ≤ 4) : ∃ z : Int, F_law_cell [.list (lI ns), nI k] = some (.int z) := by
  rw [u_law_cell]
  unfold B_law_cell
  by_cases h : k < ns.length
  · obtain ⟨v, e, _⟩ := at_lI h
    refine ⟨v, ?_⟩
    have ht : (fB (f2 gLt (fR 1) (f1 gLen (fR 0)))) [some (.dat (.list (lI ns))), some (.dat (nI k)), none, none] = some true := by
      simp [h]
    have hg : (sRet (f2 gIx (fR 0) (fR 1))) [some (.dat (.list (lI ns))), some (.dat (nI k)), none, none] = some (.rt (.int v)) := by
      simp only [lI] at e
      simp [e]
    rw [sIf_rt (h := sNx) ht hg]; rfl
  · have ht : (fB (f2 gLt (fR 1) (f1 gLen (fR 0)))) [some (.dat (.list (lI ns))), some (.dat (nI k)), none, none] = some false := by
      simp [h]
    rw [sIf_nx ht]
    obtain ⟨s, hs0, hs1, h2⟩ := ce_init (k : Int) (by omega) (by omega) (some (.dat (.list (lI ns)))) none
    rw [sSeq_nx h2]
    have h3 : (iL (fSl (fR 0) oNone (oSome (fC (.int 4))))) [some (.dat (.list (lI ns))), some (.dat (nI k)), some (.dat (.int s)), none] = some (lI (ns.take 4)) := by
      have : cutD (lI ns) none (some 4) = (lI ns).take 4 := cut_take _ 4
      simp [this, List.map_take]
    obtain ⟨ρ', e, t, x3, _, _, rfl⟩ := loop_inv (g := gN 3) (b := ceB) (fun _ ρ => ∃ t x3, 0 ≤ t ∧ t < 1000000009 ∧ ρ = [some (.dat (.list (lI ns))), some (.dat (nI k)), some (.dat (.int t)), x3]) (lI (ns.take 4)) 0 (by
      rintro i d hd ρ ⟨t, x3, t0, t1, rfl⟩
      obtain ⟨x, _, rfl⟩ := List.mem_map.mp (List.mem_of_getElem? hd)
      obtain ⟨t', q0, q1, q2⟩ := ce_body t x t0 t1 (some (.dat (.list (lI ns)))) (some (.dat (nI k)))
      exact ⟨_, _, rfl, q2, t', _, q0, q1, rfl⟩) _ ⟨s, none, hs0, hs1, rfl⟩
    rw [sSeq_nx ((sFor_eq h3).trans e)]
    exact ⟨t, rfl⟩
/-! draws -/
abbrev drB : Rho → Option Out := sSeq (sSet 3 (f2 gMod (f2 gAdd (f2 gAdd (f2 gMul (fR 3) (f2 gAdd (f2 gMod (fR 3) (fC (.int 32749))) (fC (.int 31337)))) (f2 gMul (fC (.int 613)) (fR 5))) (fC (.int 29))) (fC (.int 1000000007))))
  (sSeq (sApp 4 (f2 gIx (fL (fLst (fCons (fV 3) (fCons (f2 gMod (fR 2) (fC (.int 1000000))) fNil)))) (f1 gInt (f2 gGt (fR 2) (fC (.int 0))))))
  (sSet 2 (f2 gDiv (fR 2) (fC (.int 1000000)))))
theorem at2a (a b : D) : L2.atI [a, b] (0 : Int) = some a := rfl
theorem at2b (a b : D) : L2.atI [a, b] (1 : Int) = some b := rfl
theorem dr_body (l s : Int) (k : Nat) (hk : k ≤ 1000) (xs : List Int) (hx : Dr xs) (hxl : xs.length ≤ 1000) (h0 : 0 ≤ s) (h1 : s < 1000000007) (a0 a1 : Option Cell) : ∃ l' s' x, 0 ≤ s' ∧ s' < 1000000007 ∧ 0 ≤ x ∧ x < 1000000007 ∧
    drB [a0, a1, some (.dat (.int l)), some (.dat (.int s)), some (.own (lI xs)), some (.dat (nI k))] = some (.nx [a0, a1, some (.dat (.int l')), some (.dat (.int s')), some (.own (lI (xs ++ [x]))), some (.dat (nI k))]) := by
  have p0 := Int.emod_nonneg (s * (s % 32749 + 31337) + 613 * (k : Int) + 29) (by decide : (1000000007 : Int) ≠ 0)
  have p1 := Int.emod_lt_of_pos (s * (s % 32749 + 31337) + 613 * (k : Int) + 29) (by decide : (0 : Int) < 1000000007)
  have r0 := Int.emod_nonneg l (by decide : (1000000 : Int) ≠ 0)
  have r1 := Int.emod_lt_of_pos l (by decide : (0 : Int) < 1000000)
  have c1 : (-18446744073709551616 : Int) < s := by omega
  have c2 : s < 18446744073709551616 := by omega
  have L : ∀ {α : Type} (a : α), lim xs.length a = some a := fun a => lim_ok (by omega)
  by_cases hl : 0 < l
  · refine ⟨l / 1000000, (s * (s % 32749 + 31337) + 613 * (k : Int) + 29) % 1000000007, l % 1000000, p0, p1, r0, by omega, ?_⟩
    simp [c1, c2, hl, lim_ok, L, at2b]
  · refine ⟨l / 1000000, (s * (s % 32749 + 31337) + 613 * (k : Int) + 29) % 1000000007, (s * (s % 32749 + 31337) + 613 * (k : Int) + 29) % 1000000007, p0, p1, p0, p1, ?_⟩
    simp [c1, c2, hl, lim_ok, L, at2a]
theorem f_law_draws (z : Int) : ∃ ds, F_law_draws [.int z, .int 60] = some (.list (lI ds)) ∧ ds.length = 60 ∧ Dr ds := by
  rw [u_law_draws]
  unfold B_law_draws
  obtain ⟨l, h1⟩ : ∃ l : Int, (sSet 2 (f2 gIx (fL (fLst (fCons (fC (.int 0)) (fCons (fV 0) fNil)))) (f1 gInt (f2 gGe (fR 0) (f2 gPow (fC (.int 10)) (fC (.int 18))))))) [some (.dat (.int z)), some (.dat (.int 60)), none, none, none, none] = some (.nx [some (.dat (.int z)), some (.dat (.int 60)), some (.dat (.int l)), none, none, none]) := by
    have hp : gPow (.int 10) (.int 18) = some (.int 1000000000000000000) := by
      show (if (0 : Int) ≤ 18 ∧ (18 : Int) ≤ 1000 ∧ Int.natAbs 10 < 2 ^ 64 then some (PyData.int (10 ^ (Int.toNat 18))) else none) = _
      rw [if_pos (by decide)]
      rfl
    by_cases h : 1000000000000000000 ≤ z
    · exact ⟨z, by simp [lim_ok, hp, h, at2b]⟩
    · exact ⟨0, by simp [lim_ok, hp, h, at2a]⟩
  rw [sSeq_nx h1]
  obtain ⟨s, hs0, hs1, h2⟩ : ∃ s : Int, 0 ≤ s ∧ s < 1000000007 ∧ (sSet 3 (f2 gMod (f2 gAdd (f2 gMul (f2 gMod (fR 0) (fC (.int 998244353))) (fC (.int 7919))) (fC (.int 101))) (fC (.int 998244353)))) [some (.dat (.int z)), some (.dat (.int 60)), some (.dat (.int l)), none, none, none] = some (.nx [some (.dat (.int z)), some (.dat (.int 60)), some (.dat (.int l)), some (.dat (.int s)), none, none]) := by
    have r0 := Int.emod_nonneg z (by decide : (998244353 : Int) ≠ 0)
    have r1 := Int.emod_lt_of_pos z (by decide : (0 : Int) < 998244353)
    have p0 := Int.emod_nonneg (z % 998244353 * 7919 + 101) (by decide : (998244353 : Int) ≠ 0)
    have p1 := Int.emod_lt_of_pos (z % 998244353 * 7919 + 101) (by decide : (0 : Int) < 998244353)
    refine ⟨(z % 998244353 * 7919 + 101) % 998244353, p0, by omega, ?_⟩
    have c1 : (-18446744073709551616 : Int) < z % 998244353 := by omega
    have c2 : z % 998244353 < 18446744073709551616 := by omega
    simp [c1, c2]
  rw [sSeq_nx h2]
  have h3 : (sSetF 4 (fLst fNil)) [some (.dat (.int z)), some (.dat (.int 60)), some (.dat (.int l)), some (.dat (.int s)), none, none] = some (.nx [some (.dat (.int z)), some (.dat (.int 60)), some (.dat (.int l)), some (.dat (.int s)), some (.own (lI [])), none]) := by simp [lim_ok]
  rw [sSeq_nx h3]
  have h4 : (iR1 (fR 1)) [some (.dat (.int z)), some (.dat (.int 60)), some (.dat (.int l)), some (.dat (.int s)), some (.own (lI [])), none] = some (rangeD 0 60) := iR1_nat 60 rfl (by decide)
  obtain ⟨ρ', e, l', s', xs, x5, rfl, _, _, q2, q3⟩ := loop_rng (n := 60) (g := gN 5) (b := drB) (fun k ρ => ∃ l' s' xs x5, ρ = [some (.dat (.int z)), some (.dat (.int 60)), some (.dat (.int l')), some (.dat (.int s')), some (.own (lI xs)), x5] ∧ 0 ≤ s' ∧ s' < 1000000007 ∧ Dr xs ∧ xs.length = k)
    (ρ := [some (.dat (.int z)), some (.dat (.int 60)), some (.dat (.int l)), some (.dat (.int s)), some (.own (lI [])), none]) ⟨l, s, [], none, rfl, hs0, hs1, (fun d h => by cases h), rfl⟩ (by
    rintro k hk ρ ⟨l', s', xs, x5, rfl, t0, t1, t2, t3⟩
    obtain ⟨l2, s2, x, u0, u1, u2, u3, u4⟩ := dr_body l' s' k (by omega) xs t2 (by omega) t0 t1 (some (.dat (.int z))) (some (.dat (.int 60)))
    refine ⟨_, _, rfl, u4, l2, s2, xs ++ [x], _, rfl, u0, u1, fun d hd => ?_, by simp [t3]⟩
    rcases List.mem_append.mp hd with hd | hd
    · exact t2 d hd
    · rw [List.mem_singleton.mp hd]; exact ⟨u2, u3⟩)
  rw [sSeq_nx ((sFor_eq h4).trans e)]
  exact ⟨xs, rfl, q3, q2⟩
end NM
/-! G5: words, keys, things -/
namespace NM
open PySem DL
theorem lt26_len : lt26.length = 26 := by decide +kernel
theorem e_gIxS (z : PySem.Str) (i : Int) : gIx (.str z) (.int i) = (lim z.length ()).bind fun _ => (L2.atI z.cps.toList i).map fun a => .str ⟨#[a]⟩ := rfl
theorem let_len : ("abcdefghijklmnopqrstuvwxyz" : PySem.Str).length = 26 := by decide +kernel
theorem let_cps : ("abcdefghijklmnopqrstuvwxyz" : PySem.Str).cps.toList = lt26 := rfl
theorem g_let (i : Int) (h0 : 0 ≤ i) (h1 : i < 26) : ∃ a, a ∈ lt26 ∧ gIx (.str "abcdefghijklmnopqrstuvwxyz") (.int i) = some (.str ⟨#[a]⟩) := by
  obtain ⟨k, rfl⟩ : ∃ k : Nat, i = (k : Int) := ⟨i.toNat, by omega⟩
  have hk : k < lt26.length := by rw [lt26_len]; omega
  refine ⟨lt26[k], List.getElem_mem hk, ?_⟩
  rw [e_gIxS, let_len, lim_ok (by omega), Option.bind_some, let_cps, atI_nat, List.getElem?_eq_getElem hk]; rfl
abbrev wdB : Rho → Option Out := sSeq (sSet 3 (f2 gAdd (fR 3) (f2 gIx (fC (.str "abcdefghijklmnopqrstuvwxyz")) (f2 gMod (fR 2) (fC (.int 26)))))) (sSet 2 (f2 gDiv (fR 2) (fC (.int 26))))
theorem wd_body (x : Int) (s : PySem.Str) (hs : s.length ≤ 100) (a0 a1 x4 : Option Cell) : ∃ a, a ∈ lt26 ∧ wdB [a0, a1, some (.dat (.int x)), some (.dat (.str s)), x4] = some (.nx [a0, a1, some (.dat (.int (x / 26))), some (.dat (.str (s ++ ⟨#[a]⟩))), x4]) := by
  obtain ⟨a, ha, e⟩ := g_let (x % 26) (Int.emod_nonneg _ (by decide)) (Int.emod_lt_of_pos _ (by decide))
  refine ⟨a, ha, ?_⟩
  have L : ∀ {α : Type} (b : α), lim (s.length + (⟨#[a]⟩ : PySem.Str).length) b = some b := fun b => lim_ok (by show s.length + 1 ≤ _; omega)
  simp [e, L]
theorem app_len (s t : PySem.Str) : (s ++ t).length = s.length + t.length := by
  show (s.cps ++ t.cps).size = s.cps.size + t.cps.size
  simp
theorem app_cps (s t : PySem.Str) : (s ++ t).cps.toList = s.cps.toList ++ t.cps.toList := by
  show (s.cps ++ t.cps).toList = _
  simp
theorem f_law_word (a b : Int) (a0 : 0 ≤ a) (a1 : a < 1000000007) (b0 : 0 ≤ b) (b1 : b < 1000000007) : ∃ s, F_law_word [.int a, .int b] = some (.str s) ∧ Ky.ok (.w s) := by
  rw [u_law_word]
  unfold B_law_word
  have h1 : (sSet 2 (f2 gAdd (f2 gMul (fR 0) (fC (.int 1000003))) (fR 1))) [some (.dat (.int a)), some (.dat (.int b)), none, none, none] = some (.nx [some (.dat (.int a)), some (.dat (.int b)), some (.dat (.int (a * 1000003 + b))), none, none]) := by
    have c1 : (-18446744073709551616 : Int) < a := by omega
    have c2 : a < 18446744073709551616 := by omega
    simp [c1, c2]
  have h2 : (sSet 3 (fC (.str ""))) [some (.dat (.int a)), some (.dat (.int b)), some (.dat (.int (a * 1000003 + b))), none, none] = some (.nx [some (.dat (.int a)), some (.dat (.int b)), some (.dat (.int (a * 1000003 + b))), some (.dat (.str "")), none]) := by simp
  obtain ⟨m, hm, hm8⟩ := mod_nat b (m := 8) (by decide)
  have h3 : (iR1 (f2 gAdd (fC (.int 1)) (f2 gMod (fR 1) (fC (.int 8))))) [some (.dat (.int a)), some (.dat (.int b)), some (.dat (.int (a * 1000003 + b))), some (.dat (.str "")), none] = some (rangeD 0 (1 + m)) := by
    refine iR1_nat (1 + m) ?_ (by omega)
    simp [hm]
  rw [sSeq_nx h1, sSeq_nx h2]
  obtain ⟨ρ', e, x, s, x4, rfl, q1, q2⟩ := loop_rng (n := 1 + m) (g := gN 4) (b := wdB) (fun k ρ => ∃ x s x4, ρ = [some (.dat (.int a)), some (.dat (.int b)), some (.dat (.int x)), some (.dat (.str s)), x4] ∧ s.length = k ∧ ∀ z ∈ s.cps.toList, z ∈ lt26)
    (ρ := [some (.dat (.int a)), some (.dat (.int b)), some (.dat (.int (a * 1000003 + b))), some (.dat (.str "")), none]) ⟨_, _, _, rfl, by decide +kernel, (fun z hz => by
      have : (("" : PySem.Str)).cps.toList = [] := by decide +kernel
      rw [this] at hz; cases hz)⟩ (by
    rintro k hk ρ ⟨x, s, x4, rfl, q1, q2⟩
    obtain ⟨z, hz, e⟩ := wd_body x s (by omega) (some (.dat (.int a))) (some (.dat (.int b))) (some (.dat (nI k)))
    refine ⟨_, _, rfl, e, _, _, _, rfl, by rw [app_len, q1]; rfl, fun y hy => ?_⟩
    rw [app_cps] at hy
    rcases List.mem_append.mp hy with hy | hy
    · exact q2 y hy
    · have : y = z := by simpa using hy
      rw [this]; exact hz)
  rw [sSeq_nx ((sFor_eq h3).trans e)]
  exact ⟨s, rfl, by omega, by omega, q2⟩
theorem idx2 (a b : D) (x : Int) (h : x = 0 ∨ x = 1) : ∃ d, L2.atI [a, b] x = some d ∧ (d = a ∨ d = b) := by
  rcases h with rfl | rfl
  · exact ⟨a, rfl, .inl rfl⟩
  · exact ⟨b, rfl, .inr rfl⟩
theorem k3 (y k a : Int) (y0 : 0 ≤ y) (k0 : 0 ≤ k) (k1 : k < 7) (x0 x4 : Option Cell) : ∃ v : Int, -1000000000 < v ∧ v < 1000000000 ∧ (sSeq (sSet 5 (f2 gAdd (fC (.int 2)) (f2 gMod (fR 1) (fC (.int 9)))))
  (sSeq (sSet 6 (f2 gMod (fR 2) (fR 5)))
  (sRet (f2 gAdd (f2 gMul (f2 gIx (fL (fLst (fCons (fV 6) (fCons (f2 DL.gSub (fR 5) (fR 6)) fNil)))) (f2 gMod (f2 gDiv (f2 gDiv (fR 1) (fC (.int 9))) (f2 gAdd (f2 gDiv (fR 2) (fR 5)) (fC (.int 1)))) (fC (.int 2)))) (fC (.int 2))) (f2 gMod (fR 3) (fC (.int 2))))))) [x0, some (.dat (.int y)), some (.dat (.int k)), some (.dat (.int a)), x4, none, none] = some (.rt (.int v)) := by
  have m0 := Int.emod_nonneg y (by decide : (9 : Int) ≠ 0)
  have m1 := Int.emod_lt_of_pos y (by decide : (0 : Int) < 9)
  have s0 : 0 < 2 + y % 9 := by omega
  have s1 : 2 + y % 9 < 1073741824 := by omega
  have p0 := Int.emod_nonneg k (by omega : 2 + y % 9 ≠ 0)
  have p1 := Int.emod_lt_of_pos k s0
  have d0 := Int.ediv_nonneg k0 (Int.le_of_lt s0)
  have d1 : k / (2 + y % 9) ≤ k := Int.ediv_le_self _ k0
  have t0 : 0 < k / (2 + y % 9) + 1 := by omega
  have t1 : k / (2 + y % 9) + 1 < 1073741824 := by omega
  have u0 := Int.emod_nonneg (y / 9 / (k / (2 + y % 9) + 1)) (by decide : (2 : Int) ≠ 0)
  have u1 := Int.emod_lt_of_pos (y / 9 / (k / (2 + y % 9) + 1)) (by decide : (0 : Int) < 2)
  have w0 := Int.emod_nonneg a (by decide : (2 : Int) ≠ 0)
  have w1 := Int.emod_lt_of_pos a (by decide : (0 : Int) < 2)
  obtain ⟨d, e1, e2⟩ := idx2 (.int (k % (2 + y % 9))) (.int (2 + y % 9 - k % (2 + y % 9))) (y / 9 / (k / (2 + y % 9) + 1) % 2) (by omega)
  obtain ⟨v, rfl, v0, v1⟩ : ∃ v : Int, d = .int v ∧ 0 ≤ v ∧ v ≤ 20 := by
    rcases e2 with rfl | rfl
    · exact ⟨_, rfl, by omega, by omega⟩
    · exact ⟨_, rfl, by omega, by omega⟩
  refine ⟨v * 2 + a % 2, by omega, by omega, ?_⟩
  have c1 : (-18446744073709551616 : Int) < v := by omega
  have c2 : v < 18446744073709551616 := by omega
  simp [s0, s1, t0, t1, e1, c1, c2, lim_ok]
theorem f_law_first (kd y k a b : Int) (y0 : 0 ≤ y) (k0 : 0 ≤ k) (k1 : k < 7) (a0 : 0 ≤ a) (a1 : a < 1000000007) (b0 : 0 ≤ b) (b1 : b < 1000000007) : ∃ q : Ky, F_law_first [.int kd, .int y, .int k, .int a, .int b] = some q.D ∧ q.ok := by
  have key : ∀ v : Int, (∃ o, B_law_first [some (.dat (.int kd)), some (.dat (.int y)), some (.dat (.int k)), some (.dat (.int a)), some (.dat (.int b)), none, none] = some o ∧ o = .rt (.int v)) → -1000000000 < v → v < 1000000000 → ∃ q : Ky, F_law_first [.int kd, .int y, .int k, .int a, .int b] = some q.D ∧ q.ok := by
    rintro v ⟨o, h, rfl⟩ v0 v1
    refine ⟨.n v, ?_, v0, v1⟩
    rw [u_law_first, h]; rfl
  have tt : ∀ j : Int, (fB (f2 gEq (fR 0) (fC (.int j)))) [some (.dat (.int kd)), some (.dat (.int y)), some (.dat (.int k)), some (.dat (.int a)), some (.dat (.int b)), none, none] = some (decide (kd = j)) := fun j => by simp
  have tT : ∀ j : Int, kd = j → (fB (f2 gEq (fR 0) (fC (.int j)))) [some (.dat (.int kd)), some (.dat (.int y)), some (.dat (.int k)), some (.dat (.int a)), some (.dat (.int b)), none, none] = some true := fun j h => by rw [tt, decide_eq_true h]
  have tF : ∀ j : Int, ¬ kd = j → (fB (f2 gEq (fR 0) (fC (.int j)))) [some (.dat (.int kd)), some (.dat (.int y)), some (.dat (.int k)), some (.dat (.int a)), some (.dat (.int b)), none, none] = some false := fun j h => by rw [tt, decide_eq_false h]
  by_cases h0 : kd = 0
  · refine key (a % 4) ⟨_, ?_, rfl⟩ (by omega) (by omega)
    unfold B_law_first
    exact sIf_rt (tT 0 h0) (by simp)
  by_cases h1 : kd = 1
  · refine key ((a * 1000003 + b) % 1999999999 - 999999999) ⟨_, ?_, rfl⟩ (by omega) (by omega)
    unfold B_law_first
    rw [sIf_nx (tF 0 h0)]
    have c1 : (-18446744073709551616 : Int) < a := by omega
    have c2 : a < 18446744073709551616 := by omega
    exact sIf_rt (tT 1 h1) (by simp [c1, c2])
  by_cases h2 : kd = 2
  · obtain ⟨s, hs, hok⟩ := f_law_word a b a0 a1 b0 b1
    refine ⟨.w s, ?_, hok⟩
    rw [u_law_first]
    unfold B_law_first
    rw [sIf_nx (tF 0 h0), sIf_nx (tF 1 h1)]
    have hr : (sRet (fCall F_law_word (fCons (fV 3) (fCons (fV 4) fNil)))) [some (.dat (.int kd)), some (.dat (.int y)), some (.dat (.int k)), some (.dat (.int a)), some (.dat (.int b)), none, none] = some (.rt (.str s)) := by
      rw [e_sRet, e_fCall]
      show ((F_law_word [.int a, .int b]).map Out.rt) = _
      rw [hs]; rfl
    rw [sIf_rt (h := sNx) (tT 2 h2) hr]; rfl
  by_cases h3 : kd = 3
  · obtain ⟨v, v0, v1, hv⟩ := k3 y k a y0 k0 k1 (some (.dat (.int kd))) (some (.dat (.int b)))
    refine key v ⟨_, ?_, rfl⟩ v0 v1
    unfold B_law_first
    rw [sIf_nx (tF 0 h0), sIf_nx (tF 1 h1), sIf_nx (tF 2 h2)]
    exact sIf_rt (tT 3 h3) hv
  by_cases h4 : kd = 4
  · have m0 := Int.emod_nonneg b (by decide : (60 : Int) ≠ 0)
    have m1 := Int.emod_lt_of_pos b (by decide : (0 : Int) < 60)
    by_cases h6 : a % 6 = 0
    · refine key (b % 60) ⟨_, ?_, rfl⟩ (by omega) (by omega)
      unfold B_law_first
      rw [sIf_nx (tF 0 h0), sIf_nx (tF 1 h1), sIf_nx (tF 2 h2), sIf_nx (tF 3 h3)]
      exact sIf_rt (tT 4 h4) (by simp [h6, lim_ok, at2b])
    · refine key k ⟨_, ?_, rfl⟩ (by omega) (by omega)
      unfold B_law_first
      rw [sIf_nx (tF 0 h0), sIf_nx (tF 1 h1), sIf_nx (tF 2 h2), sIf_nx (tF 3 h3)]
      exact sIf_rt (tT 4 h4) (by simp [h6, lim_ok, at2a])
  · have m0 := Int.emod_nonneg (k * (1 + y % 60)) (by decide : (61 : Int) ≠ 0)
    have m1 := Int.emod_lt_of_pos (k * (1 + y % 60)) (by decide : (0 : Int) < 61)
    refine key (k * (1 + y % 60) % 61) ⟨_, ?_, rfl⟩ (by omega) (by omega)
    unfold B_law_first
    rw [sIf_nx (tF 0 h0), sIf_nx (tF 1 h1), sIf_nx (tF 2 h2), sIf_nx (tF 3 h3), sIf_nx (tF 4 h4)]
    have c1 : (-18446744073709551616 : Int) < k := by omega
    have c2 : k < 18446744073709551616 := by omega
    simp [c1, c2]
end NM
/-! G6: law_things, law_spoilt -/
namespace NM
open PySem DL
theorem ab_len : ("ab" : PySem.Str).length = 2 := by decide +kernel
theorem ab_cps : ("ab" : PySem.Str).cps.toList = [97, 98] := by decide +kernel
theorem ab_in : 97 ∈ lt26 ∧ 98 ∈ lt26 := by decide +kernel
theorem g_ab (i : Int) (h : i = 0 ∨ i = 1) : ∃ s : PySem.Str, gIx (.str "ab") (.int i) = some (.str s) ∧ Ky.ok (.w s) := by
  rcases h with rfl | rfl
  · exact ⟨⟨#[97]⟩, by rw [e_gIxS, ab_len, lim_ok (by omega), Option.bind_some, ab_cps]; rfl, by decide, by decide, fun a ha => by
      have : a = 97 := by simpa using ha
      rw [this]; exact ab_in.1⟩
  · exact ⟨⟨#[98]⟩, by rw [e_gIxS, ab_len, lim_ok (by omega), Option.bind_some, ab_cps]; rfl, by decide, by decide, fun a ha => by
      have : a = 98 := by simpa using ha
      rw [this]; exact ab_in.2⟩
theorem ok_ab : Ky.ok (.w "ab") := by
  refine ⟨by rw [ab_len]; decide, by rw [ab_len]; decide, fun a ha => ?_⟩
  rw [ab_cps] at ha
  have : a = 97 ∨ a = 98 := by simpa using ha
  rcases this with rfl | rfl
  · exact ab_in.1
  · exact ab_in.2
theorem cutK (x : List Ky) (lo hi : Option Int) : cutD (lK x) lo hi = lK (cutD x lo hi) := cutD_map Ky.D x lo hi
abbrev thB (F : List D → Option D) : Rho → Option Out := sSeq (sPar2 5 6 (cD (f2 gIx (fR 0) (f2 gAdd (fC (.int 4)) (f2 gMul (fC (.int 2)) (fR 3))))) (cD (f2 gIx (fR 0) (f2 gAdd (fC (.int 5)) (f2 gMul (fC (.int 2)) (fR 3))))))
  (sSeq (sSet 4 (fTup (fCons (fCall F (fCons (f2 gMod (f2 gIx (fR 0) (fC (.int 0))) (fC (.int 6))) (fCons (f2 gIx (fR 0) (fC (.int 2))) (fCons (fV 3) (fCons (fV 5) (fCons (fV 6) fNil)))))) (fCons (f2 gMod (f2 gDiv (fR 6) (fC (.int 7))) (fC (.int 3))) (fCons (f2 gIx (fC (.str "ab")) (f2 gMod (f2 gDiv (fR 5) (fC (.int 11))) (fC (.int 2)))) fNil)))))
  (sApp 2 (fSl (fR 4) oNone (oSome (f2 gAdd (fC (.int 1)) (f2 gMod (f2 gIx (fR 0) (fC (.int 1))) (fC (.int 3))))))))
theorem th_body (F : List D → Option D) (X : List D) (k a b v0 v1 v2 : Int) (q : Ky) (hq : q.ok) (h0 : L2.atI X 0 = some (.int v0)) (h1 : L2.atI X 1 = some (.int v1)) (h2 : L2.atI X 2 = some (.int v2)) (h4 : L2.atI X (4 + 2 * k) = some (.int a)) (h5 : L2.atI X (5 + 2 * k) = some (.int b))
    (hF : F [.int (v0 % 6), .int v2, .int k, .int a, .int b] = some q.D) (x1 x4 x5 x6 : Option Cell) (r : List (List Ky)) (hr : r.length ≤ 100) :
    ∃ t y4, ThOk t ∧ thB F [some (.dat (.list X)), x1, some (.own (r.map tK)), some (.dat (.int k)), x4, x5, x6] = some (.nx [some (.dat (.list X)), x1, some (.own ((r ++ [t]).map tK)), some (.dat (.int k)), y4, some (.dat (.int a)), some (.dat (.int b))]) := by
  obtain ⟨s, hs, hsok⟩ := g_ab (a / 11 % 2) (by
    have := Int.emod_nonneg (a / 11) (by decide : (2 : Int) ≠ 0)
    have := Int.emod_lt_of_pos (a / 11) (by decide : (0 : Int) < 2)
    omega)
  have m0 := Int.emod_nonneg v1 (by decide : (3 : Int) ≠ 0)
  have m1 := Int.emod_lt_of_pos v1 (by decide : (0 : Int) < 3)
  have n0 := Int.emod_nonneg (b / 7) (by decide : (3 : Int) ≠ 0)
  have n1 := Int.emod_lt_of_pos (b / 7) (by decide : (0 : Int) < 3)
  have L : ∀ {α : Type} (a : α), lim r.length a = some a := fun a => lim_ok (by omega)
  refine ⟨cutD [q, .n (b / 7 % 3), .w s] none (some (1 + v1 % 3)), some (.dat (tK [q, .n (b / 7 % 3), .w s])), ?_, ?_⟩
  · obtain ⟨i, hi⟩ : ∃ i : Nat, 1 + v1 % 3 = (i : Int) := ⟨(1 + v1 % 3).toNat, by omega⟩
    rw [hi, cut_take]
    refine ⟨?_, ?_, fun z hz => ?_⟩
    · rw [List.length_take]; simp; omega
    · rw [List.length_take]; simp; omega
    · have := List.mem_of_mem_take hz
      rcases List.mem_cons.mp this with rfl | this
      · exact hq
      · rcases List.mem_cons.mp this with rfl | this
        · exact ⟨by omega, by omega⟩
        · rw [List.mem_singleton.mp this]; exact hsok
  · have e1 : (sPar2 5 6 (cD (f2 gIx (fR 0) (f2 gAdd (fC (.int 4)) (f2 gMul (fC (.int 2)) (fR 3))))) (cD (f2 gIx (fR 0) (f2 gAdd (fC (.int 5)) (f2 gMul (fC (.int 2)) (fR 3)))))) [some (.dat (.list X)), x1, some (.own (r.map tK)), some (.dat (.int k)), x4, x5, x6] = some (.nx [some (.dat (.list X)), x1, some (.own (r.map tK)), some (.dat (.int k)), x4, some (.dat (.int a)), some (.dat (.int b))]) := by
      simp [h4, h5]
    have e2 : (sSet 4 (fTup (fCons (fCall F (fCons (f2 gMod (f2 gIx (fR 0) (fC (.int 0))) (fC (.int 6))) (fCons (f2 gIx (fR 0) (fC (.int 2))) (fCons (fV 3) (fCons (fV 5) (fCons (fV 6) fNil)))))) (fCons (f2 gMod (f2 gDiv (fR 6) (fC (.int 7))) (fC (.int 3))) (fCons (f2 gIx (fC (.str "ab")) (f2 gMod (f2 gDiv (fR 5) (fC (.int 11))) (fC (.int 2)))) fNil))))) [some (.dat (.list X)), x1, some (.own (r.map tK)), some (.dat (.int k)), x4, some (.dat (.int a)), some (.dat (.int b))] = some (.nx [some (.dat (.list X)), x1, some (.own (r.map tK)), some (.dat (.int k)), some (.dat (tK [q, .n (b / 7 % 3), .w s])), some (.dat (.int a)), some (.dat (.int b))]) := by
      simp [h0, h2, hF, hs, lim_ok, Ky.D]
    rw [thB, sSeq_nx e1, sSeq_nx e2]
    have e3 : cutD (tK [q, .n (b / 7 % 3), .w s] :: []) none none = [tK [q, .n (b / 7 % 3), .w s]] := rfl
    have e4 := cutK [q, .n (b / 7 % 3), .w s] none (some (1 + v1 % 3))
    simp only [lK] at e4
    simp [h1, L, -List.map_cons, -List.map_nil]
    simp at e4
    simp [e4]
theorem f_law_things (xs : List Int) (hx : Dr xs) (hl : 28 ≤ xs.length) (m : Nat) (hm : m ≤ 7) : ∃ r, F_law_things [.list (lI xs), nI m] = some (.tuple (r.map tK)) ∧ RowOk r := by
  rw [u_law_things]
  unfold B_law_things
  obtain ⟨v0, a0, b0, c0⟩ := at_Dr hx (k := 0) (by omega)
  obtain ⟨v1, a1, b1, c1⟩ := at_Dr hx (k := 1) (by omega)
  obtain ⟨v2, a2, b2, c2⟩ := at_Dr hx (k := 2) (by omega)
  have h1 : (sSetF 2 (fLst fNil)) [some (.dat (.list (lI xs))), some (.dat (nI m)), none, none, none, none, none] = some (.nx [some (.dat (.list (lI xs))), some (.dat (nI m)), some (.own (List.map tK [])), none, none, none, none]) := by simp [lim_ok]
  rw [sSeq_nx h1]
  have h2 : (iR1 (fR 1)) [some (.dat (.list (lI xs))), some (.dat (nI m)), some (.own (List.map tK [])), none, none, none, none] = some (rangeD 0 m) := iR1_nat m rfl (by omega)
  obtain ⟨ρ', e, r, x3, x4, x5, x6, rfl, q1, q2⟩ := loop_rng (n := m) (g := gN 3) (b := thB F_law_first) (fun k ρ => ∃ r x3 x4 x5 x6, ρ = [some (.dat (.list (lI xs))), some (.dat (nI m)), some (.own (List.map tK r)), x3, x4, x5, x6] ∧ r.length = k ∧ ∀ x ∈ r, ThOk x)
    (ρ := [some (.dat (.list (lI xs))), some (.dat (nI m)), some (.own (List.map tK [])), none, none, none, none]) ⟨[], none, none, none, none, rfl, rfl, (fun x h => by cases h)⟩ (by
    rintro k hk ρ ⟨r, x3, x4, x5, x6, rfl, q1, q2⟩
    obtain ⟨a, e4, p0, p1⟩ := at_Dr hx (k := 4 + 2 * k) (by omega)
    obtain ⟨b, e5, p2, p3⟩ := at_Dr hx (k := 5 + 2 * k) (by omega)
    have c4 : ((4 + 2 * k : Nat) : Int) = 4 + 2 * (k : Int) := by omega
    have c5 : ((5 + 2 * k : Nat) : Int) = 5 + 2 * (k : Int) := by omega
    rw [c4] at e4
    rw [c5] at e5
    obtain ⟨q, hq, hqo⟩ := f_law_first (v0 % 6) v2 k a b b2 (by omega) (by omega) p0 p1 p2 p3
    obtain ⟨t, y4, ht, e⟩ := th_body F_law_first (lI xs) k a b v0 v1 v2 q hqo a0 a1 a2 e4 e5 hq (some (.dat (nI m))) x4 x5 x6 r (by omega)
    refine ⟨_, _, rfl, e, r ++ [t], _, _, _, _, rfl, by simp [q1], fun x hx => ?_⟩
    rcases List.mem_append.mp hx with hx | hx
    · exact q2 x hx
    · rw [List.mem_singleton.mp hx]; exact ht)
  rw [sSeq_nx ((sFor_eq h2).trans e)]
  refine ⟨r, ?_, by omega, q2⟩
  simp
end NM
/-! G7: law_spoilt -/
namespace NM
open PySem DL
abbrev spB : Rho → Option Out := sSeq (sPar2 6 7 (cD (f2 gMod (f2 gIx (fR 1) (f2 gAdd (fC (.int 1)) (f2 gMul (fC (.int 2)) (fR 2)))) (f1 gLen (fR 0)))) (cD (f2 gIx (fR 1) (f2 gAdd (fC (.int 2)) (f2 gMul (fC (.int 2)) (fR 2))))))
  (sSeq (sSet 3 (f2 gIx (fR 0) (fR 6)))
  (sSeq (sSet 4 (f2 gMod (f2 gDiv (fR 7) (fC (.int 5))) (f1 gLen (fR 3))))
  (sSeq (sSet 5 (fTup (fCons (fC (.str "ab")) fNil)))
  (sSeq (sIf (fB (f1 gIsStr (f2 gIx (fR 3) (fR 4)))) (sSet 5 (fTup (fCons (fC (.int 7)) fNil))) sNx)
  (sIf (tAndF (fB (f2 gGt (fR 4) (fC (.int 0)))) (fB (f2 gLt (f2 gMod (fR 7) (fC (.int 5))) (fC (.int 2))))) (sSetIx 0 (fSl (fR 3) oNone (oSome (fV 4))) (fV 6)) (sSetIx 0 (f2 gAdd (f2 gAdd (fSl (fR 3) oNone (oSome (fV 4))) (fR 5)) (fSl (fR 3) (oSome (f2 gAdd (fR 4) (fC (.int 1)))) oNone)) (fV 6)))))))
theorem atI_map {α : Type} {f : α → D} {l : List α} {k : Nat} (h : k < l.length) : L2.atI (l.map f) (k : Int) = some (f l[k]) := by
  rw [atI_nat, List.getElem?_map, List.getElem?_eq_getElem h]; rfl
theorem sp_body (X : List D) (k u v : Int) (r : List (List Ky)) (hr : RowOk r) (hpos : 0 < r.length) (h1 : L2.atI X (1 + 2 * k) = some (.int u)) (h2 : L2.atI X (2 + 2 * k) = some (.int v)) (x3 x4 x5 x6 x7 : Option Cell) :
    ∃ r' y3 y4 y5 y6 y7, RowOk r' ∧ r'.length = r.length ∧ spB [some (.own (r.map tK)), some (.dat (.list X)), some (.dat (.int k)), x3, x4, x5, x6, x7] = some (.nx [some (.own (r'.map tK)), some (.dat (.list X)), some (.dat (.int k)), y3, y4, y5, y6, y7]) := by
  have hrl := hr.1
  obtain ⟨p, hp, hp2⟩ := mod_nat u (m := (r.length : Int)) (by omega)
  have hpl : p < r.length := by omega
  have ht := hr.2 _ (List.getElem_mem hpl)
  have wr := atI_map (f := tK) hpl
  have wx := ixN_nat hpl
  obtain ⟨t1, t2, t3⟩ := ht
  obtain ⟨j, hj, hj2⟩ := mod_nat (v / 5) (m := (r[p].length : Int)) (by omega)
  have hjl : j < r[p].length := by omega
  have wt := atI_map (f := Ky.D) hjl
  have e1 : (sPar2 6 7 (cD (f2 gMod (f2 gIx (fR 1) (f2 gAdd (fC (.int 1)) (f2 gMul (fC (.int 2)) (fR 2)))) (f1 gLen (fR 0)))) (cD (f2 gIx (fR 1) (f2 gAdd (fC (.int 2)) (f2 gMul (fC (.int 2)) (fR 2)))))) [some (.own (r.map tK)), some (.dat (.list X)), some (.dat (.int k)), x3, x4, x5, x6, x7] = some (.nx [some (.own (r.map tK)), some (.dat (.list X)), some (.dat (.int k)), x3, x4, x5, some (.dat (nI p)), some (.dat (.int v))]) := by
    simp [h1, h2, hpos, hp]
  have e2 : (sSet 3 (f2 gIx (fR 0) (fR 6))) [some (.own (r.map tK)), some (.dat (.list X)), some (.dat (.int k)), x3, x4, x5, some (.dat (nI p)), some (.dat (.int v))] = some (.nx [some (.own (r.map tK)), some (.dat (.list X)), some (.dat (.int k)), some (.dat (tK r[p])), x4, x5, some (.dat (nI p)), some (.dat (.int v))]) := by
    simp [wr]
  have e3 : (sSet 4 (f2 gMod (f2 gDiv (fR 7) (fC (.int 5))) (f1 gLen (fR 3)))) [some (.own (r.map tK)), some (.dat (.list X)), some (.dat (.int k)), some (.dat (tK r[p])), x4, x5, some (.dat (nI p)), some (.dat (.int v))] = some (.nx [some (.own (r.map tK)), some (.dat (.list X)), some (.dat (.int k)), some (.dat (tK r[p])), some (.dat (nI j)), x5, some (.dat (nI p)), some (.dat (.int v))]) := by
    have : 0 < r[p].length := by omega
    simp [hj, this]
  have e4 : (sSet 5 (fTup (fCons (fC (.str "ab")) fNil))) [some (.own (r.map tK)), some (.dat (.list X)), some (.dat (.int k)), some (.dat (tK r[p])), some (.dat (nI j)), x5, some (.dat (nI p)), some (.dat (.int v))] = some (.nx [some (.own (r.map tK)), some (.dat (.list X)), some (.dat (.int k)), some (.dat (tK r[p])), some (.dat (nI j)), some (.dat (tK [.w "ab"])), some (.dat (nI p)), some (.dat (.int v))]) := by
    simp [lim_ok, Ky.D]
  obtain ⟨o, ho, e5⟩ : ∃ o : Ky, o.ok ∧ (sIf (fB (f1 gIsStr (f2 gIx (fR 3) (fR 4)))) (sSet 5 (fTup (fCons (fC (.int 7)) fNil))) sNx) [some (.own (r.map tK)), some (.dat (.list X)), some (.dat (.int k)), some (.dat (tK r[p])), some (.dat (nI j)), some (.dat (tK [.w "ab"])), some (.dat (nI p)), some (.dat (.int v))] = some (.nx [some (.own (r.map tK)), some (.dat (.list X)), some (.dat (.int k)), some (.dat (tK r[p])), some (.dat (nI j)), some (.dat (tK [o])), some (.dat (nI p)), some (.dat (.int v))]) := by
    cases hq : r[p][j] with
    | n i =>
      rw [hq] at wt
      exact ⟨.w "ab", ok_ab, by simp [wt, Ky.D]⟩
    | w s =>
      rw [hq] at wt
      exact ⟨.n 7, ⟨by omega, by omega⟩, by simp [wt, Ky.D, lim_ok]⟩
  have c1 : cutD (lK r[p]) none (some (j : Int)) = lK (r[p].take j) := by rw [cutK, cut_take]
  have c2 : cutD (lK r[p]) (some ((j : Int) + 1)) none = lK (r[p].drop (j + 1)) := by
    have := cut_drop r[p] (j + 1)
    have e : ((j + 1 : Nat) : Int) = (j : Int) + 1 := by omega
    rw [e] at this
    rw [cutK, this]
  have set_ok : ∀ t : List Ky, ThOk t → RowOk (r.set p t) ∧ (r.set p t).length = r.length := fun t ht => ⟨⟨by rw [List.length_set]; exact hrl, fun x hx => by
    rcases List.mem_or_eq_of_mem_set hx with hx | rfl
    · exact hr.2 x hx
    · exact ht⟩, List.length_set⟩
  rw [spB, sSeq_nx e1, sSeq_nx e2, sSeq_nx e3, sSeq_nx e4, sSeq_nx e5]
  by_cases hc : 0 < j ∧ v % 5 < 2
  · have hT : ThOk (r[p].take j) := ⟨by rw [List.length_take]; omega, by rw [List.length_take]; omega, fun a ha => t3 a (List.mem_of_mem_take ha)⟩
    obtain ⟨s1, s2⟩ := set_ok _ hT
    refine ⟨r.set p (r[p].take j), some (.dat (tK r[p])), some (.dat (nI j)), some (.dat (tK [o])), some (.dat (nI p)), some (.dat (.int v)), s1, s2, ?_⟩
    have hj0 : (0 : Int) < (j : Int) := by omega
    simp only [lK] at c1
    rw [List.map_set]
    simp [hc.1, hc.2, c1, wx]
    rw [← List.map_take]
  · have hT : ThOk (r[p].take j ++ [o] ++ r[p].drop (j + 1)) := by
      refine ⟨by simp; omega, by simp; omega, fun a ha => ?_⟩
      rcases List.mem_append.mp ha with ha | ha
      · rcases List.mem_append.mp ha with ha | ha
        · exact t3 a (List.mem_of_mem_take ha)
        · rw [List.mem_singleton.mp ha]; exact ho
      · exact t3 a (List.mem_of_mem_drop ha)
    obtain ⟨s1, s2⟩ := set_ok _ hT
    refine ⟨r.set p (r[p].take j ++ [o] ++ r[p].drop (j + 1)), some (.dat (tK r[p])), some (.dat (nI j)), some (.dat (tK [o])), some (.dat (nI p)), some (.dat (.int v)), s1, s2, ?_⟩
    have htest : (tAndF (fB (f2 gGt (fR 4) (fC (.int 0)))) (fB (f2 gLt (f2 gMod (fR 7) (fC (.int 5))) (fC (.int 2))))) [some (.own (r.map tK)), some (.dat (.list X)), some (.dat (.int k)), some (.dat (tK r[p])), some (.dat (nI j)), some (.dat (tK [o])), some (.dat (nI p)), some (.dat (.int v))] = some false := by
      by_cases h0 : 0 < j
      · have h5 : ¬ v % 5 < 2 := fun h => hc ⟨h0, h⟩
        simp [h0, h5]
      · simp [h0]
    rw [e_sIf, htest, Option.bind_some, if_neg (by decide), List.map_set]
    have lt1 : (r[p].take j).length ≤ 4 := by rw [List.length_take]; omega
    have lt2 : (r[p].drop (j + 1)).length ≤ 4 := by rw [List.length_drop]; omega
    have hv : (f2 gAdd (f2 gAdd (fSl (fR 3) oNone (oSome (fV 4))) (fR 5)) (fSl (fR 3) (oSome (f2 gAdd (fR 4) (fC (.int 1)))) oNone)) [some (.own (r.map tK)), some (.dat (.list X)), some (.dat (.int k)), some (.dat (tK r[p])), some (.dat (nI j)), some (.dat (tK [o])), some (.dat (nI p)), some (.dat (.int v))] = some (tK (r[p].take j ++ [o] ++ r[p].drop (j + 1))) := by
      have g1 : (fSl (fR 3) oNone (oSome (fV 4))) [some (.own (r.map tK)), some (.dat (.list X)), some (.dat (.int k)), some (.dat (tK r[p])), some (.dat (nI j)), some (.dat (tK [o])), some (.dat (nI p)), some (.dat (.int v))] = some (tK (r[p].take j)) := by
        show some (PyData.tuple (cutD (lK r[p]) none (some (j : Int)))) = _
        rw [c1]
      have g2 : (fSl (fR 3) (oSome (f2 gAdd (fR 4) (fC (.int 1)))) oNone) [some (.own (r.map tK)), some (.dat (.list X)), some (.dat (.int k)), some (.dat (tK r[p])), some (.dat (nI j)), some (.dat (tK [o])), some (.dat (nI p)), some (.dat (.int v))] = some (tK (r[p].drop (j + 1))) := by
        show some (PyData.tuple (cutD (lK r[p]) (some ((j : Int) + 1)) none)) = _
        rw [c2]
      have g3 : (fR 5 : Rho → Option D) [some (.own (r.map tK)), some (.dat (.list X)), some (.dat (.int k)), some (.dat (tK r[p])), some (.dat (nI j)), some (.dat (tK [o])), some (.dat (nI p)), some (.dat (.int v))] = some (tK [o]) := rfl
      have ll : ∀ a b : List Ky, a.length + b.length ≤ 100 → gAdd (tK a) (tK b) = some (tK (a ++ b)) := fun a b h => by
        rw [e_gAddT, lim_ok (by rw [List.length_map, List.length_map]; omega), ← List.map_append]
      rw [e_f2, e_f2, g1, g3, Option.bind_some, Option.bind_some, ll _ _ (by simp; omega), Option.bind_some, g2, Option.bind_some, ll _ _ (by simp; omega)]
    rw [e_sSetIx, hv, Option.bind_some]
    simp [wx]
theorem f_law_spoilt (r : List (List Ky)) (hr : RowOk r) (xs : List Int) (hx : Dr xs) (hl : 20 ≤ xs.length) : ∃ r', F_law_spoilt [.tuple (r.map tK), .list (lI xs)] = some (.tuple (r'.map tK)) ∧ RowOk r' := by
  have hrl := hr.1
  rw [u_law_spoilt]
  unfold B_law_spoilt
  obtain ⟨v0, a0, b0, c0⟩ := at_Dr hx (k := 0) (by omega)
  have h1 : (sSetF 0 (fF1 gListOf (fR 0))) [some (.dat (.tuple (r.map tK))), some (.dat (.list (lI xs))), none, none, none, none, none, none] = some (.nx [some (.own (r.map tK)), some (.dat (.list (lI xs))), none, none, none, none, none, none]) := by simp
  rw [sSeq_nx h1]
  obtain ⟨w, hw, hw2⟩ := mod_nat v0 (m := 4) (by decide)
  have h2 : (iR1 (f2 gMin2 (f2 gMod (f2 gIx (fR 1) (fC (.int 0))) (fC (.int 4))) (f1 gLen (fR 0)))) [some (.own (r.map tK)), some (.dat (.list (lI xs))), none, none, none, none, none, none] = some (rangeD 0 (if r.length < w then r.length else w)) := by
    refine iR1_nat _ ?_ (by split <;> omega)
    have a0' : L2.atI (lI xs) 0 = some (.int v0) := a0
    simp only [lI] at a0'
    simp [a0', hw]
    by_cases h : r.length < w
    · simp [h]
    · simp [h]
  obtain ⟨ρ', e, r', x2, x3, x4, x5, x6, x7, rfl, q1, q2⟩ := loop_rng (n := if r.length < w then r.length else w) (g := gN 2) (b := spB) (fun k ρ => ∃ r' x2 x3 x4 x5 x6 x7, ρ = [some (.own (List.map tK r')), some (.dat (.list (lI xs))), x2, x3, x4, x5, x6, x7] ∧ RowOk r' ∧ r'.length = r.length)
    (ρ := [some (.own (List.map tK r)), some (.dat (.list (lI xs))), none, none, none, none, none, none]) ⟨r, none, none, none, none, none, none, rfl, hr, rfl⟩ (by
    rintro k hk ρ ⟨r', x2, x3, x4, x5, x6, x7, rfl, q1, q2⟩
    have hk2 : k < r.length ∧ k < 4 := by split at hk <;> omega
    obtain ⟨u, e4, _, _⟩ := at_Dr hx (k := 1 + 2 * k) (by omega)
    obtain ⟨v, e5, _, _⟩ := at_Dr hx (k := 2 + 2 * k) (by omega)
    have c4 : ((1 + 2 * k : Nat) : Int) = 1 + 2 * (k : Int) := by omega
    have c5 : ((2 + 2 * k : Nat) : Int) = 2 + 2 * (k : Int) := by omega
    rw [c4] at e4
    rw [c5] at e5
    obtain ⟨r'', y3, y4, y5, y6, y7, s1, s2, e⟩ := sp_body (lI xs) k u v r' q1 (by omega) e4 e5 x3 x4 x5 x6 x7
    exact ⟨_, _, rfl, e, r'', _, _, _, _, _, _, rfl, s1, by omega⟩)
  rw [sSeq_nx ((sFor_eq h2).trans e)]
  exact ⟨r', by simp, q1⟩
end NM
/-! G8: law_order -/
namespace NM
open PySem DL
def cols0 (w a : Nat) : List Nat := cutD ((List.replicate 2 (cutD [1, 2, 3] none (some (w : Int)))).flatten) (some (a : Int)) (some ((a : Int) + (w : Int)))
def colsR (w a : Nat) (rev : Bool) : List Nat := if rev then (cols0 w a).reverse else cols0 w a
def colsOf (w a q : Nat) (rev : Bool) : List Nat := cutD (colsR w a rev) none (some (1 + (q : Int)))
def colsB (l : List Nat) : Bool := decide (1 ≤ l.length) && decide (l.length ≤ 3) && (l.all fun x => decide (1 ≤ x) && decide (x ≤ 3)) && decide l.Nodup
theorem cols_all : ((List.range 4).all fun w => (List.range 3).all fun a => (List.range 3).all fun q => [true, false].all fun rev => !(decide (1 ≤ w) && decide (a < w) && decide (q < w)) || colsB (colsOf w a q rev)) = true := by decide +kernel
theorem cols_ok (w : Nat) (h4 : w < 4) (a : Nat) (h3 : a < 3) (q : Nat) (hq : q < 3) (rev : Bool) (hw : 1 ≤ w) (ha : a < w) (hqw : q < w) : (1 ≤ (colsOf w a q rev).length ∧ (colsOf w a q rev).length ≤ 3 ∧ (∀ x ∈ colsOf w a q rev, 1 ≤ x ∧ x ≤ 3) ∧ (colsOf w a q rev).Nodup) := by
  have h := cols_all
  have h := List.all_eq_true.mp h w (List.mem_range.mpr h4)
  have h := List.all_eq_true.mp h a (List.mem_range.mpr h3)
  have h := List.all_eq_true.mp h q (List.mem_range.mpr hq)
  have h := List.all_eq_true.mp h rev (by cases rev <;> simp)
  unfold colsB at h
  simp [hw, ha, hqw] at h
  obtain ⟨⟨⟨h1, h2⟩, h5⟩, h6⟩ := h
  exact ⟨h1, h2, h5, h6⟩
theorem gd_all (l : List Nat) : (List.range l.length).map (gd l) = l := by
  apply List.ext_getElem
  · simp
  · intro i h1 h2
    rw [List.getElem_map, List.getElem_range, gd_get h2]
theorem lcGo_mapG {α : Type} {g : D → Rho → Option Rho} {e : Rho → Option D} {ρ : Rho} (f h : α → D) : ∀ (l : List α), (∀ a ∈ l, ∃ ρ1, g (f a) ρ = some ρ1 ∧ e ρ1 = some (h a)) → lcGo g tYesF e ρ (l.map f) = some (l.map h)
  | [], _ => rfl
  | a :: l, w => by
    have ih := lcGo_mapG f h l (fun b m => w b (List.mem_cons_of_mem _ m))
    obtain ⟨ρ1, e1, e2⟩ := w a (List.mem_cons_self ..)
    rw [List.map_cons, lcGo, e1, Option.bind_some, e_tYesF, Option.bind_some, if_pos rfl, e2, Option.bind_some, ih]
    rfl
theorem at_getD {l : List Int} {k : Nat} (hk : k < l.length) : L2.atI (lI l) (k : Int) = some (.int (l.getD k 0)) := by
  rw [atI_nat, List.getElem?_map, List.getElem?_eq_getElem hk, List.getD_eq_getElem?_getD, List.getElem?_eq_getElem hk]; rfl
theorem wD_at (x : Int) : L2.atI [PyData.str "up", PyData.str "down"] (x % 2) = some (wD (decide (x % 2 = 0))) := by
  have h : x % 2 = 0 ∨ x % 2 = 1 := by omega
  rcases h with h | h
  · rw [h]; rfl
  · rw [h]; rfl
theorem f_law_order (xs : List Int) (hx : Dr xs) (hl : 10 ≤ xs.length) (w : Nat) (hw : 1 ≤ w) (hw2 : w ≤ 3) : ∃ o, F_law_order [.list (lI xs), nI w] = some (tO o) ∧ OrdOk o := by
  rw [u_law_order]
  unfold B_law_order
  obtain ⟨v0, a0, _, _⟩ := at_Dr hx (k := 0) (by omega)
  obtain ⟨v1, a1, _, _⟩ := at_Dr hx (k := 1) (by omega)
  obtain ⟨v2, a2, _, _⟩ := at_Dr hx (k := 2) (by omega)
  have a0 : L2.atI (lI xs) 0 = some (.int v0) := a0
  have a1 : L2.atI (lI xs) 1 = some (.int v1) := a1
  have a2 : L2.atI (lI xs) 2 = some (.int v2) := a2
  simp only [lI] at a0 a1 a2
  obtain ⟨a, ha, ha2⟩ := mod_nat v0 (m := (w : Int)) (by omega)
  obtain ⟨q, hq, hq2⟩ := mod_nat v2 (m := (w : Int)) (by omega)
  have hwp : 0 < w := by omega
  have h1 : (sSet 2 (f2 gMod (f2 gIx (fR 0) (fC (.int 0))) (fR 1))) [some (.dat (.list (lI xs))), some (.dat (nI w)), none, none, none, none] = some (.nx [some (.dat (.list (lI xs))), some (.dat (nI w)), some (.dat (nI a)), none, none, none]) := by
    simp [a0, ha, hwp]
  have h2 : (sSet 3 (fSl (fRep (fSlF (fL (fLst (fCons (fC (.int 1)) (fCons (fC (.int 2)) (fCons (fC (.int 3)) fNil))))) oNone (oSome (fV 1))) (fC (.int 2))) (oSome (fV 2)) (oSome (f2 gAdd (fR 2) (fR 1))))) [some (.dat (.list (lI xs))), some (.dat (nI w)), some (.dat (nI a)), none, none, none] = some (.nx [some (.dat (.list (lI xs))), some (.dat (nI w)), some (.dat (nI a)), some (.dat (.list (lN (cols0 w a)))), none, none]) := by
    have hs : (fSlF (fL (fLst (fCons (fC (.int 1)) (fCons (fC (.int 2)) (fCons (fC (.int 3)) fNil))))) oNone (oSome (fV 1))) [some (.dat (.list (lI xs))), some (.dat (nI w)), some (.dat (nI a)), none, none, none] = some (lN (cutD [1, 2, 3] none (some (w : Int)))) := by
      have : cutD [PyData.int 1, .int 2, .int 3] none (some (w : Int)) = lN (cutD [1, 2, 3] none (some (w : Int))) := cutN [1, 2, 3] none (some (w : Int))
      simp only [e_fSlF, e_fL, e_fLst, e_fCons, e_fNil, e_fC, Option.bind_some, e_oNone]
      rw [lim_ok (by decide)]
      simp [this]
    have hlen := cutD_len [1, 2, 3] none (some (w : Int))
    have hr : (fRep (fSlF (fL (fLst (fCons (fC (.int 1)) (fCons (fC (.int 2)) (fCons (fC (.int 3)) fNil))))) oNone (oSome (fV 1))) (fC (.int 2))) [some (.dat (.list (lI xs))), some (.dat (nI w)), some (.dat (nI a)), none, none, none] = some (.list (lN ((List.replicate 2 (cutD [1, 2, 3] none (some (w : Int)))).flatten))) := by
      unfold fRep
      rw [hs, Option.bind_some]
      show (if (0 : Int) ≤ 2 ∧ (2 : Int) ≤ 1000 ∧ (lN (cutD [1, 2, 3] none (some (w : Int)))).length ≤ 1000 then some (PyData.list (List.replicate (Int.toNat 2) (lN (cutD [1, 2, 3] none (some (w : Int))))).flatten) else none) = _
      rw [if_pos ⟨by decide, by decide, by rw [List.length_map]; simp at hlen; omega⟩]
      congr 2
      show (List.replicate 2 _).flatten = _
      rw [← List.map_replicate, ← List.map_flatten]
    rw [e_sSet, e_fSl, hr, Option.bind_some]
    show Option.map _ (some (PyData.list (cutD (lN ((List.replicate 2 (cutD [1, 2, 3] none (some (w : Int)))).flatten)) (some (a : Int)) (some ((a : Int) + (w : Int)))))) = _
    rw [cutN]
    rfl
  rw [sSeq_nx h1, sSeq_nx h2]
  obtain ⟨rev, h3⟩ : ∃ rev : Bool, (sIf (fB (f2 gEq (f2 gMod (f2 gIx (fR 0) (fC (.int 1))) (fC (.int 2))) (fC (.int 1)))) (sSet 3 (f1 gRevL (fR 3))) sNx) [some (.dat (.list (lI xs))), some (.dat (nI w)), some (.dat (nI a)), some (.dat (.list (lN (cols0 w a)))), none, none] = some (.nx [some (.dat (.list (lI xs))), some (.dat (nI w)), some (.dat (nI a)), some (.dat (.list (lN (colsR w a rev)))), none, none]) := by
    by_cases h : v1 % 2 = 1
    · exact ⟨true, by simp [a1, h, colsR]⟩
    · exact ⟨false, by simp [a1, h, colsR]⟩
  rw [sSeq_nx h3]
  have h4 : (sSet 3 (fSl (fR 3) oNone (oSome (f2 gAdd (fC (.int 1)) (f2 gMod (f2 gIx (fR 0) (fC (.int 2))) (fR 1)))))) [some (.dat (.list (lI xs))), some (.dat (nI w)), some (.dat (nI a)), some (.dat (.list (lN (colsR w a rev)))), none, none] = some (.nx [some (.dat (.list (lI xs))), some (.dat (nI w)), some (.dat (nI a)), some (.dat (.list (lN (colsOf w a q rev)))), none, none]) := by
    have := cutN (colsR w a rev) none (some (1 + (q : Int)))
    simp only [lN] at this
    simp [a2, hq, hwp, this, colsOf]
  rw [sSeq_nx h4]
  have hc := cols_ok w (by omega) a (by omega) q (by omega) rev hw (by omega) (by omega)
  generalize colsOf w a q rev = C at *
  obtain ⟨c1, c2, c3, c4⟩ := hc
  refine ⟨(List.range C.length).map fun i => (gd C i, decide (xs.getD (3 + i) 0 % 2 = 0)), ?_, ?_⟩
  · have he : (iE (fV 3)) [some (.dat (.list (lI xs))), some (.dat (nI w)), some (.dat (nI a)), some (.dat (.list (lN C))), none, none] = some ((List.range C.length).map fun i => .tuple [nI i, (lN C).getD i .none]) := by
      show some (enumD (lN C)) = _
      unfold enumD
      rw [List.length_map]
    have hlc : lcGo (gT [4, 5]) tYesF (fTup (fCons (fV 5) (fCons (f2 gIx (fL (fLst (fCons (fC (.str "up")) (fCons (fC (.str "down")) fNil)))) (f2 gMod (f2 gIx (fR 0) (f2 gAdd (fC (.int 3)) (fR 4))) (fC (.int 2)))) fNil))) [some (.dat (.list (lI xs))), some (.dat (nI w)), some (.dat (nI a)), some (.dat (.list (lN C))), none, none] ((List.range C.length).map fun i => .tuple [nI i, (lN C).getD i .none]) = some ((List.range C.length).map fun i => pD (gd C i, decide (xs.getD (3 + i) 0 % 2 = 0))) := by
      refine lcGo_mapG (fun i => PyData.tuple [nI i, (lN C).getD i .none]) (fun i => pD (gd C i, decide (xs.getD (3 + i) 0 % 2 = 0))) _ fun i hi => ?_
      have hi := List.mem_range.mp hi
      refine ⟨[some (.dat (.list (lI xs))), some (.dat (nI w)), some (.dat (nI a)), some (.dat (.list (lN C))), some (.dat (nI i)), some (.dat ((lN C).getD i .none))], rfl, ?_⟩
      have g1 : (lN C).getD i .none = nI (gd C i) := by
        rw [List.getD_eq_getElem?_getD, List.getElem?_map, List.getElem?_eq_getElem hi, gd_get hi]; rfl
      rw [g1]
      have g2 := at_getD (l := xs) (k := 3 + i) (by omega)
      have g3 : ((3 + i : Nat) : Int) = 3 + (i : Int) := by omega
      rw [g3] at g2
      have g4 := wD_at (xs.getD (3 + i) 0)
      generalize xs.getD (3 + i) 0 = z at *
      unfold pD
      generalize wD (decide (z % 2 = 0)) = W at *
      simp only [lI] at g2
      simp [g2, g4, lim_ok]
    have hf : (fLc (iE (fV 3)) (gT [4, 5]) tYesF (fTup (fCons (fV 5) (fCons (f2 gIx (fL (fLst (fCons (fC (.str "up")) (fCons (fC (.str "down")) fNil)))) (f2 gMod (f2 gIx (fR 0) (f2 gAdd (fC (.int 3)) (fR 4))) (fC (.int 2)))) fNil))) (List.map (fun p : PySem.Str × Nat => p.2) [("_law_k", 4), ("_law_column", 5)])) [some (.dat (.list (lI xs))), some (.dat (nI w)), some (.dat (nI a)), some (.dat (.list (lN C))), none, none] = some ((List.range C.length).map fun i => pD (gd C i, decide (xs.getD (3 + i) 0 % 2 = 0))) := by
      rw [e_fLc, he, Option.bind_some, List.length_map, List.length_range, lim_ok (by omega), Option.bind_some]
      exact hlc
    rw [e_sRet, e_f1, e_fL, hf]
    simp only [tO, lO, List.map_map]
    rfl
  · refine ⟨by simp; omega, by simp; omega, fun z hz => ?_, ?_⟩
    · obtain ⟨i, hi, rfl⟩ := List.mem_map.mp hz
      have hi := List.mem_range.mp hi
      have := c3 _ (gd_mem hi)
      exact ⟨this.1, by have := this.2; show gd C i ≤ 4; omega⟩
    · rw [List.map_map]
      have : (List.range C.length).map ((fun q : Nat × Bool => q.1) ∘ fun i => (gd C i, decide (xs.getD (3 + i) 0 % 2 = 0))) = C := gd_all C
      rw [this]; exact c4
end NM
/-! G9: the law answers True -/
namespace NM
open PySem DL
theorem cutI (l : List Int) (k : Nat) : cutD (lI l) (some (k : Int)) none = lI (l.drop k) := by
  rw [cut_drop]
  exact List.map_drop.symm
section
variable (F G : List D → Option D) (A B : D) (ys : List Int)
theorem lw1 (x2 x3 x4 x5 x6 : Option Cell) (z y : D) (hG : G [A, B] = some z) (hF : F [z, .int 60] = some y) : (sSet 2 (fCall F (fCons (fCall G (fCons (fV 0) (fCons (fV 1) fNil))) (fCons (fC (.int 60)) fNil)))) [some (.dat A), some (.dat B), x2, x3, x4, x5, x6] = some (.nx [some (.dat A), some (.dat B), some (.dat y), x3, x4, x5, x6]) := by
  simp [hG, hF]
theorem lw2 (x3 x4 x5 x6 : Option Cell) : (sSet 3 (fSl (fR 2) (oSome (fC (.int 32))) oNone)) [some (.dat A), some (.dat B), some (.dat (.list (lI ys))), x3, x4, x5, x6] = some (.nx [some (.dat A), some (.dat B), some (.dat (.list (lI ys))), some (.dat (.list (lI (ys.drop 32)))), x4, x5, x6]) := by
  have := cutI ys 32
  simp only [lI] at this
  have h : cutD (ys.map PyData.int) (some 32) none = (ys.drop 32).map PyData.int := this
  simp [h, -List.map_drop]
theorem lw3 (x4 x5 x6 : Option Cell) (X : D) (v : Int) (m : Nat) (r : D) (h0 : L2.atI (lI ys) 0 = some (.int v)) (hm : v / 2 % 8 = (m : Int)) (hF : F [X, nI m] = some r) : (sSet 4 (fCall F (fCons (fV 3) (fCons (f2 gMod (f2 gDiv (f2 gIx (fR 2) (fC (.int 0))) (fC (.int 2))) (fC (.int 8))) fNil)))) [some (.dat A), some (.dat B), some (.dat (.list (lI ys))), some (.dat X), x4, x5, x6] = some (.nx [some (.dat A), some (.dat B), some (.dat (.list (lI ys))), some (.dat X), some (.dat r), x5, x6]) := by
  simp only [lI] at h0
  simp [h0, hm, hF]
theorem lw4 (x5 x6 : Option Cell) (X r r' : D) (v : Int) (h0 : L2.atI (lI ys) 0 = some (.int v)) (hF : F [r, .list (lI (ys.drop 2))] = some r') : ∃ q, (q = r ∨ q = r') ∧ (sIf (fB (f2 gEq (f2 gMod (f2 gIx (fR 2) (fC (.int 0))) (fC (.int 2))) (fC (.int 1)))) (sSet 4 (fCall F (fCons (fV 4) (fCons (fSl (fR 2) (oSome (fC (.int 2))) oNone) fNil)))) sNx) [some (.dat A), some (.dat B), some (.dat (.list (lI ys))), some (.dat X), some (.dat r), x5, x6] = some (.nx [some (.dat A), some (.dat B), some (.dat (.list (lI ys))), some (.dat X), some (.dat q), x5, x6]) := by
  have := cutI ys 2
  simp only [lI] at this h0 hF
  have h : cutD (ys.map PyData.int) (some 2) none = (ys.drop 2).map PyData.int := this
  by_cases hv : v % 2 = 1
  · exact ⟨r', .inr rfl, by simp [h0, hv, h, hF, -List.map_drop]⟩
  · exact ⟨r, .inl rfl, by simp [h0, hv]⟩
theorem lw5 (x5 x6 : Option Cell) (xs : List Int) (r o : D) (v : Int) (m : Nat) (h0 : L2.atI (lI xs) 1 = some (.int v)) (hm : v % 3 = (m : Int)) (hF : F [.list (lI (ys.drop 9)), nI (1 + m)] = some o) : (sSet 5 (fCall F (fCons (fSl (fR 2) (oSome (fC (.int 9))) oNone) (fCons (f2 gAdd (fC (.int 1)) (f2 gMod (f2 gIx (fR 3) (fC (.int 1))) (fC (.int 3)))) fNil)))) [some (.dat A), some (.dat B), some (.dat (.list (lI ys))), some (.dat (.list (lI xs))), some (.dat r), x5, x6] = some (.nx [some (.dat A), some (.dat B), some (.dat (.list (lI ys))), some (.dat (.list (lI xs))), some (.dat r), some (.dat o), x6]) := by
  have := cutI ys 9
  have hi : nI (1 + m) = .int (1 + (m : Int)) := rfl
  rw [hi] at hF
  simp only [lI] at this h0 hF
  have h : cutD (ys.map PyData.int) (some 9) none = (ys.drop 9).map PyData.int := this
  simp [h0, hm, h, hF, -List.map_drop]
theorem lw6 (x2 x3 x6 : Option Cell) (r o : D) (hF : F [r, o] = some (.bool true)) : (tNotF (fB (fCall F (fCons (fV 4) (fCons (fV 5) fNil))))) [some (.dat A), some (.dat B), x2, x3, some (.dat r), some (.dat o), x6] = some false := by
  simp [hF]
theorem lw7 (x3 x6 : Option Cell) (r o : D) (d1 d2 : List D) (hF : F [r, o, .list (lI (ys.drop 24))] = some (.list d1)) (hG : G [r, o, .list (lI (ys.drop 28))] = some (.list d2)) (hl : d1.length + d2.length ≤ 100000) : (sSet 6 (f2 gAdd (fCall F (fCons (fV 4) (fCons (fV 5) (fCons (fSl (fR 2) (oSome (fC (.int 24))) oNone) fNil)))) (fCall G (fCons (fV 4) (fCons (fV 5) (fCons (fSl (fR 2) (oSome (fC (.int 28))) oNone) fNil)))))) [some (.dat A), some (.dat B), some (.dat (.list (lI ys))), x3, some (.dat r), some (.dat o), x6] = some (.nx [some (.dat A), some (.dat B), some (.dat (.list (lI ys))), x3, some (.dat r), some (.dat o), some (.dat (.list (d1 ++ d2)))]) := by
  have t1 := cutI ys 24
  have t2 := cutI ys 28
  simp only [lI] at t1 t2 hF hG
  have h1 : cutD (ys.map PyData.int) (some 24) none = (ys.drop 24).map PyData.int := t1
  have h2 : cutD (ys.map PyData.int) (some 28) none = (ys.drop 28).map PyData.int := t2
  have L : ∀ {α : Type} (a : α), lim (d1.length + d2.length) a = some a := fun a => lim_ok hl
  simp [h1, h2, hF, hG, L, -List.map_drop]
theorem lw8 (x3 : Option Cell) (r o : D) (d d3 : List D) (hG : G [r, o, .list (lI (ys.drop 29))] = some (.list d3)) (hF : F [.list (d ++ d3)] = some (.bool true)) (hl : d.length + d3.length ≤ 100000) : (sIf (tNotF (fB (fCall F (fCons (f2 gAdd (fR 6) (fCall G (fCons (fV 4) (fCons (fV 5) (fCons (fSl (fR 2) (oSome (fC (.int 29))) oNone) fNil))))) fNil)))) (sRet (fC (.bool false))) sNx) [some (.dat A), some (.dat B), some (.dat (.list (lI ys))), x3, some (.dat r), some (.dat o), some (.dat (.list d))] = some (.nx [some (.dat A), some (.dat B), some (.dat (.list (lI ys))), x3, some (.dat r), some (.dat o), some (.dat (.list d))]) := by
  have t1 := cutI ys 29
  simp only [lI] at t1 hG
  have h1 : cutD (ys.map PyData.int) (some 29) none = (ys.drop 29).map PyData.int := t1
  have L : ∀ {α : Type} (a : α), lim (d.length + d3.length) a = some a := fun a => lim_ok hl
  simp [h1, hF, hG, L, -List.map_drop]
end
theorem take4 {l : List Int} (h : 4 ≤ l.length) : ∃ a b d e r, l = a :: b :: d :: e :: r := by
  match l, h with
  | a :: b :: d :: e :: r, _ => exact ⟨a, b, d, e, r, rfl⟩
theorem law_turn (ns : List Int) (hn : ns.length ≤ 63) (k : Nat) (hk : k ≤ 4) (x2 x3 x4 x5 x6 : Option Cell) : ∃ y2 y3 y4 y5 y6, (sSeq (sSet 2 (fCall F_law_draws (fCons (fCall F_law_cell (fCons (fV 0) (fCons (fV 1) fNil))) (fCons (fC (.int 60)) fNil))))
  (sSeq (sSet 3 (fSl (fR 2) (oSome (fC (.int 32))) oNone))
  (sSeq (sSet 4 (fCall F_law_things (fCons (fV 3) (fCons (f2 gMod (f2 gDiv (f2 gIx (fR 2) (fC (.int 0))) (fC (.int 2))) (fC (.int 8))) fNil))))
  (sSeq (sIf (fB (f2 gEq (f2 gMod (f2 gIx (fR 2) (fC (.int 0))) (fC (.int 2))) (fC (.int 1)))) (sSet 4 (fCall F_law_spoilt (fCons (fV 4) (fCons (fSl (fR 2) (oSome (fC (.int 2))) oNone) fNil)))) sNx)
  (sSeq (sSet 5 (fCall F_law_order (fCons (fSl (fR 2) (oSome (fC (.int 9))) oNone) (fCons (f2 gAdd (fC (.int 1)) (f2 gMod (f2 gIx (fR 3) (fC (.int 1))) (fC (.int 3)))) fNil))))
  (sSeq (sIf (tNotF (fB (fCall F_law_shown (fCons (fV 4) (fCons (fV 5) fNil))))) (sRet (fC (.bool false))) sNx)
  (sSeq (sSet 6 (f2 gAdd (fCall F_law_lines (fCons (fV 4) (fCons (fV 5) (fCons (fSl (fR 2) (oSome (fC (.int 24))) oNone) fNil)))) (fCall F_law_stays (fCons (fV 4) (fCons (fV 5) (fCons (fSl (fR 2) (oSome (fC (.int 28))) oNone) fNil))))))
  (sIf (tNotF (fB (fCall F_law_sound (fCons (f2 gAdd (fR 6) (fCall F_law_runs (fCons (fV 4) (fCons (fV 5) (fCons (fSl (fR 2) (oSome (fC (.int 29))) oNone) fNil))))) fNil)))) (sRet (fC (.bool false))) sNx)))))))) [some (.dat (.list (lI ns))), some (.dat (nI k)), x2, x3, x4, x5, x6] = some (.nx [some (.dat (.list (lI ns))), some (.dat (nI k)), y2, y3, y4, y5, y6]) := by
  obtain ⟨z, hz⟩ := f_law_cell ns hn k hk
  obtain ⟨ys, hy, hyl, hyd⟩ := f_law_draws z
  obtain ⟨v0, a0, b0, _⟩ := at_Dr hyd (k := 0) (by omega)
  have a0 : L2.atI (lI ys) 0 = some (.int v0) := a0
  obtain ⟨v1, a1, _, _⟩ := at_Dr (hyd.drop 32) (k := 1) (by rw [List.length_drop]; omega)
  have a1 : L2.atI (lI (ys.drop 32)) 1 = some (.int v1) := a1
  obtain ⟨m, hm, hm8⟩ := mod_nat (v0 / 2) (m := 8) (by decide)
  obtain ⟨w, hw, hw3⟩ := mod_nat v1 (m := 3) (by decide)
  obtain ⟨r, hr, hrok⟩ := f_law_things (ys.drop 32) (hyd.drop 32) (by rw [List.length_drop]; omega) m (by omega)
  obtain ⟨r2, hr2, hrok2⟩ := f_law_spoilt r hrok (ys.drop 2) (hyd.drop 2) (by rw [List.length_drop]; omega)
  obtain ⟨o, ho, hook⟩ := f_law_order (ys.drop 9) (hyd.drop 9) (by rw [List.length_drop]; omega) (1 + w) (by omega) (by omega)
  rw [sSeq_nx (lw1 F_law_draws F_law_cell _ _ x2 x3 x4 x5 x6 _ _ hz hy)]
  rw [sSeq_nx (lw2 _ _ ys x3 x4 x5 x6)]
  rw [sSeq_nx (lw3 F_law_things _ _ ys x4 x5 x6 _ v0 m _ a0 hm hr)]
  obtain ⟨q, hq, e4⟩ := lw4 F_law_spoilt (.list (lI ns)) (nI k) ys x5 x6 (.list (lI (ys.drop 32))) _ _ v0 a0 hr2
  rw [sSeq_nx e4]
  obtain ⟨rr, hrr, hrrok⟩ : ∃ rr : List (List Ky), q = .tuple (rr.map tK) ∧ RowOk rr := by
    rcases hq with rfl | rfl
    · exact ⟨r, rfl, hrok⟩
    · exact ⟨r2, rfl, hrok2⟩
  subst hrr
  have S := sit_of hrrok hook
  rw [sSeq_nx (lw5 F_law_order _ _ ys x5 x6 (ys.drop 32) _ _ v1 w a1 hw ho)]
  rw [sIf_nx (lw6 F_law_shown _ _ _ _ x6 _ _ (f_law_shown S))]
  obtain ⟨p0, p1, p2, p3, pr, hp⟩ := take4 (l := ys.drop 24) (by rw [List.length_drop]; omega)
  obtain ⟨s0, s1, s2, s3, sr, hs⟩ := take4 (l := ys.drop 28) (by rw [List.length_drop]; omega)
  obtain ⟨t0, t1, t2, t3, tr, ht⟩ := take4 (l := ys.drop 29) (by rw [List.length_drop]; omega)
  obtain ⟨d1, g1, k1, l1⟩ := f_law_lines S p0 p1 p2 p3 (lI pr)
  obtain ⟨d2, g2, k2, l2⟩ := f_law_stays S s0 (.int s1 :: .int s2 :: .int s3 :: lI sr)
  obtain ⟨d3, g3, k3, l3⟩ := f_law_runs S t0 t1 (.int t2 :: .int t3 :: lI tr)
  have g1' : F_law_lines [.tuple (rr.map tK), tO o, .list (lI (ys.drop 24))] = some (.list d1) := by rw [hp]; exact g1
  have g2' : F_law_stays [.tuple (rr.map tK), tO o, .list (lI (ys.drop 28))] = some (.list d2) := by rw [hs]; exact g2
  have g3' : F_law_runs [.tuple (rr.map tK), tO o, .list (lI (ys.drop 29))] = some (.list d3) := by rw [ht]; exact g3
  have hso : F_law_sound [.list (d1 ++ d2 ++ d3)] = some (.bool true) := f_law_sound _ fun d hd => by
    rcases List.mem_append.mp hd with hd | hd
    · rcases List.mem_append.mp hd with hd | hd
      · exact k1 d hd
      · exact k2 d hd
    · exact k3 d hd
  rw [sSeq_nx (lw7 F_law_lines F_law_stays _ _ ys _ x6 _ _ d1 d2 g1' g2' (by omega))]
  rw [lw8 F_law_sound F_law_runs _ _ ys _ _ _ (d1 ++ d2) d3 g3' hso (by rw [List.length_append]; omega)]
  exact ⟨_, _, _, _, _, rfl⟩
theorem law_true (ns : List Int) (hn : ns.length ≤ 63) : F_law [.list (ns.map PyData.int)] = some (.bool true) := by
  rw [u_law]
  unfold B_law
  obtain ⟨m, hm, h1⟩ : ∃ m : Nat, m ≤ 4 ∧ (f2 gMax2 (fC (.int 2)) (f2 gMin2 (f1 gLen (fR 0)) (fC (.int 4)))) [some (.dat (.list (lI ns))), none, none, none, none, none, none] = some (nI m) := by
    by_cases h4 : 4 ≤ ns.length
    · refine ⟨4, by omega, ?_⟩
      have e : gMin2 (.int (ns.length : Int)) (.int 4) = some (.int 4) := by
        rw [e_gMin2]
        by_cases h : (4 : Int) < (ns.length : Int)
        · rw [if_pos h]
        · rw [if_neg h]
          have : (ns.length : Int) = 4 := by omega
          rw [this]
      show (gMin2 (.int ((lI ns).length : Int)) (.int 4)).bind (fun b => gMax2 (.int 2) b) = _
      rw [List.length_map, e, Option.bind_some]; rfl
    · have e : gMin2 (.int (ns.length : Int)) (.int 4) = some (.int (ns.length : Int)) := by
        rw [e_gMin2, if_neg (by omega)]
      by_cases h3 : 2 < ns.length
      · refine ⟨ns.length, by omega, ?_⟩
        show (gMin2 (.int ((lI ns).length : Int)) (.int 4)).bind (fun b => gMax2 (.int 2) b) = _
        rw [List.length_map, e, Option.bind_some, e_gMax2, if_pos (by omega)]
      · refine ⟨2, by omega, ?_⟩
        show (gMin2 (.int ((lI ns).length : Int)) (.int 4)).bind (fun b => gMax2 (.int 2) b) = _
        rw [List.length_map, e, Option.bind_some, e_gMax2, if_neg (by omega)]; rfl
  have h2 := iR1_nat m h1 (by omega)
  obtain ⟨ρ', e, y1, y2, y3, y4, y5, y6, rfl⟩ := loop_rng (n := m) (g := gN 1) (fun k ρ => ∃ y1 y2 y3 y4 y5 y6, ρ = [some (.dat (.list (lI ns))), y1, y2, y3, y4, y5, y6])
    (ρ := [some (.dat (.list (lI ns))), none, none, none, none, none, none]) ⟨_, _, _, _, _, _, rfl⟩ (by
    rintro k hk ρ ⟨y1, y2, y3, y4, y5, y6, rfl⟩
    obtain ⟨z2, z3, z4, z5, z6, e⟩ := law_turn ns hn k (by omega) y2 y3 y4 y5 y6
    exact ⟨_, _, rfl, e, _, _, _, _, _, _, rfl⟩)
  rw [sSeq_nx ((sFor_eq h2).trans e)]
  rfl
end NM
theorem PySem.Challenge.cw_nearmerge_k52_whole_never_both_holds : PySem.Challenge.rw_nearmerge_k52_whole_never_both.Holds := by
  exact NM.law_end NM.law_true
